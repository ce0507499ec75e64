/- Each Go function as a function over typed data, and its walk. -/
import Derived.Test.YtfkkccgopmcnaaaW0
import Derived.Test.YtfkkccgopmcnaaaW1
import Derived.Test.YtfkkccgopmcnaaaW2
import Derived.Test.YtfkkccgopmcnaaaW3
namespace Go.Proofs.Ytfkkccgopmcnaaa
open Go Go.Fw Go.Shelf
set_option maxRecDepth 100000
set_option maxHeartbeats 4000000
set_option linter.unusedSimpArgs false
set_option linter.unusedVariables false
def F87(x0:Resources):Option (Unit):=(F64 x0.CPU).bind fun t1=>(F62 ((⟨#[99,112,117]⟩:ByteArray)) ((⟨2,x0.CPU,(⟨#[]⟩:ByteArray),[],[]⟩:TValue))).bind fun t2=>(F64 x0.Disk).bind fun t3=>(F62 ((⟨#[100,105,115,107]⟩:ByteArray)) ((⟨2,x0.Disk,(⟨#[]⟩:ByteArray),[],[]⟩:TValue))).bind fun t4=>(F64 x0.Memory).bind fun t5=>(F62 ((⟨#[109,101,109,111,114,121]⟩:ByteArray)) ((⟨2,x0.Memory,(⟨#[]⟩:ByteArray),[],[]⟩:TValue))).bind fun t6=>(F61 ((lit [(⟨((⟨#[99,112,117]⟩:ByteArray)),(⟨(2:Int),x0.CPU,((⟨#[]⟩:ByteArray)),([]),([])⟩:TValue)⟩:TField),(⟨((⟨#[100,105,115,107]⟩:ByteArray)),(⟨(2:Int),x0.Disk,((⟨#[]⟩:ByteArray)),([]),([])⟩:TValue)⟩:TField),(⟨((⟨#[109,101,109,111,114,121]⟩:ByteArray)),(⟨(2:Int),x0.Memory,((⟨#[]⟩:ByteArray)),([]),([])⟩:TValue)⟩:TField)]))).bind fun t7=>some (())
def a87:AFn:=⟨17,[(.cell 2 (some 5))],
 (.seq (.reg [sq 1 (.box (.t 0)),
sq 2 (.zbox [dI 0,dI 0,dS ⟨#[]⟩,dN,dN])])
 (.seq (.regd [sq 3 (.fieldA 0 (.t 1)),
sd 4 (.load none (.t 3)) [0],
zn 5 (.call 64 [(.t 4)]) [0,1] [0,1],
zn 6 (.call 62 [(kS ⟨#[99,112,117]⟩),(.t 5)]) [0,1,2] [0,1,2],
sq 7 (.fieldA 2 (.t 1)),
sd 8 (.load none (.t 7)) [4],
zn 9 (.call 64 [(.t 8)]) [0,1,2,3,4,5] [0,1,2,3,4,5],
zn 10 (.call 62 [(kS ⟨#[100,105,115,107]⟩),(.t 9)]) [0,1,2,3,4,5,6] [0,1,2,3,4,5,6],
sq 11 (.fieldA 1 (.t 1)),
sd 12 (.load none (.t 11)) [8],
zl 13 (.call 64 [(.t 12)]) [0,1,2,3,4,5,6,7,8,9] [],
zl 14 (.call 62 [(kS ⟨#[109,101,109,111,114,121]⟩),(.t 13)]) [0,1,2,3,4,5,6,7,8,9,10] [],
zl 15 (.bslice 6 [(.t 6),(.t 10),(.t 14)]) [0,1,2,3,4,5,6,7,8,9,10,11] [],
zl 16 (.call 61 [(.t 15)]) [0,1,2,3,4,5,6,7,8,9,10,11,12] [],
⟨none,none,.store 5 (.t 2) (.t 16),[0,1,2,3,4,5,6,7,8,9,10,11,12,13],(.lone [])⟩])
 .ret))⟩
theorem F87_ok{x0 r}(h:F87 x0=some r):CallD Try.prog 87 [.agg [dI x0.CPU,dI x0.Memory,dI x0.Disk]] [] (tupV [.agg [dI 5,dI 0,dS ((⟨#[]⟩:ByteArray)),dM (([]:List TValue).map eTValue),dM ((((lit [(⟨((⟨#[99,112,117]⟩:ByteArray)),(⟨(2:Int),x0.CPU,((⟨#[]⟩:ByteArray)),([]),([])⟩:TValue)⟩:TField),(⟨((⟨#[100,105,115,107]⟩:ByteArray)),(⟨(2:Int),x0.Disk,((⟨#[]⟩:ByteArray)),([]),([])⟩:TValue)⟩:TField),(⟨((⟨#[109,101,109,111,114,121]⟩:ByteArray)),(⟨(2:Int),x0.Memory,((⟨#[]⟩:ByteArray)),([]),([])⟩:TValue)⟩:TField)]))).map eTField)]]) []:=by
 rw[F87]at h
 refine zc a87 (by kernel_rfl) rfl (ww ?_)
 obtain⟨t1,ht1,h⟩:=bi h
 refine cN [] (F64_ok ht1) trivial (ww ?_)
 obtain⟨t2,ht2,h⟩:=bi h
 refine cN [] (F62_ok ht2) trivial (ww ?_)
 obtain⟨t3,ht3,h⟩:=bi h
 refine cN [] (F64_ok ht3) trivial (ww ?_)
 obtain⟨t4,ht4,h⟩:=bi h
 refine cN [] (F62_ok ht4) trivial (ww ?_)
 obtain⟨t5,ht5,h⟩:=bi h
 refine cN [] (F64_ok ht5) trivial (ww ?_)
 obtain⟨t6,ht6,h⟩:=bi h
 refine cN [] (F62_ok ht6) trivial (ww ?_)
 refine t_bslice (enc:=eTField) (ys:=(lit [(⟨((⟨#[99,112,117]⟩:ByteArray)),(⟨(2:Int),x0.CPU,((⟨#[]⟩:ByteArray)),([]),([])⟩:TValue)⟩:TField),(⟨((⟨#[100,105,115,107]⟩:ByteArray)),(⟨(2:Int),x0.Disk,((⟨#[]⟩:ByteArray)),([]),([])⟩:TValue)⟩:TField),(⟨((⟨#[109,101,109,111,114,121]⟩:ByteArray)),(⟨(2:Int),x0.Memory,((⟨#[]⟩:ByteArray)),([]),([])⟩:TValue)⟩:TField)])) rfl rfl (by simp[A1.cells]) (by first|rfl|(simp only[List.drop_zero,take_mapL];rfl)|(simp only[lit,List.map_cons,List.map_nil,List.drop_zero,take_mapL,EE.down];done)|(simp only[lit,List.map_cons,List.map_nil,List.drop_zero,take_mapL,EE.down];rfl)) (ww ?_)
 obtain⟨t7,ht7,h⟩:=bi h
 refine callX_gen (as1:=[.c (dM (((lit [(⟨((⟨#[99,112,117]⟩:ByteArray)),(⟨(2:Int),x0.CPU,((⟨#[]⟩:ByteArray)),([]),([])⟩:TValue)⟩:TField),(⟨((⟨#[100,105,115,107]⟩:ByteArray)),(⟨(2:Int),x0.Disk,((⟨#[]⟩:ByteArray)),([]),([])⟩:TValue)⟩:TField),(⟨((⟨#[109,101,109,111,114,121]⟩:ByteArray)),(⟨(2:Int),x0.Memory,((⟨#[]⟩:ByteArray)),([]),([])⟩:TValue)⟩:TField)])).map eTField))]) [(2,.arr 1 6 [])] [some 0,some 1,none] [] (F61_ok ht7) ⟨?_,rfl,?_⟩ ?_ ?_ ?_ ?_ ?_ ?_ ?_ ?_
 ·simp only[ZZ.down,Nat.reduceEqDiff,reduceCtorEq,Nat.reduceAdd,Nat.reduceLeDiff,Nat.reduceLT,Nat.reduceBNe,EE.down]
 ·simp only[ZZ.down,Nat.reduceEqDiff,reduceCtorEq,Nat.reduceAdd,Nat.reduceLeDiff,Nat.reduceLT,Nat.reduceBNe,EE.down]
 ·simp only[ZZ.down,Nat.reduceEqDiff,reduceCtorEq,Nat.reduceAdd,Nat.reduceLeDiff,Nat.reduceLT,Nat.reduceBNe,EE.down]
 ·rfl
 ·rfl
 ·simp[liveAll,A1.live,C.live]
 ·rfl
 ·decide
 ·exact trivial
 refine ww ?_
 cases h
 exact eF []
def F71_l1:List ContainerStatus→Nat→(List TValue)→Option ((List TValue))
 |[],o1_1,o1_0=>some o1_0
 |xo1::xs,o1_1,o1_0=>(F64 xo1.ExitCode).bind fun t3=>(F62 ((⟨#[101,120,105,116,67,111,100,101]⟩:ByteArray)) ((⟨2,xo1.ExitCode,(⟨#[]⟩:ByteArray),[],[]⟩:TValue))).bind fun t4=>(F65 xo1.Name).bind fun t5=>(F62 ((⟨#[110,97,109,101]⟩:ByteArray)) ((⟨3,0,xo1.Name,[],[]⟩:TValue))).bind fun t6=>(F72 xo1.Ready).bind fun t7=>(F62 ((⟨#[114,101,97,100,121]⟩:ByteArray)) ((⟨1,t7,(⟨#[]⟩:ByteArray),[],[]⟩:TValue))).bind fun t8=>(F64 xo1.Restarts).bind fun t9=>(F62 ((⟨#[114,101,115,116,97,114,116,115]⟩:ByteArray)) ((⟨2,xo1.Restarts,(⟨#[]⟩:ByteArray),[],[]⟩:TValue))).bind fun t10=>(F64 xo1.Since).bind fun t11=>(F62 ((⟨#[115,105,110,99,101]⟩:ByteArray)) ((⟨2,xo1.Since,(⟨#[]⟩:ByteArray),[],[]⟩:TValue))).bind fun t12=>(F72 xo1.Started).bind fun t13=>(F62 ((⟨#[115,116,97,114,116,101,100]⟩:ByteArray)) ((⟨1,t13,(⟨#[]⟩:ByteArray),[],[]⟩:TValue))).bind fun t14=>(F64 xo1.State).bind fun t15=>(F62 ((⟨#[115,116,97,116,101]⟩:ByteArray)) ((⟨2,xo1.State,(⟨#[]⟩:ByteArray),[],[]⟩:TValue))).bind fun t16=>(F61 ((lit [(⟨((⟨#[101,120,105,116,67,111,100,101]⟩:ByteArray)),(⟨(2:Int),xo1.ExitCode,((⟨#[]⟩:ByteArray)),([]),([])⟩:TValue)⟩:TField),(⟨((⟨#[110,97,109,101]⟩:ByteArray)),(⟨(3:Int),(0:Int),xo1.Name,([]),([])⟩:TValue)⟩:TField),(⟨((⟨#[114,101,97,100,121]⟩:ByteArray)),(⟨(1:Int),t7,((⟨#[]⟩:ByteArray)),([]),([])⟩:TValue)⟩:TField),(⟨((⟨#[114,101,115,116,97,114,116,115]⟩:ByteArray)),(⟨(2:Int),xo1.Restarts,((⟨#[]⟩:ByteArray)),([]),([])⟩:TValue)⟩:TField),(⟨((⟨#[115,105,110,99,101]⟩:ByteArray)),(⟨(2:Int),xo1.Since,((⟨#[]⟩:ByteArray)),([]),([])⟩:TValue)⟩:TField),(⟨((⟨#[115,116,97,114,116,101,100]⟩:ByteArray)),(⟨(1:Int),t13,((⟨#[]⟩:ByteArray)),([]),([])⟩:TValue)⟩:TField),(⟨((⟨#[115,116,97,116,101]⟩:ByteArray)),(⟨(2:Int),xo1.State,((⟨#[]⟩:ByteArray)),([]),([])⟩:TValue)⟩:TField)]))).bind fun t17=>(apI o1_0 ([(⟨5,0,(⟨#[]⟩:ByteArray),[],((lit [(⟨((⟨#[101,120,105,116,67,111,100,101]⟩:ByteArray)),(⟨(2:Int),xo1.ExitCode,((⟨#[]⟩:ByteArray)),([]),([])⟩:TValue)⟩:TField),(⟨((⟨#[110,97,109,101]⟩:ByteArray)),(⟨(3:Int),(0:Int),xo1.Name,([]),([])⟩:TValue)⟩:TField),(⟨((⟨#[114,101,97,100,121]⟩:ByteArray)),(⟨(1:Int),t7,((⟨#[]⟩:ByteArray)),([]),([])⟩:TValue)⟩:TField),(⟨((⟨#[114,101,115,116,97,114,116,115]⟩:ByteArray)),(⟨(2:Int),xo1.Restarts,((⟨#[]⟩:ByteArray)),([]),([])⟩:TValue)⟩:TField),(⟨((⟨#[115,105,110,99,101]⟩:ByteArray)),(⟨(2:Int),xo1.Since,((⟨#[]⟩:ByteArray)),([]),([])⟩:TValue)⟩:TField),(⟨((⟨#[115,116,97,114,116,101,100]⟩:ByteArray)),(⟨(1:Int),t13,((⟨#[]⟩:ByteArray)),([]),([])⟩:TValue)⟩:TField),(⟨((⟨#[115,116,97,116,101]⟩:ByteArray)),(⟨(2:Int),xo1.State,((⟨#[]⟩:ByteArray)),([]),([])⟩:TValue)⟩:TField)]))⟩:TValue)])).bind fun a18=>F71_l1 xs (o1_1+1) a18
def F71(x0:(List ContainerStatus)):Option (((List TValue))):=(((ck (0≤x0.length∧x0.length≤4294967290)).bind fun u19=>F71_l1 x0 0 ([])).bind fun o1=>(F89 o1).bind fun t20=>some o1)
def a71:AFn:=⟨51,[(.cell 2 (some 5))],
 (.seq (.reg [zl 2 (.zbox [dI 0,dI 0,dS ⟨#[]⟩,dN,dN]) [] []])
 (.seq (.reg [sq 3 (.mv kN)])
 (.seq (.seq (.reg [sq 4 (.mv (kI 0))])
 (.sem (.block 0 (.loop (.seq (.seq (.reg [sq 6 (.mv (.t 4)),
sq 7 (.mv (.t 0)),
sq 8 (.len (.t 7)),
sq 9 (.bin .lss (.t 6) (.t 8))])
 (.cond (.t 9)
 .skip
 (.exit 0)))
 (.seq (.block 1 (.seq (.reg [sq 12 (.mv (.t 0)),
sq 13 (.mv (.t 4)),
sq 14 (.indexA 7 (.t 12) (.t 13)),
sq 15 (.load (some 7) (.t 14)),
sq 5 (.zbox [dS ⟨#[]⟩,dI 0,dI 0,dI 0,dI 0,dB false,dB false]),
su (.store 7 (.t 5) (.t 15))])
 (.regd [sq 16 (.mv (.t 3)),
sq 17 (.fieldA 3 (.t 5)),
sd 18 (.load none (.t 17)) [1],
zn 19 (.call 64 [(.t 18)]) [1,2] [1,2],
zn 20 (.call 62 [(kS ⟨#[101,120,105,116,67,111,100,101]⟩),(.t 19)]) [1,2,3] [1,2,3],
sq 21 (.fieldA 0 (.t 5)),
sd 22 (.load none (.t 21)) [5],
zn 23 (.call 65 [(.t 22)]) [1,2,3,4,5,6] [1,2,3,4,5,6],
zn 24 (.call 62 [(kS ⟨#[110,97,109,101]⟩),(.t 23)]) [1,2,3,4,5,6,7] [1,2,3,4,5,6,7],
sq 25 (.fieldA 5 (.t 5)),
sd 26 (.load none (.t 25)) [9],
zn 27 (.call 72 [(.t 26)]) [1,2,3,4,5,6,7,8,9,10] [1,2,3,4,5,6,7,8,9,10],
zn 28 (.call 62 [(kS ⟨#[114,101,97,100,121]⟩),(.t 27)]) [1,2,3,4,5,6,7,8,9,10,11] [1,2,3,4,5,6,7,8,9,10,11],
sq 29 (.fieldA 2 (.t 5)),
sd 30 (.load none (.t 29)) [13],
zn 31 (.call 64 [(.t 30)]) [1,2,3,4,5,6,7,8,9,10,11,12,13,14] [1,2,3,4,5,6,7,8,9,10,11,12,13,14],
zn 32 (.call 62 [(kS ⟨#[114,101,115,116,97,114,116,115]⟩),(.t 31)]) [1,2,3,4,5,6,7,8,9,10,11,12,13,14,15] [1,2,3,4,5,6,7,8,9,10,11,12,13,14,15],
sq 33 (.fieldA 4 (.t 5)),
sd 34 (.load none (.t 33)) [17],
zn 35 (.call 64 [(.t 34)]) [1,2,3,4,5,6,7,8,9,10,11,12,13,14,15,16,17,18] [1,2,3,4,5,6,7,8,9,10,11,12,13,14,15,16,17,18],
zn 36 (.call 62 [(kS ⟨#[115,105,110,99,101]⟩),(.t 35)]) [1,2,3,4,5,6,7,8,9,10,11,12,13,14,15,16,17,18,19] [1,2,3,4,5,6,7,8,9,10,11,12,13,14,15,16,17,18,19],
sq 37 (.fieldA 6 (.t 5)),
sd 38 (.load none (.t 37)) [21],
zn 39 (.call 72 [(.t 38)]) [1,2,3,4,5,6,7,8,9,10,11,12,13,14,15,16,17,18,19,20,21,22] [1,2,3,4,5,6,7,8,9,10,11,12,13,14,15,16,17,18,19,20,21,22],
zn 40 (.call 62 [(kS ⟨#[115,116,97,114,116,101,100]⟩),(.t 39)]) [1,2,3,4,5,6,7,8,9,10,11,12,13,14,15,16,17,18,19,20,21,22,23] [1,2,3,4,5,6,7,8,9,10,11,12,13,14,15,16,17,18,19,20,21,22,23],
sq 41 (.fieldA 1 (.t 5)),
sd 42 (.load none (.t 41)) [25],
zl 43 (.call 64 [(.t 42)]) [1,2,3,4,5,6,7,8,9,10,11,12,13,14,15,16,17,18,19,20,21,22,23,24,25,26] [],
zl 44 (.call 62 [(kS ⟨#[115,116,97,116,101]⟩),(.t 43)]) [1,2,3,4,5,6,7,8,9,10,11,12,13,14,15,16,17,18,19,20,21,22,23,24,25,26,27] [],
zl 45 (.bslice 6 [(.t 20),(.t 24),(.t 28),(.t 32),(.t 36),(.t 40),(.t 44)]) [1,2,3,4,5,6,7,8,9,10,11,12,13,14,15,16,17,18,19,20,21,22,23,24,25,26,27,28] [],
zl 46 (.call 61 [(.t 45)]) [1,2,3,4,5,6,7,8,9,10,11,12,13,14,15,16,17,18,19,20,21,22,23,24,25,26,27,28,29] [],
zl 47 (.bslice 5 [(.t 46)]) [1,2,3,4,5,6,7,8,9,10,11,12,13,14,15,16,17,18,19,20,21,22,23,24,25,26,27,28,29,30] [],
zl 48 (.app 5 80 (.t 16) (.t 47)) [0,1,2,3,4,5,6,7,8,9,10,11,12,13,14,15,16,17,18,19,20,21,22,23,24,25,26,27,28,29,30,31] [],
sd 3 (.mv (.t 48)) [0,1,2,3,4,5,6,7,8,9,10,11,12,13,14,15,16,17,18,19,20,21,22,23,24,25,26,27,28,29,30,31,32]])))
 (.reg [sq 10 (.mv (.t 4)),
sq 11 (.bin .add (.t 10) (kI 1)),
sq 4 (.mv (.t 11))])))))))
 (.seq (.reg [sq 49 (.mv (.t 3)),
sq 50 (.call 89 [(.t 49)]),
su (.store 5 (.t 2) (.t 50))])
 .ret))))⟩
theorem F71_ok{x0 r}(h:F71 x0=some r):CallD Try.prog 71 [.c (dM (x0.map eContainerStatus))] [] (tupV [.agg [dI 4,dI 0,dS ((⟨#[]⟩:ByteArray)),dM (r.map eTValue),dM (([]:List TField).map eTField)]]) []:=by
 rw[F71]at h
 refine zc a71 (by kernel_rfl) rfl (ww ?_)
 obtain⟨o1,ho,h⟩:=bi h
 refine cutS (fun s=>s=⟨[(2,.one (.c (.pt 0 0))),(3,.one (.c (.own 1 0 0 (o1.length) none)))],[some (.box [dI 0,dI 0,dS ((⟨#[]⟩:ByteArray)),dN,dN]),some (.arr 0 5 (o1.map eTValue))]⟩) ?_ ?_
 ·have h:=ho
  clear ho
  obtain⟨_,hk,h⟩:=bi h
  have hk:=ck_some hk
  refine ww ?_
  refine bL (fun j s=>∃(o1_1:Nat) (o1_0:List TValue),(o1_1≤x0.length∧j=x0.length-o1_1)∧s=⟨[(0,.one (.c (dM (x0.map eContainerStatus)))),(2,.one (.c (.pt 0 0))),(3,.one (.c (.own 1 0 0 (o1_0.length) none))),(4,.one (.c (dI ((o1_1:Int)))))],[some (.box [dI 0,dI 0,dS ((⟨#[]⟩:ByteArray)),dN,dN]),some (.arr 0 5 (o1_0.map eTValue))]⟩∧F71_l1 (x0.drop o1_1) o1_1 o1_0=some o1) (x0.length-0) [some 0,none] ⟨0,[],⟨hk.1,rfl⟩,rfl,h⟩ ?_
  rintro _ _ ⟨o1_1,o1_0,⟨hi,rfl⟩,rfl,h⟩
  refine ww ?_
  refine condS (fun c2=>?_) (fun c2=>?_)
  ·obtain⟨xo1,hxo1,hd⟩:=countY (show(o1_1:Int)<(x0.length:Int)from c2)
   rw[hd,F71_l1]at h
   refine ww ?_
   refine t_idxF (enc:=eContainerStatus) (xs:=x0) rfl rfl hxo1 rfl (ww ?_)
   obtain⟨t3,ht3,h⟩:=bi h
   refine cN [] (F64_ok ht3) trivial (ww ?_)
   obtain⟨t4,ht4,h⟩:=bi h
   refine cN [] (F62_ok ht4) trivial (ww ?_)
   obtain⟨t5,ht5,h⟩:=bi h
   refine cN [] (F65_ok ht5) trivial (ww ?_)
   obtain⟨t6,ht6,h⟩:=bi h
   refine cN [] (F62_ok ht6) trivial (ww ?_)
   obtain⟨t7,ht7,h⟩:=bi h
   refine cN [] (F72_ok ht7) trivial (ww ?_)
   obtain⟨t8,ht8,h⟩:=bi h
   refine cN [] (F62_ok ht8) trivial (ww ?_)
   obtain⟨t9,ht9,h⟩:=bi h
   refine cN [] (F64_ok ht9) trivial (ww ?_)
   obtain⟨t10,ht10,h⟩:=bi h
   refine cN [] (F62_ok ht10) trivial (ww ?_)
   obtain⟨t11,ht11,h⟩:=bi h
   refine cN [] (F64_ok ht11) trivial (ww ?_)
   obtain⟨t12,ht12,h⟩:=bi h
   refine cN [] (F62_ok ht12) trivial (ww ?_)
   obtain⟨t13,ht13,h⟩:=bi h
   refine cN [] (F72_ok ht13) trivial (ww ?_)
   obtain⟨t14,ht14,h⟩:=bi h
   refine cN [] (F62_ok ht14) trivial (ww ?_)
   obtain⟨t15,ht15,h⟩:=bi h
   refine cN [] (F64_ok ht15) trivial (ww ?_)
   obtain⟨t16,ht16,h⟩:=bi h
   refine cN [] (F62_ok ht16) trivial (ww ?_)
   refine t_bslice (enc:=eTField) (ys:=(lit [(⟨((⟨#[101,120,105,116,67,111,100,101]⟩:ByteArray)),(⟨(2:Int),xo1.ExitCode,((⟨#[]⟩:ByteArray)),([]),([])⟩:TValue)⟩:TField),(⟨((⟨#[110,97,109,101]⟩:ByteArray)),(⟨(3:Int),(0:Int),xo1.Name,([]),([])⟩:TValue)⟩:TField),(⟨((⟨#[114,101,97,100,121]⟩:ByteArray)),(⟨(1:Int),t7,((⟨#[]⟩:ByteArray)),([]),([])⟩:TValue)⟩:TField),(⟨((⟨#[114,101,115,116,97,114,116,115]⟩:ByteArray)),(⟨(2:Int),xo1.Restarts,((⟨#[]⟩:ByteArray)),([]),([])⟩:TValue)⟩:TField),(⟨((⟨#[115,105,110,99,101]⟩:ByteArray)),(⟨(2:Int),xo1.Since,((⟨#[]⟩:ByteArray)),([]),([])⟩:TValue)⟩:TField),(⟨((⟨#[115,116,97,114,116,101,100]⟩:ByteArray)),(⟨(1:Int),t13,((⟨#[]⟩:ByteArray)),([]),([])⟩:TValue)⟩:TField),(⟨((⟨#[115,116,97,116,101]⟩:ByteArray)),(⟨(2:Int),xo1.State,((⟨#[]⟩:ByteArray)),([]),([])⟩:TValue)⟩:TField)])) rfl rfl (by simp[A1.cells]) (by first|rfl|(simp only[List.drop_zero,take_mapL];rfl)|(simp only[lit,List.map_cons,List.map_nil,List.drop_zero,take_mapL,EE.down];done)|(simp only[lit,List.map_cons,List.map_nil,List.drop_zero,take_mapL,EE.down];rfl)) (ww ?_)
   obtain⟨t17,ht17,h⟩:=bi h
   refine callX_gen (as1:=[.c (dM (((lit [(⟨((⟨#[101,120,105,116,67,111,100,101]⟩:ByteArray)),(⟨(2:Int),xo1.ExitCode,((⟨#[]⟩:ByteArray)),([]),([])⟩:TValue)⟩:TField),(⟨((⟨#[110,97,109,101]⟩:ByteArray)),(⟨(3:Int),(0:Int),xo1.Name,([]),([])⟩:TValue)⟩:TField),(⟨((⟨#[114,101,97,100,121]⟩:ByteArray)),(⟨(1:Int),t7,((⟨#[]⟩:ByteArray)),([]),([])⟩:TValue)⟩:TField),(⟨((⟨#[114,101,115,116,97,114,116,115]⟩:ByteArray)),(⟨(2:Int),xo1.Restarts,((⟨#[]⟩:ByteArray)),([]),([])⟩:TValue)⟩:TField),(⟨((⟨#[115,105,110,99,101]⟩:ByteArray)),(⟨(2:Int),xo1.Since,((⟨#[]⟩:ByteArray)),([]),([])⟩:TValue)⟩:TField),(⟨((⟨#[115,116,97,114,116,101,100]⟩:ByteArray)),(⟨(1:Int),t13,((⟨#[]⟩:ByteArray)),([]),([])⟩:TValue)⟩:TField),(⟨((⟨#[115,116,97,116,101]⟩:ByteArray)),(⟨(2:Int),xo1.State,((⟨#[]⟩:ByteArray)),([]),([])⟩:TValue)⟩:TField)])).map eTField))]) [(3,.arr 1 6 [])] [some 0,some 1,some 2,none] [] (F61_ok ht17) ⟨?_,rfl,?_⟩ ?_ ?_ ?_ ?_ ?_ ?_ ?_ ?_
   ·simp only[ZZ.down,Nat.reduceEqDiff,reduceCtorEq,Nat.reduceAdd,Nat.reduceLeDiff,Nat.reduceLT,Nat.reduceBNe,EE.down]
   ·simp only[ZZ.down,Nat.reduceEqDiff,reduceCtorEq,Nat.reduceAdd,Nat.reduceLeDiff,Nat.reduceLT,Nat.reduceBNe,EE.down]
   ·simp only[ZZ.down,Nat.reduceEqDiff,reduceCtorEq,Nat.reduceAdd,Nat.reduceLeDiff,Nat.reduceLT,Nat.reduceBNe,EE.down]
   ·rfl
   ·rfl
   ·simp[liveAll,A1.live,C.live]
   ·rfl
   ·decide
   ·exact trivial
   refine ww ?_
   refine t_bslice (enc:=eTValue) (ys:=[(⟨5,0,(⟨#[]⟩:ByteArray),[],((lit [(⟨((⟨#[101,120,105,116,67,111,100,101]⟩:ByteArray)),(⟨(2:Int),xo1.ExitCode,((⟨#[]⟩:ByteArray)),([]),([])⟩:TValue)⟩:TField),(⟨((⟨#[110,97,109,101]⟩:ByteArray)),(⟨(3:Int),(0:Int),xo1.Name,([]),([])⟩:TValue)⟩:TField),(⟨((⟨#[114,101,97,100,121]⟩:ByteArray)),(⟨(1:Int),t7,((⟨#[]⟩:ByteArray)),([]),([])⟩:TValue)⟩:TField),(⟨((⟨#[114,101,115,116,97,114,116,115]⟩:ByteArray)),(⟨(2:Int),xo1.Restarts,((⟨#[]⟩:ByteArray)),([]),([])⟩:TValue)⟩:TField),(⟨((⟨#[115,105,110,99,101]⟩:ByteArray)),(⟨(2:Int),xo1.Since,((⟨#[]⟩:ByteArray)),([]),([])⟩:TValue)⟩:TField),(⟨((⟨#[115,116,97,114,116,101,100]⟩:ByteArray)),(⟨(1:Int),t13,((⟨#[]⟩:ByteArray)),([]),([])⟩:TValue)⟩:TField),(⟨((⟨#[115,116,97,116,101]⟩:ByteArray)),(⟨(2:Int),xo1.State,((⟨#[]⟩:ByteArray)),([]),([])⟩:TValue)⟩:TField)]))⟩:TValue)]) rfl rfl (by simp[A1.cells]) (by first|rfl|(simp only[List.drop_zero,take_mapL];rfl)|(simp only[lit,List.map_cons,List.map_nil,List.drop_zero,take_mapL,EE.down];done)|(simp only[lit,List.map_cons,List.map_nil,List.drop_zero,take_mapL,EE.down];rfl)) (ww ?_)
   obtain⟨a18,ha18,h⟩:=bi h
   refine t_app (enc:=eTValue) (xs:=o1_0) rfl rfl (by first|rfl|simp only[List.length_set]|exact(clrL_len (slI_len (by assumption))).symm) rfl (rows_full (enc:=eTValue) (by first|rfl|simp only[List.length_set]|exact(clrL_len (slI_len (by assumption))).symm) rfl) ha18 (ww ?_)
   rw[wrapN (by omega)]
   exact eL' (x0.length-(o1_1+1)) [some 0,some 1] ⟨o1_1+1,a18,⟨by omega,rfl⟩,rfl,h⟩ (by omega)
  rw[countN (show¬((o1_1:Int)<(x0.length:Int))from c2),F71_l1]at h
  refine ww ?_
  cases h
  exact eM [some 0,some 1] rfl
 rintro _ rfl
 clear ho
 refine ww ?_
 obtain⟨t20,ht20,h⟩:=bi h
 refine callX_gen (as1:=[.c (dM (o1.map eTValue))]) [(1,.arr 1 5 [])] [some 0,none] [] (F89_ok ht20) ⟨?_,rfl,?_⟩ ?_ ?_ ?_ ?_ ?_ ?_ ?_ ?_
 ·simp only[ZZ.down,Nat.reduceEqDiff,reduceCtorEq,Nat.reduceAdd,Nat.reduceLeDiff,Nat.reduceLT,Nat.reduceBNe,EE.down]
 ·simp only[ZZ.down,Nat.reduceEqDiff,reduceCtorEq,Nat.reduceAdd,Nat.reduceLeDiff,Nat.reduceLT,Nat.reduceBNe,EE.down]
 ·simp only[ZZ.down,Nat.reduceEqDiff,reduceCtorEq,Nat.reduceAdd,Nat.reduceLeDiff,Nat.reduceLT,Nat.reduceBNe,EE.down]
 ·rfl
 ·rfl
 ·simp[liveAll,A1.live,C.live]
 ·rfl
 ·decide
 ·exact trivial
 refine ww ?_
 cases h
 exact eF []
def F41(x0:TValue)(x1:Int):Option (Bool):=(F53k 1099511627776 x0 x1).bind fun t1=>some (decide (0≤t1))
def a41:AFn:=⟨9,[(.tmp 4)],
 (.seq (.reg [sq 2 (.box (.t 0)),
sq 4 (.mv (kB false))])
 (.seq (.reg [sq 5 (.load (some 5) (.t 2)),
sq 6 (.mv (.t 1)),
sq 7 (.call 53 [(.t 5),(.t 6)]),
sq 8 (.bin .geq (.t 7) (kI 0)),
sq 4 (.mv (.t 8))])
 .ret))⟩
theorem F41_ok{x0 x1 r}(h:F41 x0 x1=some r):CallD Try.prog 41 [.agg [dI x0.Kind,dI x0.N,dS x0.S,dM (x0.List_.map eTValue),dM (x0.Fields.map eTField)],.c (dI x1)] [] (tupV [.c (dB r)]) []:=by
 rw[F41]at h
 refine zc a41 (by kernel_rfl) rfl (ww ?_)
 obtain⟨t1,ht1,h⟩:=bi h
 refine cN [] (F53k_ok 1099511627776 ht1) trivial (ww ?_)
 cases h
 exact eF []
def F75_l1(x2:Int):Nat→(List Endpoint)→Int→Int→Option ((List Endpoint)×Int)
 |0,_,_,_=>none
 |k+1,o1_0,o1_1,o1_2=>(if¬(o1_1=o1_2)then(if o1_2<o1_1 then(F92 o1_0 ((IntKind.i64.wrap (x2-o1_1))) x2 o1_2).bind fun t4=>F75_l1 x2 k t4 ((IntKind.i64.wrap (o1_1-o1_2))) o1_2 else(F92 o1_0 ((IntKind.i64.wrap (x2-o1_1))) ((IntKind.i64.wrap (((IntKind.i64.wrap (x2+o1_2)))-o1_1))) o1_1).bind fun t5=>F75_l1 x2 k t5 o1_1 ((IntKind.i64.wrap (o1_2-o1_1))))else some ((o1_0,o1_1)))
def F75i(x0:(List Endpoint))(x1:Int)(x2:Int)(x3:Int):Option ((List Endpoint)):=((F75_l1 x2 1099511627776 x0 ((IntKind.i64.wrap (x2-x1))) ((IntKind.i64.wrap (x3-x2)))).bind fun o1=>(F92 o1.1 ((IntKind.i64.wrap (x2-o1.2))) x2 o1.2).bind fun t6=>some t6)
def F75(x0:(List Endpoint))(x1:Int)(x2:Int)(x3:Int):Option ((List Endpoint)):=(F75i x0 x1 x2 x3).bind fun r=>if r.length=x0.length then some r else none
theorem F75_len0{x0:(List Endpoint)}{x1:Int}{x2:Int}{x3:Int}{r:(List Endpoint)}(h:F75 x0 x1 x2 x3=some r):r.length=x0.length:=(guard_some h).2
def a75:AFn:=⟨58,[],
 (.seq (.reg [sq 12 (.mv (.t 2)),
sq 13 (.mv (.t 1)),
sq 14 (.bin .sub (.t 12) (.t 13)),
sq 10 (.mv (.t 14))])
 (.seq (.reg [sq 15 (.mv (.t 3)),
sq 16 (.mv (.t 2)),
sq 17 (.bin .sub (.t 15) (.t 16)),
sq 11 (.mv (.t 17))])
 (.seq (.sem (.block 0 (.loop (.seq (.seq (.reg [sq 18 (.mv (.t 10)),
sq 19 (.mv (.t 11)),
sq 20 (.bin .neq (.t 18) (.t 19))])
 (.cond (.t 20)
 .skip
 (.exit 0)))
 (.block 1 (.seq (.reg [sq 21 (.mv (.t 10)),
sq 22 (.mv (.t 11)),
sq 23 (.bin .gtr (.t 21) (.t 22))])
 (.cond (.t 23)
 (.seq (.reg [sq 24 (.mv (.t 0)),
sq 25 (.mv (.t 2)),
sq 26 (.mv (.t 10)),
sq 27 (.bin .sub (.t 25) (.t 26)),
sq 28 (.mv (.t 2)),
sq 29 (.mv (.t 11)),
sq 30 (.mv (.t 4)),
zl 31 (.call 92 [(.t 24),(.t 27),(.t 28),(.t 29),(.t 30)]) [] []])
 (.reg [sq 32 (.mv (.t 10)),
sq 33 (.mv (.t 11)),
sq 34 (.bin .sub (.t 32) (.t 33)),
sq 10 (.mv (.t 34))]))
 (.seq (.reg [sq 35 (.mv (.t 0)),
sq 36 (.mv (.t 2)),
sq 37 (.mv (.t 10)),
sq 38 (.bin .sub (.t 36) (.t 37)),
sq 39 (.mv (.t 2)),
sq 40 (.mv (.t 11)),
sq 41 (.bin .add (.t 39) (.t 40)),
sq 42 (.mv (.t 10)),
sq 43 (.bin .sub (.t 41) (.t 42)),
sq 44 (.mv (.t 10)),
sq 45 (.mv (.t 4)),
zl 46 (.call 92 [(.t 35),(.t 38),(.t 43),(.t 44),(.t 45)]) [] []])
 (.reg [sq 47 (.mv (.t 11)),
sq 48 (.mv (.t 10)),
sq 49 (.bin .sub (.t 47) (.t 48)),
sq 11 (.mv (.t 49))])))))))))
 (.reg [sq 50 (.mv (.t 0)),
sq 51 (.mv (.t 2)),
sq 52 (.mv (.t 10)),
sq 53 (.bin .sub (.t 51) (.t 52)),
sq 54 (.mv (.t 2)),
sq 55 (.mv (.t 10)),
sq 56 (.mv (.t 4)),
zl 57 (.call 92 [(.t 50),(.t 53),(.t 54),(.t 55),(.t 56)]) [] []]))))⟩
theorem F75_ok{x0 x1 x2 x3 r}{e0:Nat}(h:F75 x0 x1 x2 x3=some r):CallD Try.prog 75 [.c (.own 0 e0 0 (x0.length) none),.c (dI x1),.c (dI x2),.c (dI x3),.c (.fn 28 [])] [some (.arr e0 5 (x0.map eEndpoint))] (tupV []) [some (.arr e0 5 (r.map eEndpoint))]:=by
 replace h:=(guard_some h).1
 rw[F75i]at h
 refine zc a75 (by kernel_rfl) rfl (ww ?_)
 obtain⟨o1,ho,h⟩:=bi h
 refine cutS (fun s=>s=⟨[(0,.one (.c (.own 0 e0 0 (o1.1.length) none))),(2,.one (.c (dI x2))),(4,.one (.c (.fn 28 []))),(10,.one (.c (dI o1.2)))],[some (.arr e0 5 (o1.1.map eEndpoint))]⟩) ?_ ?_
 ·have h:=ho
  clear ho
  refine ww ?_
  refine bL (fun j s=>∃(o1_0:List Endpoint) (o1_1:Int) (o1_2:Int),s=⟨[(0,.one (.c (.own 0 e0 0 (o1_0.length) none))),(2,.one (.c (dI x2))),(4,.one (.c (.fn 28 []))),(10,.one (.c (dI o1_1))),(11,.one (.c (dI o1_2)))],[some (.arr e0 5 (o1_0.map eEndpoint))]⟩∧F75_l1 x2 j o1_0 o1_1 o1_2=some o1) 1099511627776 [some 0] ⟨x0,(IntKind.i64.wrap (x2-x1)),(IntKind.i64.wrap (x3-x2)),rfl,h⟩ ?_
  rintro j _ ⟨o1_0,o1_1,o1_2,rfl,h⟩
  cases j with
  |zero=>cases(show(none:Option _)=some _ from h)
  |succ j=>
   rw[F75_l1]at h
   refine ww ?_
   refine condSh h (fun c2 h=>?_) (fun c2 h=>?_)
   ·refine ww ?_
    refine condSh h (fun c3 h=>?_) (fun c3 h=>?_)
    ·refine ww ?_
     obtain⟨t4,ht4,h⟩:=bi h
     refine cN [0] (F92_ok (e0:=e0) ht4) ⟨⟨rfl,trivial⟩,trivial⟩ ?_
     refine ww ?_
     exact eL' j [some 0] ⟨t4,(IntKind.i64.wrap (o1_1-o1_2)),o1_2,rfl,h⟩ (Nat.lt_succ_self _) (hB:=by simp only[ZZ.down,Nat.reduceEqDiff,reduceCtorEq,Nat.reduceAdd,Nat.reduceLeDiff,Nat.reduceLT,Nat.reduceBNe,EE.down,F92_len0 ht4]) (hs:=by simp only[ZZ.down,Nat.reduceEqDiff,reduceCtorEq,Nat.reduceAdd,Nat.reduceLeDiff,Nat.reduceLT,Nat.reduceBNe,EE.down,F92_len0 ht4])
    ·refine ww ?_
     obtain⟨t5,ht5,h⟩:=bi h
     refine cN [0] (F92_ok (e0:=e0) ht5) ⟨⟨rfl,trivial⟩,trivial⟩ ?_
     refine ww ?_
     exact eL' j [some 0] ⟨t5,o1_1,(IntKind.i64.wrap (o1_2-o1_1)),rfl,h⟩ (Nat.lt_succ_self _) (hB:=by simp only[ZZ.down,Nat.reduceEqDiff,reduceCtorEq,Nat.reduceAdd,Nat.reduceLeDiff,Nat.reduceLT,Nat.reduceBNe,EE.down,F92_len0 ht5]) (hs:=by simp only[ZZ.down,Nat.reduceEqDiff,reduceCtorEq,Nat.reduceAdd,Nat.reduceLeDiff,Nat.reduceLT,Nat.reduceBNe,EE.down,F92_len0 ht5])
   ·refine ww ?_
    cases h
    exact eM [some 0] rfl
 rintro _ rfl
 clear ho
 refine ww ?_
 obtain⟨t6,ht6,h⟩:=bi h
 refine cN [0] (F92_ok (e0:=e0) ht6) ⟨⟨rfl,trivial⟩,trivial⟩ ?_
 refine ww ?_
 cases h
 exact eF [some 0] (hB:=by simp only[ZZ.down,Nat.reduceEqDiff,reduceCtorEq,Nat.reduceAdd,Nat.reduceLeDiff,Nat.reduceLT,Nat.reduceBNe,EE.down,F92_len0 ht6]) (hs:=by simp only[ZZ.down,Nat.reduceEqDiff,reduceCtorEq,Nat.reduceAdd,Nat.reduceLeDiff,Nat.reduceLT,Nat.reduceBNe,EE.down,F92_len0 ht6])
def Try.laysKeys48_ren:Go.Shelf.Ren:=⟨fun|10=>48|n=>n,fun|33=>105|23=>82|0=>0|4=>4|26=>9|3=>49|n=>n,fun|n=>n⟩
theorem Try.laysKeys48:Go.Proofs.SlLaysZ.n10 Try.prog Try.laysKeys48_ren:={
 mixed:=by kernel_rfl
 f10:=⟨Try.f48.name,by decide,Try.func48.trans (congrArg some (by kernel_rfl))⟩
 t0:=Try.underlying0
 a0:=Try.isAgg0
 z0:=Try.sizeOf0
 v0:=Try.zeroValue0
 t4:=Try.underlying4
 a4:=Try.isAgg4
 z4:=Try.sizeOf4
 v4:=Try.zeroValue4
 t23:=Try.underlying82
 a23:=Try.isAgg82
 z23:=Try.sizeOf82
 v23:=Try.zeroValue82
 t26:=Try.underlying9
 a26:=Try.isAgg9
 z26:=Try.sizeOf9
 v26:=Try.zeroValue9
 t33:=Try.underlying105
 a33:=Try.isAgg105
 z33:=Try.sizeOf105
 v33:=Try.zeroValue105}
theorem F34_48_ok{b1:List (ByteArray×Endpoint)}{r:List ByteArray}(h:keysI (b1.map Prod.fst)=some r):CallD Try.prog 34 [.c (.fn 48 [(0,0)])] [some (.box [.mref 1]),some (.map (eMs Value.string eEndpoint b1))] (tupV [.c (.own 2 0 0 r.length none)]) [some (.box [.mref 1]),some (.map (eMs Value.string eEndpoint b1)),some (.arr 0 1 (r.map eS))]:=L_sortedKeys (ρ:=Try.laysSorted_ren) (ρ2:=Try.laysKeys48_ren) (ρ3:=Try.laysSort_ren) Try.laysSorted Try.laysKeys48 Try.laysSort rfl (by kernel_rfl) rfl rfl (enters_of Try.func47 (by kernel_rfl) rfl) (enters_of Try.func48 (by kernel_rfl) rfl) (by simp only[eMs,List.map_map];rfl) h
def F38(x0:Requirement)(x1:(List Label)):Option (Bool):=(F49 x1 x0.Key).bind fun t1=>(if x0.Op=1 then(((if t1.2=true then(F50 x0.Values t1.1).bind fun t5=>some t5 else some false)).bind fun o3=>some o3)else(if x0.Op=2 then(((if(nb t1.2)=true then some true else(F50 x0.Values t1.1).bind fun t9=>some (nb t9))).bind fun o7=>some o7)else(((if x0.Op=3 then(if t1.2=true then some true else(if x0.Op=4 then some (nb t1.2)else some false))else(if x0.Op=4 then some (nb t1.2)else some false))).bind fun o10=>some o10)))
def a38:AFn:=⟨51,[(.tmp 4)],
 (.seq (.reg [sq 2 (.box (.t 0)),
sq 4 (.mv (kB false))])
 (.seq (.reg [sq 8 (.mv (.t 1)),
sq 9 (.fieldA 0 (.t 2)),
sq 10 (.load none (.t 9)),
sq 11 (.call 49 [(.t 8),(.t 10)]),
sq 7 (.mv (.t 11)),
sq 12 (.ext (.t 7) 0),
sq 13 (.ext (.t 7) 1),
sq 5 (.mv (.t 12)),
sq 6 (.mv (.t 13))])
 (.seq (.seq (.reg [sq 14 (.fieldA 1 (.t 2)),
sq 15 (.load none (.t 14)),
sq 16 (.bin .eql (.t 15) (kI 1))])
 (.cond (.t 16)
 (.seq (.sem (.reg [sq 17 (.mv (.t 6)),
sq 18 (.mv (.t 17)),
zg 19 18 true (.fieldA 2 (.t 2)),
zg 20 18 true (.load none (.t 19)),
zg 21 18 true (.mv (.t 5)),
zg 22 18 true (.call 50 [(.t 20),(.t 21)]),
sq 23 (.pick (.t 18) (.t 22) (kB false)),
sq 4 (.mv (.t 23))]))
 .ret)
 .skip))
 (.seq (.seq (.reg [sq 24 (.fieldA 1 (.t 2)),
sq 25 (.load none (.t 24)),
sq 26 (.bin .eql (.t 25) (kI 2))])
 (.cond (.t 26)
 (.seq (.sem (.reg [sq 27 (.mv (.t 6)),
sq 28 (.not (.t 27)),
sq 29 (.mv (.t 28)),
zg 30 29 false (.fieldA 2 (.t 2)),
zg 31 29 false (.load none (.t 30)),
zg 32 29 false (.mv (.t 5)),
zg 33 29 false (.call 50 [(.t 31),(.t 32)]),
zg 34 29 false (.not (.t 33)),
sq 35 (.pick (.t 29) (kB true) (.t 34)),
sq 4 (.mv (.t 35))]))
 .ret)
 .skip))
 (.seq (.sem (.reg [sq 36 (.fieldA 1 (.t 2)),
sq 37 (.load none (.t 36)),
sq 38 (.bin .eql (.t 37) (kI 3)),
sq 39 (.mv (.t 38)),
zg 40 39 true (.mv (.t 6)),
sq 41 (.pick (.t 39) (.t 40) (kB false)),
sq 42 (.mv (.t 41)),
zg 43 42 false (.fieldA 1 (.t 2)),
zg 44 42 false (.load none (.t 43)),
zg 45 42 false (.bin .eql (.t 44) (kI 4)),
zg 46 42 false (.mv (.t 45)),
zg 47 46 true (.mv (.t 6)),
zg 48 46 true (.not (.t 47)),
zg 49 42 false (.pick (.t 46) (.t 48) (kB false)),
sq 50 (.pick (.t 42) (kB true) (.t 49)),
sq 4 (.mv (.t 50))]))
 .ret)))))⟩
theorem F38_ok{x0 x1 r}(h:F38 x0 x1=some r):CallD Try.prog 38 [.agg [dS x0.Key,dI x0.Op,dM (x0.Values.map eS)],.c (dM (x1.map eLabel))] [] (tupV [.c (dB r)]) []:=by
 rw[F38]at h
 refine zc a38 (by kernel_rfl) rfl (ww ?_)
 obtain⟨t1,ht1,h⟩:=bi h
 refine cN [] (F49_ok ht1) trivial (ww ?_)
 refine condSh h (fun c2 h=>?_) (fun c2 h=>?_)
 ·refine ww ?_
  obtain⟨o3,ho,h⟩:=bi h
  refine cutS (fun s=>s=⟨[(4,.one (.c (dB o3)))],[]⟩) ?_ ?_
  ·have h:=ho
   clear ho
   refine ww ?_
   refine guardSBh h (fun g4 h=>?_) (fun g4 h=>?_)
   ·refine ww ?_
    obtain⟨t5,ht5,h⟩:=bi h
    refine cN [] (F50_ok ht5) trivial (ww ?_)
    cases h
    exact eM [] rfl
   refine ww ?_
   cases h
   exact eM [] rfl
  rintro _ rfl
  clear ho
  refine ww ?_
  cases h
  exact eF []
 refine ww ?_
 refine condSh h (fun c6 h=>?_) (fun c6 h=>?_)
 ·refine ww ?_
  obtain⟨o7,ho,h⟩:=bi h
  refine cutS (fun s=>s=⟨[(4,.one (.c (dB o7)))],[]⟩) ?_ ?_
  ·have h:=ho
   clear ho
   refine ww ?_
   refine guardSBh h (fun g8 h=>?_) (fun g8 h=>?_)
   ·refine ww ?_
    cases h
    exact eM [] rfl
   refine ww ?_
   obtain⟨t9,ht9,h⟩:=bi h
   refine cN [] (F50_ok ht9) trivial (ww ?_)
   cases h
   exact eM [] rfl
  rintro _ rfl
  clear ho
  refine ww ?_
  cases h
  exact eF []
 refine ww ?_
 obtain⟨o10,ho,h⟩:=bi h
 refine cutS (fun s=>s=⟨[(4,.one (.c (dB o10)))],[]⟩) ?_ ?_
 ·have h:=ho
  clear ho
  refine ww ?_
  refine guardSh h (fun g11 h=>?_) (fun g11 h=>?_)
  ·refine ww ?_
   refine guardSBh h (fun g12 h=>?_) (fun g12 h=>?_)
   ·refine ww ?_
    cases h
    exact eM [] rfl
   refine ww ?_
   refine guardSh h (fun g13 h=>?_) (fun g13 h=>?_)
   ·refine ww ?_
    cases h
    exact eM [] rfl
   refine ww ?_
   cases h
   exact eM [] rfl
  refine ww ?_
  refine guardSh h (fun g14 h=>?_) (fun g14 h=>?_)
  ·refine ww ?_
   cases h
   exact eM [] rfl
  refine ww ?_
  cases h
  exact eM [] rfl
 rintro _ rfl
 clear ho
 refine ww ?_
 cases h
 exact eF []
def F19(x0:Meta):Option (ByteArray):=(F39 x0.Kind x0.Namespace x0.Name).bind fun t1=>some t1
def a19:AFn:=⟨10,[(.tmp 2)],
 (.seq (.reg [sq 1 (.box (.t 0)),
sq 2 (.mv (kS ⟨#[]⟩))])
 (.seq (.reg [sq 3 (.fieldA 0 (.t 1)),
sq 4 (.load none (.t 3)),
sq 5 (.fieldA 1 (.t 1)),
sq 6 (.load none (.t 5)),
sq 7 (.fieldA 2 (.t 1)),
sq 8 (.load none (.t 7)),
sq 9 (.call 39 [(.t 4),(.t 6),(.t 8)]),
sq 2 (.mv (.t 9))])
 .ret))⟩
theorem F19_ok{x0 r}(h:F19 x0=some r):CallD Try.prog 19 [.agg [dS x0.Kind,dS x0.Namespace,dS x0.Name,dI x0.Uid,dI x0.Version,dI x0.Generation,dI x0.Created,dB x0.Deleting,dI x0.DeleteAt,dM (x0.Labels.map eLabel),dM (x0.Owners.map eOwner),dM (x0.Finalizers.map eS),dM (x0.Managers.map eManager)]] [] (tupV [.c (dS r)]) []:=by
 rw[F19]at h
 refine zc a19 (by kernel_rfl) rfl (ww ?_)
 obtain⟨t1,ht1,h⟩:=bi h
 refine cN [] (F39_ok ht1) trivial (ww ?_)
 cases h
 exact eF []
end Go.Proofs.Ytfkkccgopmcnaaa
