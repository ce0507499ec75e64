/- Each Go function as a function over typed data, and its walk. -/
import Derived.Test.YtfkkccgopmcnaaaW0
import Derived.Test.YtfkkccgopmcnaaaW1
import Derived.Test.YtfkkccgopmcnaaaW2
import Derived.Test.YtfkkccgopmcnaaaW3
import Derived.Test.YtfkkccgopmcnaaaW4
import Derived.Test.YtfkkccgopmcnaaaW5
namespace Go.Proofs.Ytfkkccgopmcnaaa
open Go Go.Fw Go.Shelf
set_option maxRecDepth 100000
set_option maxHeartbeats 4000000
set_option linter.unusedSimpArgs false
set_option linter.unusedVariables false
def F63_l1:List Container→Nat→(List TValue)→Option ((List TValue))
 |[],o1_1,o1_0=>some o1_0
 |xo1::xs,o1_1,o1_0=>(F65 xo1.Image).bind fun t3=>(F62 ((⟨#[105,109,97,103,101]⟩:ByteArray)) ((⟨3,0,xo1.Image,[],[]⟩:TValue))).bind fun t4=>(F87 xo1.Limit).bind fun t5=>(F62 ((⟨#[108,105,109,105,116]⟩:ByteArray)) ((⟨5,0,(⟨#[]⟩:ByteArray),[],((lit [(⟨((⟨#[99,112,117]⟩:ByteArray)),(⟨(2:Int),xo1.Limit.CPU,((⟨#[]⟩:ByteArray)),([]),([])⟩:TValue)⟩:TField),(⟨((⟨#[100,105,115,107]⟩:ByteArray)),(⟨(2:Int),xo1.Limit.Disk,((⟨#[]⟩:ByteArray)),([]),([])⟩:TValue)⟩:TField),(⟨((⟨#[109,101,109,111,114,121]⟩:ByteArray)),(⟨(2:Int),xo1.Limit.Memory,((⟨#[]⟩:ByteArray)),([]),([])⟩:TValue)⟩:TField)]))⟩:TValue))).bind fun t6=>(F88 xo1.Live).bind fun t7=>(F62 ((⟨#[108,105,118,101]⟩:ByteArray)) ((⟨4,0,(⟨#[]⟩:ByteArray),t7,[]⟩:TValue))).bind fun t8=>(F65 xo1.Name).bind fun t9=>(F62 ((⟨#[110,97,109,101]⟩:ByteArray)) ((⟨3,0,xo1.Name,[],[]⟩:TValue))).bind fun t10=>(F88 xo1.Ready).bind fun t11=>(F62 ((⟨#[114,101,97,100,121]⟩:ByteArray)) ((⟨4,0,(⟨#[]⟩:ByteArray),t11,[]⟩:TValue))).bind fun t12=>(F87 xo1.Request).bind fun t13=>(F62 ((⟨#[114,101,113,117,101,115,116]⟩:ByteArray)) ((⟨5,0,(⟨#[]⟩:ByteArray),[],((lit [(⟨((⟨#[99,112,117]⟩:ByteArray)),(⟨(2:Int),xo1.Request.CPU,((⟨#[]⟩:ByteArray)),([]),([])⟩:TValue)⟩:TField),(⟨((⟨#[100,105,115,107]⟩:ByteArray)),(⟨(2:Int),xo1.Request.Disk,((⟨#[]⟩:ByteArray)),([]),([])⟩:TValue)⟩:TField),(⟨((⟨#[109,101,109,111,114,121]⟩:ByteArray)),(⟨(2:Int),xo1.Request.Memory,((⟨#[]⟩:ByteArray)),([]),([])⟩:TValue)⟩:TField)]))⟩:TValue))).bind fun t14=>(F88 xo1.Startup).bind fun t15=>(F62 ((⟨#[115,116,97,114,116,117,112]⟩:ByteArray)) ((⟨4,0,(⟨#[]⟩:ByteArray),t15,[]⟩:TValue))).bind fun t16=>(F61 ((lit [(⟨((⟨#[105,109,97,103,101]⟩:ByteArray)),(⟨(3:Int),(0:Int),xo1.Image,([]),([])⟩:TValue)⟩:TField),(⟨((⟨#[108,105,109,105,116]⟩:ByteArray)),(⟨(5:Int),(0:Int),((⟨#[]⟩:ByteArray)),([]),(((lit [(⟨((⟨#[99,112,117]⟩:ByteArray)),(⟨(2:Int),xo1.Limit.CPU,((⟨#[]⟩:ByteArray)),([]),([])⟩:TValue)⟩:TField),(⟨((⟨#[100,105,115,107]⟩:ByteArray)),(⟨(2:Int),xo1.Limit.Disk,((⟨#[]⟩:ByteArray)),([]),([])⟩:TValue)⟩:TField),(⟨((⟨#[109,101,109,111,114,121]⟩:ByteArray)),(⟨(2:Int),xo1.Limit.Memory,((⟨#[]⟩:ByteArray)),([]),([])⟩:TValue)⟩:TField)])))⟩:TValue)⟩:TField),(⟨((⟨#[108,105,118,101]⟩:ByteArray)),(⟨(4:Int),(0:Int),((⟨#[]⟩:ByteArray)),t7,([])⟩:TValue)⟩:TField),(⟨((⟨#[110,97,109,101]⟩:ByteArray)),(⟨(3:Int),(0:Int),xo1.Name,([]),([])⟩:TValue)⟩:TField),(⟨((⟨#[114,101,97,100,121]⟩:ByteArray)),(⟨(4:Int),(0:Int),((⟨#[]⟩:ByteArray)),t11,([])⟩:TValue)⟩:TField),(⟨((⟨#[114,101,113,117,101,115,116]⟩:ByteArray)),(⟨(5:Int),(0:Int),((⟨#[]⟩:ByteArray)),([]),(((lit [(⟨((⟨#[99,112,117]⟩:ByteArray)),(⟨(2:Int),xo1.Request.CPU,((⟨#[]⟩:ByteArray)),([]),([])⟩:TValue)⟩:TField),(⟨((⟨#[100,105,115,107]⟩:ByteArray)),(⟨(2:Int),xo1.Request.Disk,((⟨#[]⟩:ByteArray)),([]),([])⟩:TValue)⟩:TField),(⟨((⟨#[109,101,109,111,114,121]⟩:ByteArray)),(⟨(2:Int),xo1.Request.Memory,((⟨#[]⟩:ByteArray)),([]),([])⟩:TValue)⟩:TField)])))⟩:TValue)⟩:TField),(⟨((⟨#[115,116,97,114,116,117,112]⟩:ByteArray)),(⟨(4:Int),(0:Int),((⟨#[]⟩:ByteArray)),t15,([])⟩:TValue)⟩:TField)]))).bind fun t17=>(apI o1_0 ([(⟨5,0,(⟨#[]⟩:ByteArray),[],((lit [(⟨((⟨#[105,109,97,103,101]⟩:ByteArray)),(⟨(3:Int),(0:Int),xo1.Image,([]),([])⟩:TValue)⟩:TField),(⟨((⟨#[108,105,109,105,116]⟩:ByteArray)),(⟨(5:Int),(0:Int),((⟨#[]⟩:ByteArray)),([]),(((lit [(⟨((⟨#[99,112,117]⟩:ByteArray)),(⟨(2:Int),xo1.Limit.CPU,((⟨#[]⟩:ByteArray)),([]),([])⟩:TValue)⟩:TField),(⟨((⟨#[100,105,115,107]⟩:ByteArray)),(⟨(2:Int),xo1.Limit.Disk,((⟨#[]⟩:ByteArray)),([]),([])⟩:TValue)⟩:TField),(⟨((⟨#[109,101,109,111,114,121]⟩:ByteArray)),(⟨(2:Int),xo1.Limit.Memory,((⟨#[]⟩:ByteArray)),([]),([])⟩:TValue)⟩:TField)])))⟩:TValue)⟩:TField),(⟨((⟨#[108,105,118,101]⟩:ByteArray)),(⟨(4:Int),(0:Int),((⟨#[]⟩:ByteArray)),t7,([])⟩:TValue)⟩:TField),(⟨((⟨#[110,97,109,101]⟩:ByteArray)),(⟨(3:Int),(0:Int),xo1.Name,([]),([])⟩:TValue)⟩:TField),(⟨((⟨#[114,101,97,100,121]⟩:ByteArray)),(⟨(4:Int),(0:Int),((⟨#[]⟩:ByteArray)),t11,([])⟩:TValue)⟩:TField),(⟨((⟨#[114,101,113,117,101,115,116]⟩:ByteArray)),(⟨(5:Int),(0:Int),((⟨#[]⟩:ByteArray)),([]),(((lit [(⟨((⟨#[99,112,117]⟩:ByteArray)),(⟨(2:Int),xo1.Request.CPU,((⟨#[]⟩:ByteArray)),([]),([])⟩:TValue)⟩:TField),(⟨((⟨#[100,105,115,107]⟩:ByteArray)),(⟨(2:Int),xo1.Request.Disk,((⟨#[]⟩:ByteArray)),([]),([])⟩:TValue)⟩:TField),(⟨((⟨#[109,101,109,111,114,121]⟩:ByteArray)),(⟨(2:Int),xo1.Request.Memory,((⟨#[]⟩:ByteArray)),([]),([])⟩:TValue)⟩:TField)])))⟩:TValue)⟩:TField),(⟨((⟨#[115,116,97,114,116,117,112]⟩:ByteArray)),(⟨(4:Int),(0:Int),((⟨#[]⟩:ByteArray)),t15,([])⟩:TValue)⟩:TField)]))⟩:TValue)])).bind fun a18=>F63_l1 xs (o1_1+1) a18
def F63(x0:(List Container)):Option (((List TValue))):=(((ck (0≤x0.length∧x0.length≤4294967290)).bind fun u19=>F63_l1 x0 0 ([])).bind fun o1=>(F89 o1).bind fun t20=>some o1)
def a63:AFn:=⟨51,[(.cell 2 (some 5))],
 (.seq (.reg [zl 2 (.zbox [dI 0,dI 0,dS ⟨#[]⟩,dN,dN]) [] []])
 (.seq (.reg [sq 3 (.mv kN)])
 (.seq (.seq (.reg [sq 4 (.mv (kI 0))])
 (.sem (.block 0 (.loop (.seq (.seq (.reg [sq 6 (.mv (.t 4)),
sq 7 (.mv (.t 0)),
sq 8 (.len (.t 7)),
sq 9 (.bin .lss (.t 6) (.t 8))])
 (.cond (.t 9)
 .skip
 (.exit 0)))
 (.seq (.block 1 (.seq (.reg [sq 12 (.mv (.t 0)),
sq 13 (.mv (.t 4)),
sq 14 (.indexA 11 (.t 12) (.t 13)),
sq 15 (.load (some 11) (.t 14)),
sq 5 (.zbox [dS ⟨#[]⟩,dS ⟨#[]⟩,dI 0,dI 0,dI 0,dI 0,dI 0,dI 0,dN,dN,dN]),
su (.store 11 (.t 5) (.t 15))])
 (.regd [sq 16 (.mv (.t 3)),
sq 17 (.fieldA 1 (.t 5)),
sd 18 (.load none (.t 17)) [1],
zn 19 (.call 65 [(.t 18)]) [1,2] [1,2],
zn 20 (.call 62 [(kS ⟨#[105,109,97,103,101]⟩),(.t 19)]) [1,2,3] [1,2,3],
sq 21 (.fieldA 5 (.t 5)),
sd 22 (.load (some 3) (.t 21)) [5],
zn 23 (.call 87 [(.t 22)]) [1,2,3,4,5,6] [1,2,3,4,5,6],
zn 24 (.call 62 [(kS ⟨#[108,105,109,105,116]⟩),(.t 23)]) [1,2,3,4,5,6,7] [1,2,3,4,5,6,7],
sq 25 (.fieldA 8 (.t 5)),
sd 26 (.load none (.t 25)) [9],
zn 27 (.call 88 [(.t 26)]) [1,2,3,4,5,6,7,8,9,10] [1,2,3,4,5,6,7,8,9,10],
zn 28 (.call 62 [(kS ⟨#[108,105,118,101]⟩),(.t 27)]) [1,2,3,4,5,6,7,8,9,10,11] [1,2,3,4,5,6,7,8,9,10,11],
sq 29 (.fieldA 0 (.t 5)),
sd 30 (.load none (.t 29)) [13],
zn 31 (.call 65 [(.t 30)]) [1,2,3,4,5,6,7,8,9,10,11,12,13,14] [1,2,3,4,5,6,7,8,9,10,11,12,13,14],
zn 32 (.call 62 [(kS ⟨#[110,97,109,101]⟩),(.t 31)]) [1,2,3,4,5,6,7,8,9,10,11,12,13,14,15] [1,2,3,4,5,6,7,8,9,10,11,12,13,14,15],
sq 33 (.fieldA 9 (.t 5)),
sd 34 (.load none (.t 33)) [17],
zn 35 (.call 88 [(.t 34)]) [1,2,3,4,5,6,7,8,9,10,11,12,13,14,15,16,17,18] [1,2,3,4,5,6,7,8,9,10,11,12,13,14,15,16,17,18],
zn 36 (.call 62 [(kS ⟨#[114,101,97,100,121]⟩),(.t 35)]) [1,2,3,4,5,6,7,8,9,10,11,12,13,14,15,16,17,18,19] [1,2,3,4,5,6,7,8,9,10,11,12,13,14,15,16,17,18,19],
sq 37 (.fieldA 2 (.t 5)),
sd 38 (.load (some 3) (.t 37)) [21],
zn 39 (.call 87 [(.t 38)]) [1,2,3,4,5,6,7,8,9,10,11,12,13,14,15,16,17,18,19,20,21,22] [1,2,3,4,5,6,7,8,9,10,11,12,13,14,15,16,17,18,19,20,21,22],
zn 40 (.call 62 [(kS ⟨#[114,101,113,117,101,115,116]⟩),(.t 39)]) [1,2,3,4,5,6,7,8,9,10,11,12,13,14,15,16,17,18,19,20,21,22,23] [1,2,3,4,5,6,7,8,9,10,11,12,13,14,15,16,17,18,19,20,21,22,23],
sq 41 (.fieldA 10 (.t 5)),
sd 42 (.load none (.t 41)) [25],
zl 43 (.call 88 [(.t 42)]) [1,2,3,4,5,6,7,8,9,10,11,12,13,14,15,16,17,18,19,20,21,22,23,24,25,26] [],
zl 44 (.call 62 [(kS ⟨#[115,116,97,114,116,117,112]⟩),(.t 43)]) [1,2,3,4,5,6,7,8,9,10,11,12,13,14,15,16,17,18,19,20,21,22,23,24,25,26,27] [],
zl 45 (.bslice 6 [(.t 20),(.t 24),(.t 28),(.t 32),(.t 36),(.t 40),(.t 44)]) [1,2,3,4,5,6,7,8,9,10,11,12,13,14,15,16,17,18,19,20,21,22,23,24,25,26,27,28] [],
zl 46 (.call 61 [(.t 45)]) [1,2,3,4,5,6,7,8,9,10,11,12,13,14,15,16,17,18,19,20,21,22,23,24,25,26,27,28,29] [],
zl 47 (.bslice 5 [(.t 46)]) [1,2,3,4,5,6,7,8,9,10,11,12,13,14,15,16,17,18,19,20,21,22,23,24,25,26,27,28,29,30] [],
zl 48 (.app 5 80 (.t 16) (.t 47)) [0,1,2,3,4,5,6,7,8,9,10,11,12,13,14,15,16,17,18,19,20,21,22,23,24,25,26,27,28,29,30,31] [],
sd 3 (.mv (.t 48)) [0,1,2,3,4,5,6,7,8,9,10,11,12,13,14,15,16,17,18,19,20,21,22,23,24,25,26,27,28,29,30,31,32]])))
 (.reg [sq 10 (.mv (.t 4)),
sq 11 (.bin .add (.t 10) (kI 1)),
sq 4 (.mv (.t 11))])))))))
 (.seq (.reg [sq 49 (.mv (.t 3)),
sq 50 (.call 89 [(.t 49)]),
su (.store 5 (.t 2) (.t 50))])
 .ret))))⟩
theorem F63_ok{x0 r}(h:F63 x0=some r):CallD Try.prog 63 [.c (dM (x0.map eContainer))] [] (tupV [.agg [dI 4,dI 0,dS ((⟨#[]⟩:ByteArray)),dM (r.map eTValue),dM (([]:List TField).map eTField)]]) []:=by
 rw[F63]at h
 refine zc a63 (by kernel_rfl) rfl (ww ?_)
 obtain⟨o1,ho,h⟩:=bi h
 refine cutS (fun s=>s=⟨[(2,.one (.c (.pt 0 0))),(3,.one (.c (.own 1 0 0 (o1.length) none)))],[some (.box [dI 0,dI 0,dS ((⟨#[]⟩:ByteArray)),dN,dN]),some (.arr 0 5 (o1.map eTValue))]⟩) ?_ ?_
 ·have h:=ho
  clear ho
  obtain⟨_,hk,h⟩:=bi h
  have hk:=ck_some hk
  refine ww ?_
  refine bL (fun j s=>∃(o1_1:Nat) (o1_0:List TValue),(o1_1≤x0.length∧j=x0.length-o1_1)∧s=⟨[(0,.one (.c (dM (x0.map eContainer)))),(2,.one (.c (.pt 0 0))),(3,.one (.c (.own 1 0 0 (o1_0.length) none))),(4,.one (.c (dI ((o1_1:Int)))))],[some (.box [dI 0,dI 0,dS ((⟨#[]⟩:ByteArray)),dN,dN]),some (.arr 0 5 (o1_0.map eTValue))]⟩∧F63_l1 (x0.drop o1_1) o1_1 o1_0=some o1) (x0.length-0) [some 0,none] ⟨0,[],⟨hk.1,rfl⟩,rfl,h⟩ ?_
  rintro _ _ ⟨o1_1,o1_0,⟨hi,rfl⟩,rfl,h⟩
  refine ww ?_
  refine condS (fun c2=>?_) (fun c2=>?_)
  ·obtain⟨xo1,hxo1,hd⟩:=countY (show(o1_1:Int)<(x0.length:Int)from c2)
   rw[hd,F63_l1]at h
   refine ww ?_
   refine t_idxF (enc:=eContainer) (xs:=x0) rfl rfl hxo1 rfl (ww ?_)
   obtain⟨t3,ht3,h⟩:=bi h
   refine cN [] (F65_ok ht3) trivial (ww ?_)
   obtain⟨t4,ht4,h⟩:=bi h
   refine cN [] (F62_ok ht4) trivial (ww ?_)
   obtain⟨t5,ht5,h⟩:=bi h
   refine cN [] (F87_ok ht5) trivial (ww ?_)
   obtain⟨t6,ht6,h⟩:=bi h
   refine cN [] (F62_ok ht6) trivial (ww ?_)
   obtain⟨t7,ht7,h⟩:=bi h
   refine cN [] (F88_ok ht7) trivial (ww ?_)
   obtain⟨t8,ht8,h⟩:=bi h
   refine cN [] (F62_ok ht8) trivial (ww ?_)
   obtain⟨t9,ht9,h⟩:=bi h
   refine cN [] (F65_ok ht9) trivial (ww ?_)
   obtain⟨t10,ht10,h⟩:=bi h
   refine cN [] (F62_ok ht10) trivial (ww ?_)
   obtain⟨t11,ht11,h⟩:=bi h
   refine cN [] (F88_ok ht11) trivial (ww ?_)
   obtain⟨t12,ht12,h⟩:=bi h
   refine cN [] (F62_ok ht12) trivial (ww ?_)
   obtain⟨t13,ht13,h⟩:=bi h
   refine cN [] (F87_ok ht13) trivial (ww ?_)
   obtain⟨t14,ht14,h⟩:=bi h
   refine cN [] (F62_ok ht14) trivial (ww ?_)
   obtain⟨t15,ht15,h⟩:=bi h
   refine cN [] (F88_ok ht15) trivial (ww ?_)
   obtain⟨t16,ht16,h⟩:=bi h
   refine cN [] (F62_ok ht16) trivial (ww ?_)
   refine t_bslice (enc:=eTField) (ys:=(lit [(⟨((⟨#[105,109,97,103,101]⟩:ByteArray)),(⟨(3:Int),(0:Int),xo1.Image,([]),([])⟩:TValue)⟩:TField),(⟨((⟨#[108,105,109,105,116]⟩:ByteArray)),(⟨(5:Int),(0:Int),((⟨#[]⟩:ByteArray)),([]),(((lit [(⟨((⟨#[99,112,117]⟩:ByteArray)),(⟨(2:Int),xo1.Limit.CPU,((⟨#[]⟩:ByteArray)),([]),([])⟩:TValue)⟩:TField),(⟨((⟨#[100,105,115,107]⟩:ByteArray)),(⟨(2:Int),xo1.Limit.Disk,((⟨#[]⟩:ByteArray)),([]),([])⟩:TValue)⟩:TField),(⟨((⟨#[109,101,109,111,114,121]⟩:ByteArray)),(⟨(2:Int),xo1.Limit.Memory,((⟨#[]⟩:ByteArray)),([]),([])⟩:TValue)⟩:TField)])))⟩:TValue)⟩:TField),(⟨((⟨#[108,105,118,101]⟩:ByteArray)),(⟨(4:Int),(0:Int),((⟨#[]⟩:ByteArray)),t7,([])⟩:TValue)⟩:TField),(⟨((⟨#[110,97,109,101]⟩:ByteArray)),(⟨(3:Int),(0:Int),xo1.Name,([]),([])⟩:TValue)⟩:TField),(⟨((⟨#[114,101,97,100,121]⟩:ByteArray)),(⟨(4:Int),(0:Int),((⟨#[]⟩:ByteArray)),t11,([])⟩:TValue)⟩:TField),(⟨((⟨#[114,101,113,117,101,115,116]⟩:ByteArray)),(⟨(5:Int),(0:Int),((⟨#[]⟩:ByteArray)),([]),(((lit [(⟨((⟨#[99,112,117]⟩:ByteArray)),(⟨(2:Int),xo1.Request.CPU,((⟨#[]⟩:ByteArray)),([]),([])⟩:TValue)⟩:TField),(⟨((⟨#[100,105,115,107]⟩:ByteArray)),(⟨(2:Int),xo1.Request.Disk,((⟨#[]⟩:ByteArray)),([]),([])⟩:TValue)⟩:TField),(⟨((⟨#[109,101,109,111,114,121]⟩:ByteArray)),(⟨(2:Int),xo1.Request.Memory,((⟨#[]⟩:ByteArray)),([]),([])⟩:TValue)⟩:TField)])))⟩:TValue)⟩:TField),(⟨((⟨#[115,116,97,114,116,117,112]⟩:ByteArray)),(⟨(4:Int),(0:Int),((⟨#[]⟩:ByteArray)),t15,([])⟩:TValue)⟩:TField)])) rfl rfl (by simp[A1.cells]) (by first|rfl|(simp only[List.drop_zero,take_mapL];rfl)|(simp only[lit,List.map_cons,List.map_nil,List.drop_zero,take_mapL,EE.down];done)|(simp only[lit,List.map_cons,List.map_nil,List.drop_zero,take_mapL,EE.down];rfl)) (ww ?_)
   obtain⟨t17,ht17,h⟩:=bi h
   refine callX_gen (as1:=[.c (dM (((lit [(⟨((⟨#[105,109,97,103,101]⟩:ByteArray)),(⟨(3:Int),(0:Int),xo1.Image,([]),([])⟩:TValue)⟩:TField),(⟨((⟨#[108,105,109,105,116]⟩:ByteArray)),(⟨(5:Int),(0:Int),((⟨#[]⟩:ByteArray)),([]),(((lit [(⟨((⟨#[99,112,117]⟩:ByteArray)),(⟨(2:Int),xo1.Limit.CPU,((⟨#[]⟩:ByteArray)),([]),([])⟩:TValue)⟩:TField),(⟨((⟨#[100,105,115,107]⟩:ByteArray)),(⟨(2:Int),xo1.Limit.Disk,((⟨#[]⟩:ByteArray)),([]),([])⟩:TValue)⟩:TField),(⟨((⟨#[109,101,109,111,114,121]⟩:ByteArray)),(⟨(2:Int),xo1.Limit.Memory,((⟨#[]⟩:ByteArray)),([]),([])⟩:TValue)⟩:TField)])))⟩:TValue)⟩:TField),(⟨((⟨#[108,105,118,101]⟩:ByteArray)),(⟨(4:Int),(0:Int),((⟨#[]⟩:ByteArray)),t7,([])⟩:TValue)⟩:TField),(⟨((⟨#[110,97,109,101]⟩:ByteArray)),(⟨(3:Int),(0:Int),xo1.Name,([]),([])⟩:TValue)⟩:TField),(⟨((⟨#[114,101,97,100,121]⟩:ByteArray)),(⟨(4:Int),(0:Int),((⟨#[]⟩:ByteArray)),t11,([])⟩:TValue)⟩:TField),(⟨((⟨#[114,101,113,117,101,115,116]⟩:ByteArray)),(⟨(5:Int),(0:Int),((⟨#[]⟩:ByteArray)),([]),(((lit [(⟨((⟨#[99,112,117]⟩:ByteArray)),(⟨(2:Int),xo1.Request.CPU,((⟨#[]⟩:ByteArray)),([]),([])⟩:TValue)⟩:TField),(⟨((⟨#[100,105,115,107]⟩:ByteArray)),(⟨(2:Int),xo1.Request.Disk,((⟨#[]⟩:ByteArray)),([]),([])⟩:TValue)⟩:TField),(⟨((⟨#[109,101,109,111,114,121]⟩:ByteArray)),(⟨(2:Int),xo1.Request.Memory,((⟨#[]⟩:ByteArray)),([]),([])⟩:TValue)⟩:TField)])))⟩:TValue)⟩:TField),(⟨((⟨#[115,116,97,114,116,117,112]⟩:ByteArray)),(⟨(4:Int),(0:Int),((⟨#[]⟩:ByteArray)),t15,([])⟩:TValue)⟩:TField)])).map eTField))]) [(3,.arr 1 6 [])] [some 0,some 1,some 2,none] [] (F61_ok ht17) ⟨?_,rfl,?_⟩ ?_ ?_ ?_ ?_ ?_ ?_ ?_ ?_
   ·simp only[ZZ.down,Nat.reduceEqDiff,reduceCtorEq,Nat.reduceAdd,Nat.reduceLeDiff,Nat.reduceLT,Nat.reduceBNe,EE.down]
   ·simp only[ZZ.down,Nat.reduceEqDiff,reduceCtorEq,Nat.reduceAdd,Nat.reduceLeDiff,Nat.reduceLT,Nat.reduceBNe,EE.down]
   ·simp only[ZZ.down,Nat.reduceEqDiff,reduceCtorEq,Nat.reduceAdd,Nat.reduceLeDiff,Nat.reduceLT,Nat.reduceBNe,EE.down]
   ·rfl
   ·rfl
   ·simp[liveAll,A1.live,C.live]
   ·rfl
   ·decide
   ·exact trivial
   refine ww ?_
   refine t_bslice (enc:=eTValue) (ys:=[(⟨5,0,(⟨#[]⟩:ByteArray),[],((lit [(⟨((⟨#[105,109,97,103,101]⟩:ByteArray)),(⟨(3:Int),(0:Int),xo1.Image,([]),([])⟩:TValue)⟩:TField),(⟨((⟨#[108,105,109,105,116]⟩:ByteArray)),(⟨(5:Int),(0:Int),((⟨#[]⟩:ByteArray)),([]),(((lit [(⟨((⟨#[99,112,117]⟩:ByteArray)),(⟨(2:Int),xo1.Limit.CPU,((⟨#[]⟩:ByteArray)),([]),([])⟩:TValue)⟩:TField),(⟨((⟨#[100,105,115,107]⟩:ByteArray)),(⟨(2:Int),xo1.Limit.Disk,((⟨#[]⟩:ByteArray)),([]),([])⟩:TValue)⟩:TField),(⟨((⟨#[109,101,109,111,114,121]⟩:ByteArray)),(⟨(2:Int),xo1.Limit.Memory,((⟨#[]⟩:ByteArray)),([]),([])⟩:TValue)⟩:TField)])))⟩:TValue)⟩:TField),(⟨((⟨#[108,105,118,101]⟩:ByteArray)),(⟨(4:Int),(0:Int),((⟨#[]⟩:ByteArray)),t7,([])⟩:TValue)⟩:TField),(⟨((⟨#[110,97,109,101]⟩:ByteArray)),(⟨(3:Int),(0:Int),xo1.Name,([]),([])⟩:TValue)⟩:TField),(⟨((⟨#[114,101,97,100,121]⟩:ByteArray)),(⟨(4:Int),(0:Int),((⟨#[]⟩:ByteArray)),t11,([])⟩:TValue)⟩:TField),(⟨((⟨#[114,101,113,117,101,115,116]⟩:ByteArray)),(⟨(5:Int),(0:Int),((⟨#[]⟩:ByteArray)),([]),(((lit [(⟨((⟨#[99,112,117]⟩:ByteArray)),(⟨(2:Int),xo1.Request.CPU,((⟨#[]⟩:ByteArray)),([]),([])⟩:TValue)⟩:TField),(⟨((⟨#[100,105,115,107]⟩:ByteArray)),(⟨(2:Int),xo1.Request.Disk,((⟨#[]⟩:ByteArray)),([]),([])⟩:TValue)⟩:TField),(⟨((⟨#[109,101,109,111,114,121]⟩:ByteArray)),(⟨(2:Int),xo1.Request.Memory,((⟨#[]⟩:ByteArray)),([]),([])⟩:TValue)⟩:TField)])))⟩:TValue)⟩:TField),(⟨((⟨#[115,116,97,114,116,117,112]⟩:ByteArray)),(⟨(4:Int),(0:Int),((⟨#[]⟩:ByteArray)),t15,([])⟩:TValue)⟩:TField)]))⟩:TValue)]) rfl rfl (by simp[A1.cells]) (by first|rfl|(simp only[List.drop_zero,take_mapL];rfl)|(simp only[lit,List.map_cons,List.map_nil,List.drop_zero,take_mapL,EE.down];done)|(simp only[lit,List.map_cons,List.map_nil,List.drop_zero,take_mapL,EE.down];rfl)) (ww ?_)
   obtain⟨a18,ha18,h⟩:=bi h
   refine t_app (enc:=eTValue) (xs:=o1_0) rfl rfl (by first|rfl|simp only[List.length_set]|exact(clrL_len (slI_len (by assumption))).symm) rfl (rows_full (enc:=eTValue) (by first|rfl|simp only[List.length_set]|exact(clrL_len (slI_len (by assumption))).symm) rfl) ha18 (ww ?_)
   rw[wrapN (by omega)]
   exact eL' (x0.length-(o1_1+1)) [some 0,some 1] ⟨o1_1+1,a18,⟨by omega,rfl⟩,rfl,h⟩ (by omega)
  rw[countN (show¬((o1_1:Int)<(x0.length:Int))from c2),F63_l1]at h
  refine ww ?_
  cases h
  exact eM [some 0,some 1] rfl
 rintro _ rfl
 clear ho
 refine ww ?_
 obtain⟨t20,ht20,h⟩:=bi h
 refine callX_gen (as1:=[.c (dM (o1.map eTValue))]) [(1,.arr 1 5 [])] [some 0,none] [] (F89_ok ht20) ⟨?_,rfl,?_⟩ ?_ ?_ ?_ ?_ ?_ ?_ ?_ ?_
 ·simp only[ZZ.down,Nat.reduceEqDiff,reduceCtorEq,Nat.reduceAdd,Nat.reduceLeDiff,Nat.reduceLT,Nat.reduceBNe,EE.down]
 ·simp only[ZZ.down,Nat.reduceEqDiff,reduceCtorEq,Nat.reduceAdd,Nat.reduceLeDiff,Nat.reduceLT,Nat.reduceBNe,EE.down]
 ·simp only[ZZ.down,Nat.reduceEqDiff,reduceCtorEq,Nat.reduceAdd,Nat.reduceLeDiff,Nat.reduceLT,Nat.reduceBNe,EE.down]
 ·rfl
 ·rfl
 ·simp[liveAll,A1.live,C.live]
 ·rfl
 ·decide
 ·exact trivial
 refine ww ?_
 cases h
 exact eF []
def F66_l1:List Requirement→Nat→(List TValue)→Option ((List TValue))
 |[],o1_1,o1_0=>some o1_0
 |xo1::xs,o1_1,o1_0=>(F65 xo1.Key).bind fun t3=>(F62 ((⟨#[107,101,121]⟩:ByteArray)) ((⟨3,0,xo1.Key,[],[]⟩:TValue))).bind fun t4=>(F64 xo1.Op).bind fun t5=>(F62 ((⟨#[111,112]⟩:ByteArray)) ((⟨2,xo1.Op,(⟨#[]⟩:ByteArray),[],[]⟩:TValue))).bind fun t6=>(F90 xo1.Values).bind fun t7=>(F62 ((⟨#[118,97,108,117,101,115]⟩:ByteArray)) ((⟨4,0,(⟨#[]⟩:ByteArray),t7,[]⟩:TValue))).bind fun t8=>(F61 ((lit [(⟨((⟨#[107,101,121]⟩:ByteArray)),(⟨(3:Int),(0:Int),xo1.Key,([]),([])⟩:TValue)⟩:TField),(⟨((⟨#[111,112]⟩:ByteArray)),(⟨(2:Int),xo1.Op,((⟨#[]⟩:ByteArray)),([]),([])⟩:TValue)⟩:TField),(⟨((⟨#[118,97,108,117,101,115]⟩:ByteArray)),(⟨(4:Int),(0:Int),((⟨#[]⟩:ByteArray)),t7,([])⟩:TValue)⟩:TField)]))).bind fun t9=>(apI o1_0 ([(⟨5,0,(⟨#[]⟩:ByteArray),[],((lit [(⟨((⟨#[107,101,121]⟩:ByteArray)),(⟨(3:Int),(0:Int),xo1.Key,([]),([])⟩:TValue)⟩:TField),(⟨((⟨#[111,112]⟩:ByteArray)),(⟨(2:Int),xo1.Op,((⟨#[]⟩:ByteArray)),([]),([])⟩:TValue)⟩:TField),(⟨((⟨#[118,97,108,117,101,115]⟩:ByteArray)),(⟨(4:Int),(0:Int),((⟨#[]⟩:ByteArray)),t7,([])⟩:TValue)⟩:TField)]))⟩:TValue)])).bind fun a10=>F66_l1 xs (o1_1+1) a10
def F66(x0:(List Requirement)):Option (((List TValue))):=(((ck (0≤x0.length∧x0.length≤4294967290)).bind fun u11=>F66_l1 x0 0 ([])).bind fun o1=>(F89 o1).bind fun t12=>some o1)
def a66:AFn:=⟨39,[(.cell 2 (some 5))],
 (.seq (.reg [zl 2 (.zbox [dI 0,dI 0,dS ⟨#[]⟩,dN,dN]) [] []])
 (.seq (.reg [sq 3 (.mv kN)])
 (.seq (.seq (.reg [sq 4 (.mv (kI 0))])
 (.sem (.block 0 (.loop (.seq (.seq (.reg [sq 5 (.mv (.t 4)),
sq 6 (.mv (.t 0)),
sq 7 (.len (.t 6)),
sq 8 (.bin .lss (.t 5) (.t 7))])
 (.cond (.t 8)
 .skip
 (.exit 0)))
 (.seq (.block 1 (.regd [sq 11 (.mv (.t 3)),
sq 12 (.mv (.t 0)),
sq 13 (.mv (.t 4)),
sd 14 (.indexA 3 (.t 12) (.t 13)) [1,2],
sd 15 (.fieldA 0 (.t 14)) [1,2,3],
sd 16 (.load none (.t 15)) [1,2,3,4],
zn 17 (.call 65 [(.t 16)]) [1,2,3,4,5] [1,2,3,4,5],
zn 18 (.call 62 [(kS ⟨#[107,101,121]⟩),(.t 17)]) [1,2,3,4,5,6] [1,2,3,4,5,6],
sq 19 (.mv (.t 0)),
sq 20 (.mv (.t 4)),
sd 21 (.indexA 3 (.t 19) (.t 20)) [8,9],
sd 22 (.fieldA 1 (.t 21)) [8,9,10],
sd 23 (.load none (.t 22)) [8,9,10,11],
zn 24 (.call 64 [(.t 23)]) [1,2,3,4,5,6,7,8,9,10,11,12] [1,2,3,4,5,6,7,8,9,10,11,12],
zn 25 (.call 62 [(kS ⟨#[111,112]⟩),(.t 24)]) [1,2,3,4,5,6,7,8,9,10,11,12,13] [1,2,3,4,5,6,7,8,9,10,11,12,13],
sq 26 (.mv (.t 0)),
sq 27 (.mv (.t 4)),
sd 28 (.indexA 3 (.t 26) (.t 27)) [15,16],
sd 29 (.fieldA 2 (.t 28)) [15,16,17],
sd 30 (.load none (.t 29)) [15,16,17,18],
zl 31 (.call 90 [(.t 30)]) [1,2,3,4,5,6,7,8,9,10,11,12,13,14,15,16,17,18,19] [],
zl 32 (.call 62 [(kS ⟨#[118,97,108,117,101,115]⟩),(.t 31)]) [1,2,3,4,5,6,7,8,9,10,11,12,13,14,15,16,17,18,19,20] [],
zl 33 (.bslice 6 [(.t 18),(.t 25),(.t 32)]) [1,2,3,4,5,6,7,8,9,10,11,12,13,14,15,16,17,18,19,20,21] [],
zl 34 (.call 61 [(.t 33)]) [1,2,3,4,5,6,7,8,9,10,11,12,13,14,15,16,17,18,19,20,21,22] [],
zl 35 (.bslice 5 [(.t 34)]) [1,2,3,4,5,6,7,8,9,10,11,12,13,14,15,16,17,18,19,20,21,22,23] [],
zl 36 (.app 5 80 (.t 11) (.t 35)) [0,1,2,3,4,5,6,7,8,9,10,11,12,13,14,15,16,17,18,19,20,21,22,23,24] [],
sd 3 (.mv (.t 36)) [0,1,2,3,4,5,6,7,8,9,10,11,12,13,14,15,16,17,18,19,20,21,22,23,24,25]]))
 (.reg [sq 9 (.mv (.t 4)),
sq 10 (.bin .add (.t 9) (kI 1)),
sq 4 (.mv (.t 10))])))))))
 (.seq (.reg [sq 37 (.mv (.t 3)),
sq 38 (.call 89 [(.t 37)]),
su (.store 5 (.t 2) (.t 38))])
 .ret))))⟩
theorem F66_ok{x0 r}(h:F66 x0=some r):CallD Try.prog 66 [.c (dM (x0.map eRequirement))] [] (tupV [.agg [dI 4,dI 0,dS ((⟨#[]⟩:ByteArray)),dM (r.map eTValue),dM (([]:List TField).map eTField)]]) []:=by
 rw[F66]at h
 refine zc a66 (by kernel_rfl) rfl (ww ?_)
 obtain⟨o1,ho,h⟩:=bi h
 refine cutS (fun s=>s=⟨[(2,.one (.c (.pt 0 0))),(3,.one (.c (.own 1 0 0 (o1.length) none)))],[some (.box [dI 0,dI 0,dS ((⟨#[]⟩:ByteArray)),dN,dN]),some (.arr 0 5 (o1.map eTValue))]⟩) ?_ ?_
 ·have h:=ho
  clear ho
  obtain⟨_,hk,h⟩:=bi h
  have hk:=ck_some hk
  refine ww ?_
  refine bL (fun j s=>∃(o1_1:Nat) (o1_0:List TValue),(o1_1≤x0.length∧j=x0.length-o1_1)∧s=⟨[(0,.one (.c (dM (x0.map eRequirement)))),(2,.one (.c (.pt 0 0))),(3,.one (.c (.own 1 0 0 (o1_0.length) none))),(4,.one (.c (dI ((o1_1:Int)))))],[some (.box [dI 0,dI 0,dS ((⟨#[]⟩:ByteArray)),dN,dN]),some (.arr 0 5 (o1_0.map eTValue))]⟩∧F66_l1 (x0.drop o1_1) o1_1 o1_0=some o1) (x0.length-0) [some 0,none] ⟨0,[],⟨hk.1,rfl⟩,rfl,h⟩ ?_
  rintro _ _ ⟨o1_1,o1_0,⟨hi,rfl⟩,rfl,h⟩
  refine ww ?_
  refine condS (fun c2=>?_) (fun c2=>?_)
  ·obtain⟨xo1,hxo1,hd⟩:=countY (show(o1_1:Int)<(x0.length:Int)from c2)
   rw[hd,F66_l1]at h
   refine ww ?_
   refine t_idxF (enc:=eRequirement) (xs:=x0) rfl rfl hxo1 rfl (ww ?_)
   obtain⟨t3,ht3,h⟩:=bi h
   refine cN [] (F65_ok ht3) trivial (ww ?_)
   obtain⟨t4,ht4,h⟩:=bi h
   refine cN [] (F62_ok ht4) trivial (ww ?_)
   refine t_idxF (enc:=eRequirement) (xs:=x0) rfl rfl hxo1 rfl (ww ?_)
   obtain⟨t5,ht5,h⟩:=bi h
   refine cN [] (F64_ok ht5) trivial (ww ?_)
   obtain⟨t6,ht6,h⟩:=bi h
   refine cN [] (F62_ok ht6) trivial (ww ?_)
   refine t_idxF (enc:=eRequirement) (xs:=x0) rfl rfl hxo1 rfl (ww ?_)
   obtain⟨t7,ht7,h⟩:=bi h
   refine cN [] (F90_ok ht7) trivial (ww ?_)
   obtain⟨t8,ht8,h⟩:=bi h
   refine cN [] (F62_ok ht8) trivial (ww ?_)
   refine t_bslice (enc:=eTField) (ys:=(lit [(⟨((⟨#[107,101,121]⟩:ByteArray)),(⟨(3:Int),(0:Int),xo1.Key,([]),([])⟩:TValue)⟩:TField),(⟨((⟨#[111,112]⟩:ByteArray)),(⟨(2:Int),xo1.Op,((⟨#[]⟩:ByteArray)),([]),([])⟩:TValue)⟩:TField),(⟨((⟨#[118,97,108,117,101,115]⟩:ByteArray)),(⟨(4:Int),(0:Int),((⟨#[]⟩:ByteArray)),t7,([])⟩:TValue)⟩:TField)])) rfl rfl (by simp[A1.cells]) (by first|rfl|(simp only[List.drop_zero,take_mapL];rfl)|(simp only[lit,List.map_cons,List.map_nil,List.drop_zero,take_mapL,EE.down];done)|(simp only[lit,List.map_cons,List.map_nil,List.drop_zero,take_mapL,EE.down];rfl)) (ww ?_)
   obtain⟨t9,ht9,h⟩:=bi h
   refine callX_gen (as1:=[.c (dM (((lit [(⟨((⟨#[107,101,121]⟩:ByteArray)),(⟨(3:Int),(0:Int),xo1.Key,([]),([])⟩:TValue)⟩:TField),(⟨((⟨#[111,112]⟩:ByteArray)),(⟨(2:Int),xo1.Op,((⟨#[]⟩:ByteArray)),([]),([])⟩:TValue)⟩:TField),(⟨((⟨#[118,97,108,117,101,115]⟩:ByteArray)),(⟨(4:Int),(0:Int),((⟨#[]⟩:ByteArray)),t7,([])⟩:TValue)⟩:TField)])).map eTField))]) [(2,.arr 1 6 [])] [some 0,some 1,none] [] (F61_ok ht9) ⟨?_,rfl,?_⟩ ?_ ?_ ?_ ?_ ?_ ?_ ?_ ?_
   ·simp only[ZZ.down,Nat.reduceEqDiff,reduceCtorEq,Nat.reduceAdd,Nat.reduceLeDiff,Nat.reduceLT,Nat.reduceBNe,EE.down]
   ·simp only[ZZ.down,Nat.reduceEqDiff,reduceCtorEq,Nat.reduceAdd,Nat.reduceLeDiff,Nat.reduceLT,Nat.reduceBNe,EE.down]
   ·simp only[ZZ.down,Nat.reduceEqDiff,reduceCtorEq,Nat.reduceAdd,Nat.reduceLeDiff,Nat.reduceLT,Nat.reduceBNe,EE.down]
   ·rfl
   ·rfl
   ·simp[liveAll,A1.live,C.live]
   ·rfl
   ·decide
   ·exact trivial
   refine ww ?_
   refine t_bslice (enc:=eTValue) (ys:=[(⟨5,0,(⟨#[]⟩:ByteArray),[],((lit [(⟨((⟨#[107,101,121]⟩:ByteArray)),(⟨(3:Int),(0:Int),xo1.Key,([]),([])⟩:TValue)⟩:TField),(⟨((⟨#[111,112]⟩:ByteArray)),(⟨(2:Int),xo1.Op,((⟨#[]⟩:ByteArray)),([]),([])⟩:TValue)⟩:TField),(⟨((⟨#[118,97,108,117,101,115]⟩:ByteArray)),(⟨(4:Int),(0:Int),((⟨#[]⟩:ByteArray)),t7,([])⟩:TValue)⟩:TField)]))⟩:TValue)]) rfl rfl (by simp[A1.cells]) (by first|rfl|(simp only[List.drop_zero,take_mapL];rfl)|(simp only[lit,List.map_cons,List.map_nil,List.drop_zero,take_mapL,EE.down];done)|(simp only[lit,List.map_cons,List.map_nil,List.drop_zero,take_mapL,EE.down];rfl)) (ww ?_)
   obtain⟨a10,ha10,h⟩:=bi h
   refine t_app (enc:=eTValue) (xs:=o1_0) rfl rfl (by first|rfl|simp only[List.length_set]|exact(clrL_len (slI_len (by assumption))).symm) rfl (rows_full (enc:=eTValue) (by first|rfl|simp only[List.length_set]|exact(clrL_len (slI_len (by assumption))).symm) rfl) ha10 (ww ?_)
   rw[wrapN (by omega)]
   exact eL' (x0.length-(o1_1+1)) [some 0,some 1] ⟨o1_1+1,a10,⟨by omega,rfl⟩,rfl,h⟩ (by omega)
  rw[countN (show¬((o1_1:Int)<(x0.length:Int))from c2),F66_l1]at h
  refine ww ?_
  cases h
  exact eM [some 0,some 1] rfl
 rintro _ rfl
 clear ho
 refine ww ?_
 obtain⟨t12,ht12,h⟩:=bi h
 refine callX_gen (as1:=[.c (dM (o1.map eTValue))]) [(1,.arr 1 5 [])] [some 0,none] [] (F89_ok ht12) ⟨?_,rfl,?_⟩ ?_ ?_ ?_ ?_ ?_ ?_ ?_ ?_
 ·simp only[ZZ.down,Nat.reduceEqDiff,reduceCtorEq,Nat.reduceAdd,Nat.reduceLeDiff,Nat.reduceLT,Nat.reduceBNe,EE.down]
 ·simp only[ZZ.down,Nat.reduceEqDiff,reduceCtorEq,Nat.reduceAdd,Nat.reduceLeDiff,Nat.reduceLT,Nat.reduceBNe,EE.down]
 ·simp only[ZZ.down,Nat.reduceEqDiff,reduceCtorEq,Nat.reduceAdd,Nat.reduceLeDiff,Nat.reduceLT,Nat.reduceBNe,EE.down]
 ·rfl
 ·rfl
 ·simp[liveAll,A1.live,C.live]
 ·rfl
 ·decide
 ·exact trivial
 refine ww ?_
 cases h
 exact eF []
def F54(x0:Requirement)(x1:(List Label)):Option (Bool):=(F73 x1 x0.Key).bind fun t1=>(if x0.Op=1 then(((if t1.2=true then(F74 x0.Values t1.1).bind fun t5=>some t5 else some false)).bind fun o3=>some o3)else(if x0.Op=2 then(((if(nb t1.2)=true then some true else(F74 x0.Values t1.1).bind fun t9=>some (nb t9))).bind fun o7=>some o7)else(if x0.Op=3 then some t1.2 else(if x0.Op=4 then some (nb t1.2)else some false))))
def a54:AFn:=⟨43,[(.tmp 4)],
 (.seq (.reg [sq 2 (.box (.t 0)),
sq 4 (.mv (kB false))])
 (.seq (.reg [sq 8 (.mv (.t 1)),
sq 9 (.fieldA 0 (.t 2)),
sq 10 (.load none (.t 9)),
sq 11 (.call 73 [(.t 8),(.t 10)]),
sq 7 (.mv (.t 11)),
sq 12 (.ext (.t 7) 0),
sq 13 (.ext (.t 7) 1),
sq 5 (.mv (.t 12)),
sq 6 (.mv (.t 13))])
 (.seq (.seq (.reg [sq 14 (.fieldA 1 (.t 2)),
sq 15 (.load none (.t 14))])
 (.block 0 (.seq (.reg [sq 17 (.bin .eql (.t 15) (kI 1)),
sq 16 (.mv (.t 17))])
 (.cond (.t 16)
 (.seq (.sem (.reg [sq 18 (.mv (.t 6)),
sq 19 (.mv (.t 18)),
zg 20 19 true (.fieldA 2 (.t 2)),
zg 21 19 true (.load none (.t 20)),
zg 22 19 true (.mv (.t 5)),
zg 23 19 true (.call 74 [(.t 21),(.t 22)]),
sq 24 (.pick (.t 19) (.t 23) (kB false)),
sq 4 (.mv (.t 24))]))
 .ret)
 (.seq (.reg [sq 26 (.bin .eql (.t 15) (kI 2)),
sq 25 (.mv (.t 26))])
 (.cond (.t 25)
 (.seq (.sem (.reg [sq 27 (.mv (.t 6)),
sq 28 (.not (.t 27)),
sq 29 (.mv (.t 28)),
zg 30 29 false (.fieldA 2 (.t 2)),
zg 31 29 false (.load none (.t 30)),
zg 32 29 false (.mv (.t 5)),
zg 33 29 false (.call 74 [(.t 31),(.t 32)]),
zg 34 29 false (.not (.t 33)),
sq 35 (.pick (.t 29) (kB true) (.t 34)),
sq 4 (.mv (.t 35))]))
 .ret)
 (.seq (.reg [sq 37 (.bin .eql (.t 15) (kI 3)),
sq 36 (.mv (.t 37))])
 (.cond (.t 36)
 (.seq (.reg [sq 38 (.mv (.t 6)),
sq 4 (.mv (.t 38))])
 .ret)
 (.seq (.reg [sq 40 (.bin .eql (.t 15) (kI 4)),
sq 39 (.mv (.t 40))])
 (.cond (.t 39)
 (.seq (.reg [sq 41 (.mv (.t 6)),
sq 42 (.not (.t 41)),
sq 4 (.mv (.t 42))])
 .ret)
 .skip))))))))))
 (.seq (.reg [sq 4 (.mv (kB false))])
 .ret))))⟩
theorem F54_ok{x0 x1 r}(h:F54 x0 x1=some r):CallD Try.prog 54 [.agg [dS x0.Key,dI x0.Op,dM (x0.Values.map eS)],.c (dM (x1.map eLabel))] [] (tupV [.c (dB r)]) []:=by
 rw[F54]at h
 refine zc a54 (by kernel_rfl) rfl (ww ?_)
 obtain⟨t1,ht1,h⟩:=bi h
 refine cN [] (F73_ok ht1) trivial (ww ?_)
 refine condSh h (fun c2 h=>?_) (fun c2 h=>?_)
 ·refine ww ?_
  obtain⟨o3,ho,h⟩:=bi h
  refine cutS (fun s=>s=⟨[(4,.one (.c (dB o3)))],[]⟩) ?_ ?_
  ·have h:=ho
   clear ho
   refine ww ?_
   refine guardSBh h (fun g4 h=>?_) (fun g4 h=>?_)
   ·refine ww ?_
    obtain⟨t5,ht5,h⟩:=bi h
    refine cN [] (F74_ok ht5) trivial (ww ?_)
    cases h
    exact eM [] rfl
   refine ww ?_
   cases h
   exact eM [] rfl
  rintro _ rfl
  clear ho
  refine ww ?_
  cases h
  exact eF []
 refine ww ?_
 refine condSh h (fun c6 h=>?_) (fun c6 h=>?_)
 ·refine ww ?_
  obtain⟨o7,ho,h⟩:=bi h
  refine cutS (fun s=>s=⟨[(4,.one (.c (dB o7)))],[]⟩) ?_ ?_
  ·have h:=ho
   clear ho
   refine ww ?_
   refine guardSBh h (fun g8 h=>?_) (fun g8 h=>?_)
   ·refine ww ?_
    cases h
    exact eM [] rfl
   refine ww ?_
   obtain⟨t9,ht9,h⟩:=bi h
   refine cN [] (F74_ok ht9) trivial (ww ?_)
   cases h
   exact eM [] rfl
  rintro _ rfl
  clear ho
  refine ww ?_
  cases h
  exact eF []
 refine ww ?_
 refine condSh h (fun c10 h=>?_) (fun c10 h=>?_)
 ·refine ww ?_
  cases h
  exact eF []
 refine ww ?_
 refine condSh h (fun c11 h=>?_) (fun c11 h=>?_)
 ·refine ww ?_
  cases h
  exact eF []
 refine ww ?_
 cases h
 exact eF []
end Go.Proofs.Ytfkkccgopmcnaaa
