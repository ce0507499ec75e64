/- Each Go function as a function over typed data, and its walk. -/
import Derived.Test.YtfkkccgopmcnaaaW0
import Derived.Test.YtfkkccgopmcnaaaW1
import Derived.Test.YtfkkccgopmcnaaaW2
import Derived.Test.YtfkkccgopmcnaaaW3
import Derived.Test.YtfkkccgopmcnaaaW5
import Derived.Test.YtfkkccgopmcnaaaW6
namespace Go.Proofs.Ytfkkccgopmcnaaa
open Go Go.Fw Go.Shelf
set_option maxRecDepth 100000
set_option maxHeartbeats 4000000
set_option linter.unusedSimpArgs false
set_option linter.unusedVariables false
def F67_l1:List NodeTerm→Nat→(List TValue)→Option ((List TValue))
 |[],o1_1,o1_0=>some o1_0
 |xo1::xs,o1_1,o1_0=>(F72 xo1.Required).bind fun t3=>(F62 ((⟨#[114,101,113,117,105,114,101,100]⟩:ByteArray)) ((⟨1,t3,(⟨#[]⟩:ByteArray),[],[]⟩:TValue))).bind fun t4=>(F66 xo1.Selector).bind fun t5=>(F62 ((⟨#[115,101,108,101,99,116,111,114]⟩:ByteArray)) ((⟨4,0,(⟨#[]⟩:ByteArray),t5,[]⟩:TValue))).bind fun t6=>(F64 xo1.Weight).bind fun t7=>(F62 ((⟨#[119,101,105,103,104,116]⟩:ByteArray)) ((⟨2,xo1.Weight,(⟨#[]⟩:ByteArray),[],[]⟩:TValue))).bind fun t8=>(F61 ((lit [(⟨((⟨#[114,101,113,117,105,114,101,100]⟩:ByteArray)),(⟨(1:Int),t3,((⟨#[]⟩:ByteArray)),([]),([])⟩:TValue)⟩:TField),(⟨((⟨#[115,101,108,101,99,116,111,114]⟩:ByteArray)),(⟨(4:Int),(0:Int),((⟨#[]⟩:ByteArray)),t5,([])⟩:TValue)⟩:TField),(⟨((⟨#[119,101,105,103,104,116]⟩:ByteArray)),(⟨(2:Int),xo1.Weight,((⟨#[]⟩:ByteArray)),([]),([])⟩:TValue)⟩:TField)]))).bind fun t9=>(apI o1_0 ([(⟨5,0,(⟨#[]⟩:ByteArray),[],((lit [(⟨((⟨#[114,101,113,117,105,114,101,100]⟩:ByteArray)),(⟨(1:Int),t3,((⟨#[]⟩:ByteArray)),([]),([])⟩:TValue)⟩:TField),(⟨((⟨#[115,101,108,101,99,116,111,114]⟩:ByteArray)),(⟨(4:Int),(0:Int),((⟨#[]⟩:ByteArray)),t5,([])⟩:TValue)⟩:TField),(⟨((⟨#[119,101,105,103,104,116]⟩:ByteArray)),(⟨(2:Int),xo1.Weight,((⟨#[]⟩:ByteArray)),([]),([])⟩:TValue)⟩:TField)]))⟩:TValue)])).bind fun a10=>F67_l1 xs (o1_1+1) a10
def F67(x0:(List NodeTerm)):Option (((List TValue))):=(((ck (0≤x0.length∧x0.length≤4294967290)).bind fun u11=>F67_l1 x0 0 ([])).bind fun o1=>(F89 o1).bind fun t12=>some o1)
def a67:AFn:=⟨39,[(.cell 2 (some 5))],
 (.seq (.reg [zl 2 (.zbox [dI 0,dI 0,dS ⟨#[]⟩,dN,dN]) [] []])
 (.seq (.reg [sq 3 (.mv kN)])
 (.seq (.seq (.reg [sq 4 (.mv (kI 0))])
 (.sem (.block 0 (.loop (.seq (.seq (.reg [sq 5 (.mv (.t 4)),
sq 6 (.mv (.t 0)),
sq 7 (.len (.t 6)),
sq 8 (.bin .lss (.t 5) (.t 7))])
 (.cond (.t 8)
 .skip
 (.exit 0)))
 (.seq (.block 1 (.regd [sq 11 (.mv (.t 3)),
sq 12 (.mv (.t 0)),
sq 13 (.mv (.t 4)),
sd 14 (.indexA 3 (.t 12) (.t 13)) [1,2],
sd 15 (.fieldA 0 (.t 14)) [1,2,3],
sd 16 (.load none (.t 15)) [1,2,3,4],
zn 17 (.call 72 [(.t 16)]) [1,2,3,4,5] [1,2,3,4,5],
zn 18 (.call 62 [(kS ⟨#[114,101,113,117,105,114,101,100]⟩),(.t 17)]) [1,2,3,4,5,6] [1,2,3,4,5,6],
sq 19 (.mv (.t 0)),
sq 20 (.mv (.t 4)),
sd 21 (.indexA 3 (.t 19) (.t 20)) [8,9],
sd 22 (.fieldA 1 (.t 21)) [8,9,10],
sd 23 (.load none (.t 22)) [8,9,10,11],
zn 24 (.call 66 [(.t 23)]) [1,2,3,4,5,6,7,8,9,10,11,12] [1,2,3,4,5,6,7,8,9,10,11,12],
zn 25 (.call 62 [(kS ⟨#[115,101,108,101,99,116,111,114]⟩),(.t 24)]) [1,2,3,4,5,6,7,8,9,10,11,12,13] [1,2,3,4,5,6,7,8,9,10,11,12,13],
sq 26 (.mv (.t 0)),
sq 27 (.mv (.t 4)),
sd 28 (.indexA 3 (.t 26) (.t 27)) [15,16],
sd 29 (.fieldA 2 (.t 28)) [15,16,17],
sd 30 (.load none (.t 29)) [15,16,17,18],
zl 31 (.call 64 [(.t 30)]) [1,2,3,4,5,6,7,8,9,10,11,12,13,14,15,16,17,18,19] [],
zl 32 (.call 62 [(kS ⟨#[119,101,105,103,104,116]⟩),(.t 31)]) [1,2,3,4,5,6,7,8,9,10,11,12,13,14,15,16,17,18,19,20] [],
zl 33 (.bslice 6 [(.t 18),(.t 25),(.t 32)]) [1,2,3,4,5,6,7,8,9,10,11,12,13,14,15,16,17,18,19,20,21] [],
zl 34 (.call 61 [(.t 33)]) [1,2,3,4,5,6,7,8,9,10,11,12,13,14,15,16,17,18,19,20,21,22] [],
zl 35 (.bslice 5 [(.t 34)]) [1,2,3,4,5,6,7,8,9,10,11,12,13,14,15,16,17,18,19,20,21,22,23] [],
zl 36 (.app 5 80 (.t 11) (.t 35)) [0,1,2,3,4,5,6,7,8,9,10,11,12,13,14,15,16,17,18,19,20,21,22,23,24] [],
sd 3 (.mv (.t 36)) [0,1,2,3,4,5,6,7,8,9,10,11,12,13,14,15,16,17,18,19,20,21,22,23,24,25]]))
 (.reg [sq 9 (.mv (.t 4)),
sq 10 (.bin .add (.t 9) (kI 1)),
sq 4 (.mv (.t 10))])))))))
 (.seq (.reg [sq 37 (.mv (.t 3)),
sq 38 (.call 89 [(.t 37)]),
su (.store 5 (.t 2) (.t 38))])
 .ret))))⟩
theorem F67_ok{x0 r}(h:F67 x0=some r):CallD Try.prog 67 [.c (dM (x0.map eNodeTerm))] [] (tupV [.agg [dI 4,dI 0,dS ((⟨#[]⟩:ByteArray)),dM (r.map eTValue),dM (([]:List TField).map eTField)]]) []:=by
 rw[F67]at h
 refine zc a67 (by kernel_rfl) rfl (ww ?_)
 obtain⟨o1,ho,h⟩:=bi h
 refine cutS (fun s=>s=⟨[(2,.one (.c (.pt 0 0))),(3,.one (.c (.own 1 0 0 (o1.length) none)))],[some (.box [dI 0,dI 0,dS ((⟨#[]⟩:ByteArray)),dN,dN]),some (.arr 0 5 (o1.map eTValue))]⟩) ?_ ?_
 ·have h:=ho
  clear ho
  obtain⟨_,hk,h⟩:=bi h
  have hk:=ck_some hk
  refine ww ?_
  refine bL (fun j s=>∃(o1_1:Nat) (o1_0:List TValue),(o1_1≤x0.length∧j=x0.length-o1_1)∧s=⟨[(0,.one (.c (dM (x0.map eNodeTerm)))),(2,.one (.c (.pt 0 0))),(3,.one (.c (.own 1 0 0 (o1_0.length) none))),(4,.one (.c (dI ((o1_1:Int)))))],[some (.box [dI 0,dI 0,dS ((⟨#[]⟩:ByteArray)),dN,dN]),some (.arr 0 5 (o1_0.map eTValue))]⟩∧F67_l1 (x0.drop o1_1) o1_1 o1_0=some o1) (x0.length-0) [some 0,none] ⟨0,[],⟨hk.1,rfl⟩,rfl,h⟩ ?_
  rintro _ _ ⟨o1_1,o1_0,⟨hi,rfl⟩,rfl,h⟩
  refine ww ?_
  refine condS (fun c2=>?_) (fun c2=>?_)
  ·obtain⟨xo1,hxo1,hd⟩:=countY (show(o1_1:Int)<(x0.length:Int)from c2)
   rw[hd,F67_l1]at h
   refine ww ?_
   refine t_idxF (enc:=eNodeTerm) (xs:=x0) rfl rfl hxo1 rfl (ww ?_)
   obtain⟨t3,ht3,h⟩:=bi h
   refine cN [] (F72_ok ht3) trivial (ww ?_)
   obtain⟨t4,ht4,h⟩:=bi h
   refine cN [] (F62_ok ht4) trivial (ww ?_)
   refine t_idxF (enc:=eNodeTerm) (xs:=x0) rfl rfl hxo1 rfl (ww ?_)
   obtain⟨t5,ht5,h⟩:=bi h
   refine cN [] (F66_ok ht5) trivial (ww ?_)
   obtain⟨t6,ht6,h⟩:=bi h
   refine cN [] (F62_ok ht6) trivial (ww ?_)
   refine t_idxF (enc:=eNodeTerm) (xs:=x0) rfl rfl hxo1 rfl (ww ?_)
   obtain⟨t7,ht7,h⟩:=bi h
   refine cN [] (F64_ok ht7) trivial (ww ?_)
   obtain⟨t8,ht8,h⟩:=bi h
   refine cN [] (F62_ok ht8) trivial (ww ?_)
   refine t_bslice (enc:=eTField) (ys:=(lit [(⟨((⟨#[114,101,113,117,105,114,101,100]⟩:ByteArray)),(⟨(1:Int),t3,((⟨#[]⟩:ByteArray)),([]),([])⟩:TValue)⟩:TField),(⟨((⟨#[115,101,108,101,99,116,111,114]⟩:ByteArray)),(⟨(4:Int),(0:Int),((⟨#[]⟩:ByteArray)),t5,([])⟩:TValue)⟩:TField),(⟨((⟨#[119,101,105,103,104,116]⟩:ByteArray)),(⟨(2:Int),xo1.Weight,((⟨#[]⟩:ByteArray)),([]),([])⟩:TValue)⟩:TField)])) rfl rfl (by simp[A1.cells]) (by first|rfl|(simp only[List.drop_zero,take_mapL];rfl)|(simp only[lit,List.map_cons,List.map_nil,List.drop_zero,take_mapL,EE.down];done)|(simp only[lit,List.map_cons,List.map_nil,List.drop_zero,take_mapL,EE.down];rfl)) (ww ?_)
   obtain⟨t9,ht9,h⟩:=bi h
   refine callX_gen (as1:=[.c (dM (((lit [(⟨((⟨#[114,101,113,117,105,114,101,100]⟩:ByteArray)),(⟨(1:Int),t3,((⟨#[]⟩:ByteArray)),([]),([])⟩:TValue)⟩:TField),(⟨((⟨#[115,101,108,101,99,116,111,114]⟩:ByteArray)),(⟨(4:Int),(0:Int),((⟨#[]⟩:ByteArray)),t5,([])⟩:TValue)⟩:TField),(⟨((⟨#[119,101,105,103,104,116]⟩:ByteArray)),(⟨(2:Int),xo1.Weight,((⟨#[]⟩:ByteArray)),([]),([])⟩:TValue)⟩:TField)])).map eTField))]) [(2,.arr 1 6 [])] [some 0,some 1,none] [] (F61_ok ht9) ⟨?_,rfl,?_⟩ ?_ ?_ ?_ ?_ ?_ ?_ ?_ ?_
   ·simp only[ZZ.down,Nat.reduceEqDiff,reduceCtorEq,Nat.reduceAdd,Nat.reduceLeDiff,Nat.reduceLT,Nat.reduceBNe,EE.down]
   ·simp only[ZZ.down,Nat.reduceEqDiff,reduceCtorEq,Nat.reduceAdd,Nat.reduceLeDiff,Nat.reduceLT,Nat.reduceBNe,EE.down]
   ·simp only[ZZ.down,Nat.reduceEqDiff,reduceCtorEq,Nat.reduceAdd,Nat.reduceLeDiff,Nat.reduceLT,Nat.reduceBNe,EE.down]
   ·rfl
   ·rfl
   ·simp[liveAll,A1.live,C.live]
   ·rfl
   ·decide
   ·exact trivial
   refine ww ?_
   refine t_bslice (enc:=eTValue) (ys:=[(⟨5,0,(⟨#[]⟩:ByteArray),[],((lit [(⟨((⟨#[114,101,113,117,105,114,101,100]⟩:ByteArray)),(⟨(1:Int),t3,((⟨#[]⟩:ByteArray)),([]),([])⟩:TValue)⟩:TField),(⟨((⟨#[115,101,108,101,99,116,111,114]⟩:ByteArray)),(⟨(4:Int),(0:Int),((⟨#[]⟩:ByteArray)),t5,([])⟩:TValue)⟩:TField),(⟨((⟨#[119,101,105,103,104,116]⟩:ByteArray)),(⟨(2:Int),xo1.Weight,((⟨#[]⟩:ByteArray)),([]),([])⟩:TValue)⟩:TField)]))⟩:TValue)]) rfl rfl (by simp[A1.cells]) (by first|rfl|(simp only[List.drop_zero,take_mapL];rfl)|(simp only[lit,List.map_cons,List.map_nil,List.drop_zero,take_mapL,EE.down];done)|(simp only[lit,List.map_cons,List.map_nil,List.drop_zero,take_mapL,EE.down];rfl)) (ww ?_)
   obtain⟨a10,ha10,h⟩:=bi h
   refine t_app (enc:=eTValue) (xs:=o1_0) rfl rfl (by first|rfl|simp only[List.length_set]|exact(clrL_len (slI_len (by assumption))).symm) rfl (rows_full (enc:=eTValue) (by first|rfl|simp only[List.length_set]|exact(clrL_len (slI_len (by assumption))).symm) rfl) ha10 (ww ?_)
   rw[wrapN (by omega)]
   exact eL' (x0.length-(o1_1+1)) [some 0,some 1] ⟨o1_1+1,a10,⟨by omega,rfl⟩,rfl,h⟩ (by omega)
  rw[countN (show¬((o1_1:Int)<(x0.length:Int))from c2),F67_l1]at h
  refine ww ?_
  cases h
  exact eM [some 0,some 1] rfl
 rintro _ rfl
 clear ho
 refine ww ?_
 obtain⟨t12,ht12,h⟩:=bi h
 refine callX_gen (as1:=[.c (dM (o1.map eTValue))]) [(1,.arr 1 5 [])] [some 0,none] [] (F89_ok ht12) ⟨?_,rfl,?_⟩ ?_ ?_ ?_ ?_ ?_ ?_ ?_ ?_
 ·simp only[ZZ.down,Nat.reduceEqDiff,reduceCtorEq,Nat.reduceAdd,Nat.reduceLeDiff,Nat.reduceLT,Nat.reduceBNe,EE.down]
 ·simp only[ZZ.down,Nat.reduceEqDiff,reduceCtorEq,Nat.reduceAdd,Nat.reduceLeDiff,Nat.reduceLT,Nat.reduceBNe,EE.down]
 ·simp only[ZZ.down,Nat.reduceEqDiff,reduceCtorEq,Nat.reduceAdd,Nat.reduceLeDiff,Nat.reduceLT,Nat.reduceBNe,EE.down]
 ·rfl
 ·rfl
 ·simp[liveAll,A1.live,C.live]
 ·rfl
 ·decide
 ·exact trivial
 refine ww ?_
 cases h
 exact eF []
def F68_l1:List PodTerm→Nat→(List TValue)→Option ((List TValue))
 |[],o1_1,o1_0=>some o1_0
 |xo1::xs,o1_1,o1_0=>(F72 xo1.Anti).bind fun t3=>(F62 ((⟨#[97,110,116,105]⟩:ByteArray)) ((⟨1,t3,(⟨#[]⟩:ByteArray),[],[]⟩:TValue))).bind fun t4=>(F72 xo1.Required).bind fun t5=>(F62 ((⟨#[114,101,113,117,105,114,101,100]⟩:ByteArray)) ((⟨1,t5,(⟨#[]⟩:ByteArray),[],[]⟩:TValue))).bind fun t6=>(F66 xo1.Selector).bind fun t7=>(F62 ((⟨#[115,101,108,101,99,116,111,114]⟩:ByteArray)) ((⟨4,0,(⟨#[]⟩:ByteArray),t7,[]⟩:TValue))).bind fun t8=>(F65 xo1.Topology).bind fun t9=>(F62 ((⟨#[116,111,112,111,108,111,103,121]⟩:ByteArray)) ((⟨3,0,xo1.Topology,[],[]⟩:TValue))).bind fun t10=>(F64 xo1.Weight).bind fun t11=>(F62 ((⟨#[119,101,105,103,104,116]⟩:ByteArray)) ((⟨2,xo1.Weight,(⟨#[]⟩:ByteArray),[],[]⟩:TValue))).bind fun t12=>(F61 ((lit [(⟨((⟨#[97,110,116,105]⟩:ByteArray)),(⟨(1:Int),t3,((⟨#[]⟩:ByteArray)),([]),([])⟩:TValue)⟩:TField),(⟨((⟨#[114,101,113,117,105,114,101,100]⟩:ByteArray)),(⟨(1:Int),t5,((⟨#[]⟩:ByteArray)),([]),([])⟩:TValue)⟩:TField),(⟨((⟨#[115,101,108,101,99,116,111,114]⟩:ByteArray)),(⟨(4:Int),(0:Int),((⟨#[]⟩:ByteArray)),t7,([])⟩:TValue)⟩:TField),(⟨((⟨#[116,111,112,111,108,111,103,121]⟩:ByteArray)),(⟨(3:Int),(0:Int),xo1.Topology,([]),([])⟩:TValue)⟩:TField),(⟨((⟨#[119,101,105,103,104,116]⟩:ByteArray)),(⟨(2:Int),xo1.Weight,((⟨#[]⟩:ByteArray)),([]),([])⟩:TValue)⟩:TField)]))).bind fun t13=>(apI o1_0 ([(⟨5,0,(⟨#[]⟩:ByteArray),[],((lit [(⟨((⟨#[97,110,116,105]⟩:ByteArray)),(⟨(1:Int),t3,((⟨#[]⟩:ByteArray)),([]),([])⟩:TValue)⟩:TField),(⟨((⟨#[114,101,113,117,105,114,101,100]⟩:ByteArray)),(⟨(1:Int),t5,((⟨#[]⟩:ByteArray)),([]),([])⟩:TValue)⟩:TField),(⟨((⟨#[115,101,108,101,99,116,111,114]⟩:ByteArray)),(⟨(4:Int),(0:Int),((⟨#[]⟩:ByteArray)),t7,([])⟩:TValue)⟩:TField),(⟨((⟨#[116,111,112,111,108,111,103,121]⟩:ByteArray)),(⟨(3:Int),(0:Int),xo1.Topology,([]),([])⟩:TValue)⟩:TField),(⟨((⟨#[119,101,105,103,104,116]⟩:ByteArray)),(⟨(2:Int),xo1.Weight,((⟨#[]⟩:ByteArray)),([]),([])⟩:TValue)⟩:TField)]))⟩:TValue)])).bind fun a14=>F68_l1 xs (o1_1+1) a14
def F68(x0:(List PodTerm)):Option (((List TValue))):=(((ck (0≤x0.length∧x0.length≤4294967290)).bind fun u15=>F68_l1 x0 0 ([])).bind fun o1=>(F89 o1).bind fun t16=>some o1)
def a68:AFn:=⟨53,[(.cell 2 (some 5))],
 (.seq (.reg [zl 2 (.zbox [dI 0,dI 0,dS ⟨#[]⟩,dN,dN]) [] []])
 (.seq (.reg [sq 3 (.mv kN)])
 (.seq (.seq (.reg [sq 4 (.mv (kI 0))])
 (.sem (.block 0 (.loop (.seq (.seq (.reg [sq 5 (.mv (.t 4)),
sq 6 (.mv (.t 0)),
sq 7 (.len (.t 6)),
sq 8 (.bin .lss (.t 5) (.t 7))])
 (.cond (.t 8)
 .skip
 (.exit 0)))
 (.seq (.block 1 (.regd [sq 11 (.mv (.t 3)),
sq 12 (.mv (.t 0)),
sq 13 (.mv (.t 4)),
sd 14 (.indexA 5 (.t 12) (.t 13)) [1,2],
sd 15 (.fieldA 1 (.t 14)) [1,2,3],
sd 16 (.load none (.t 15)) [1,2,3,4],
zn 17 (.call 72 [(.t 16)]) [1,2,3,4,5] [1,2,3,4,5],
zn 18 (.call 62 [(kS ⟨#[97,110,116,105]⟩),(.t 17)]) [1,2,3,4,5,6] [1,2,3,4,5,6],
sq 19 (.mv (.t 0)),
sq 20 (.mv (.t 4)),
sd 21 (.indexA 5 (.t 19) (.t 20)) [8,9],
sd 22 (.fieldA 0 (.t 21)) [8,9,10],
sd 23 (.load none (.t 22)) [8,9,10,11],
zn 24 (.call 72 [(.t 23)]) [1,2,3,4,5,6,7,8,9,10,11,12] [1,2,3,4,5,6,7,8,9,10,11,12],
zn 25 (.call 62 [(kS ⟨#[114,101,113,117,105,114,101,100]⟩),(.t 24)]) [1,2,3,4,5,6,7,8,9,10,11,12,13] [1,2,3,4,5,6,7,8,9,10,11,12,13],
sq 26 (.mv (.t 0)),
sq 27 (.mv (.t 4)),
sd 28 (.indexA 5 (.t 26) (.t 27)) [15,16],
sd 29 (.fieldA 2 (.t 28)) [15,16,17],
sd 30 (.load none (.t 29)) [15,16,17,18],
zn 31 (.call 66 [(.t 30)]) [1,2,3,4,5,6,7,8,9,10,11,12,13,14,15,16,17,18,19] [1,2,3,4,5,6,7,8,9,10,11,12,13,14,15,16,17,18,19],
zn 32 (.call 62 [(kS ⟨#[115,101,108,101,99,116,111,114]⟩),(.t 31)]) [1,2,3,4,5,6,7,8,9,10,11,12,13,14,15,16,17,18,19,20] [1,2,3,4,5,6,7,8,9,10,11,12,13,14,15,16,17,18,19,20],
sq 33 (.mv (.t 0)),
sq 34 (.mv (.t 4)),
sd 35 (.indexA 5 (.t 33) (.t 34)) [22,23],
sd 36 (.fieldA 3 (.t 35)) [22,23,24],
sd 37 (.load none (.t 36)) [22,23,24,25],
zn 38 (.call 65 [(.t 37)]) [1,2,3,4,5,6,7,8,9,10,11,12,13,14,15,16,17,18,19,20,21,22,23,24,25,26] [1,2,3,4,5,6,7,8,9,10,11,12,13,14,15,16,17,18,19,20,21,22,23,24,25,26],
zn 39 (.call 62 [(kS ⟨#[116,111,112,111,108,111,103,121]⟩),(.t 38)]) [1,2,3,4,5,6,7,8,9,10,11,12,13,14,15,16,17,18,19,20,21,22,23,24,25,26,27] [1,2,3,4,5,6,7,8,9,10,11,12,13,14,15,16,17,18,19,20,21,22,23,24,25,26,27],
sq 40 (.mv (.t 0)),
sq 41 (.mv (.t 4)),
sd 42 (.indexA 5 (.t 40) (.t 41)) [29,30],
sd 43 (.fieldA 4 (.t 42)) [29,30,31],
sd 44 (.load none (.t 43)) [29,30,31,32],
zl 45 (.call 64 [(.t 44)]) [1,2,3,4,5,6,7,8,9,10,11,12,13,14,15,16,17,18,19,20,21,22,23,24,25,26,27,28,29,30,31,32,33] [],
zl 46 (.call 62 [(kS ⟨#[119,101,105,103,104,116]⟩),(.t 45)]) [1,2,3,4,5,6,7,8,9,10,11,12,13,14,15,16,17,18,19,20,21,22,23,24,25,26,27,28,29,30,31,32,33,34] [],
zl 47 (.bslice 6 [(.t 18),(.t 25),(.t 32),(.t 39),(.t 46)]) [1,2,3,4,5,6,7,8,9,10,11,12,13,14,15,16,17,18,19,20,21,22,23,24,25,26,27,28,29,30,31,32,33,34,35] [],
zl 48 (.call 61 [(.t 47)]) [1,2,3,4,5,6,7,8,9,10,11,12,13,14,15,16,17,18,19,20,21,22,23,24,25,26,27,28,29,30,31,32,33,34,35,36] [],
zl 49 (.bslice 5 [(.t 48)]) [1,2,3,4,5,6,7,8,9,10,11,12,13,14,15,16,17,18,19,20,21,22,23,24,25,26,27,28,29,30,31,32,33,34,35,36,37] [],
zl 50 (.app 5 80 (.t 11) (.t 49)) [0,1,2,3,4,5,6,7,8,9,10,11,12,13,14,15,16,17,18,19,20,21,22,23,24,25,26,27,28,29,30,31,32,33,34,35,36,37,38] [],
sd 3 (.mv (.t 50)) [0,1,2,3,4,5,6,7,8,9,10,11,12,13,14,15,16,17,18,19,20,21,22,23,24,25,26,27,28,29,30,31,32,33,34,35,36,37,38,39]]))
 (.reg [sq 9 (.mv (.t 4)),
sq 10 (.bin .add (.t 9) (kI 1)),
sq 4 (.mv (.t 10))])))))))
 (.seq (.reg [sq 51 (.mv (.t 3)),
sq 52 (.call 89 [(.t 51)]),
su (.store 5 (.t 2) (.t 52))])
 .ret))))⟩
theorem F68_ok{x0 r}(h:F68 x0=some r):CallD Try.prog 68 [.c (dM (x0.map ePodTerm))] [] (tupV [.agg [dI 4,dI 0,dS ((⟨#[]⟩:ByteArray)),dM (r.map eTValue),dM (([]:List TField).map eTField)]]) []:=by
 rw[F68]at h
 refine zc a68 (by kernel_rfl) rfl (ww ?_)
 obtain⟨o1,ho,h⟩:=bi h
 refine cutS (fun s=>s=⟨[(2,.one (.c (.pt 0 0))),(3,.one (.c (.own 1 0 0 (o1.length) none)))],[some (.box [dI 0,dI 0,dS ((⟨#[]⟩:ByteArray)),dN,dN]),some (.arr 0 5 (o1.map eTValue))]⟩) ?_ ?_
 ·have h:=ho
  clear ho
  obtain⟨_,hk,h⟩:=bi h
  have hk:=ck_some hk
  refine ww ?_
  refine bL (fun j s=>∃(o1_1:Nat) (o1_0:List TValue),(o1_1≤x0.length∧j=x0.length-o1_1)∧s=⟨[(0,.one (.c (dM (x0.map ePodTerm)))),(2,.one (.c (.pt 0 0))),(3,.one (.c (.own 1 0 0 (o1_0.length) none))),(4,.one (.c (dI ((o1_1:Int)))))],[some (.box [dI 0,dI 0,dS ((⟨#[]⟩:ByteArray)),dN,dN]),some (.arr 0 5 (o1_0.map eTValue))]⟩∧F68_l1 (x0.drop o1_1) o1_1 o1_0=some o1) (x0.length-0) [some 0,none] ⟨0,[],⟨hk.1,rfl⟩,rfl,h⟩ ?_
  rintro _ _ ⟨o1_1,o1_0,⟨hi,rfl⟩,rfl,h⟩
  refine ww ?_
  refine condS (fun c2=>?_) (fun c2=>?_)
  ·obtain⟨xo1,hxo1,hd⟩:=countY (show(o1_1:Int)<(x0.length:Int)from c2)
   rw[hd,F68_l1]at h
   refine ww ?_
   refine t_idxF (enc:=ePodTerm) (xs:=x0) rfl rfl hxo1 rfl (ww ?_)
   obtain⟨t3,ht3,h⟩:=bi h
   refine cN [] (F72_ok ht3) trivial (ww ?_)
   obtain⟨t4,ht4,h⟩:=bi h
   refine cN [] (F62_ok ht4) trivial (ww ?_)
   refine t_idxF (enc:=ePodTerm) (xs:=x0) rfl rfl hxo1 rfl (ww ?_)
   obtain⟨t5,ht5,h⟩:=bi h
   refine cN [] (F72_ok ht5) trivial (ww ?_)
   obtain⟨t6,ht6,h⟩:=bi h
   refine cN [] (F62_ok ht6) trivial (ww ?_)
   refine t_idxF (enc:=ePodTerm) (xs:=x0) rfl rfl hxo1 rfl (ww ?_)
   obtain⟨t7,ht7,h⟩:=bi h
   refine cN [] (F66_ok ht7) trivial (ww ?_)
   obtain⟨t8,ht8,h⟩:=bi h
   refine cN [] (F62_ok ht8) trivial (ww ?_)
   refine t_idxF (enc:=ePodTerm) (xs:=x0) rfl rfl hxo1 rfl (ww ?_)
   obtain⟨t9,ht9,h⟩:=bi h
   refine cN [] (F65_ok ht9) trivial (ww ?_)
   obtain⟨t10,ht10,h⟩:=bi h
   refine cN [] (F62_ok ht10) trivial (ww ?_)
   refine t_idxF (enc:=ePodTerm) (xs:=x0) rfl rfl hxo1 rfl (ww ?_)
   obtain⟨t11,ht11,h⟩:=bi h
   refine cN [] (F64_ok ht11) trivial (ww ?_)
   obtain⟨t12,ht12,h⟩:=bi h
   refine cN [] (F62_ok ht12) trivial (ww ?_)
   refine t_bslice (enc:=eTField) (ys:=(lit [(⟨((⟨#[97,110,116,105]⟩:ByteArray)),(⟨(1:Int),t3,((⟨#[]⟩:ByteArray)),([]),([])⟩:TValue)⟩:TField),(⟨((⟨#[114,101,113,117,105,114,101,100]⟩:ByteArray)),(⟨(1:Int),t5,((⟨#[]⟩:ByteArray)),([]),([])⟩:TValue)⟩:TField),(⟨((⟨#[115,101,108,101,99,116,111,114]⟩:ByteArray)),(⟨(4:Int),(0:Int),((⟨#[]⟩:ByteArray)),t7,([])⟩:TValue)⟩:TField),(⟨((⟨#[116,111,112,111,108,111,103,121]⟩:ByteArray)),(⟨(3:Int),(0:Int),xo1.Topology,([]),([])⟩:TValue)⟩:TField),(⟨((⟨#[119,101,105,103,104,116]⟩:ByteArray)),(⟨(2:Int),xo1.Weight,((⟨#[]⟩:ByteArray)),([]),([])⟩:TValue)⟩:TField)])) rfl rfl (by simp[A1.cells]) (by first|rfl|(simp only[List.drop_zero,take_mapL];rfl)|(simp only[lit,List.map_cons,List.map_nil,List.drop_zero,take_mapL,EE.down];done)|(simp only[lit,List.map_cons,List.map_nil,List.drop_zero,take_mapL,EE.down];rfl)) (ww ?_)
   obtain⟨t13,ht13,h⟩:=bi h
   refine callX_gen (as1:=[.c (dM (((lit [(⟨((⟨#[97,110,116,105]⟩:ByteArray)),(⟨(1:Int),t3,((⟨#[]⟩:ByteArray)),([]),([])⟩:TValue)⟩:TField),(⟨((⟨#[114,101,113,117,105,114,101,100]⟩:ByteArray)),(⟨(1:Int),t5,((⟨#[]⟩:ByteArray)),([]),([])⟩:TValue)⟩:TField),(⟨((⟨#[115,101,108,101,99,116,111,114]⟩:ByteArray)),(⟨(4:Int),(0:Int),((⟨#[]⟩:ByteArray)),t7,([])⟩:TValue)⟩:TField),(⟨((⟨#[116,111,112,111,108,111,103,121]⟩:ByteArray)),(⟨(3:Int),(0:Int),xo1.Topology,([]),([])⟩:TValue)⟩:TField),(⟨((⟨#[119,101,105,103,104,116]⟩:ByteArray)),(⟨(2:Int),xo1.Weight,((⟨#[]⟩:ByteArray)),([]),([])⟩:TValue)⟩:TField)])).map eTField))]) [(2,.arr 1 6 [])] [some 0,some 1,none] [] (F61_ok ht13) ⟨?_,rfl,?_⟩ ?_ ?_ ?_ ?_ ?_ ?_ ?_ ?_
   ·simp only[ZZ.down,Nat.reduceEqDiff,reduceCtorEq,Nat.reduceAdd,Nat.reduceLeDiff,Nat.reduceLT,Nat.reduceBNe,EE.down]
   ·simp only[ZZ.down,Nat.reduceEqDiff,reduceCtorEq,Nat.reduceAdd,Nat.reduceLeDiff,Nat.reduceLT,Nat.reduceBNe,EE.down]
   ·simp only[ZZ.down,Nat.reduceEqDiff,reduceCtorEq,Nat.reduceAdd,Nat.reduceLeDiff,Nat.reduceLT,Nat.reduceBNe,EE.down]
   ·rfl
   ·rfl
   ·simp[liveAll,A1.live,C.live]
   ·rfl
   ·decide
   ·exact trivial
   refine ww ?_
   refine t_bslice (enc:=eTValue) (ys:=[(⟨5,0,(⟨#[]⟩:ByteArray),[],((lit [(⟨((⟨#[97,110,116,105]⟩:ByteArray)),(⟨(1:Int),t3,((⟨#[]⟩:ByteArray)),([]),([])⟩:TValue)⟩:TField),(⟨((⟨#[114,101,113,117,105,114,101,100]⟩:ByteArray)),(⟨(1:Int),t5,((⟨#[]⟩:ByteArray)),([]),([])⟩:TValue)⟩:TField),(⟨((⟨#[115,101,108,101,99,116,111,114]⟩:ByteArray)),(⟨(4:Int),(0:Int),((⟨#[]⟩:ByteArray)),t7,([])⟩:TValue)⟩:TField),(⟨((⟨#[116,111,112,111,108,111,103,121]⟩:ByteArray)),(⟨(3:Int),(0:Int),xo1.Topology,([]),([])⟩:TValue)⟩:TField),(⟨((⟨#[119,101,105,103,104,116]⟩:ByteArray)),(⟨(2:Int),xo1.Weight,((⟨#[]⟩:ByteArray)),([]),([])⟩:TValue)⟩:TField)]))⟩:TValue)]) rfl rfl (by simp[A1.cells]) (by first|rfl|(simp only[List.drop_zero,take_mapL];rfl)|(simp only[lit,List.map_cons,List.map_nil,List.drop_zero,take_mapL,EE.down];done)|(simp only[lit,List.map_cons,List.map_nil,List.drop_zero,take_mapL,EE.down];rfl)) (ww ?_)
   obtain⟨a14,ha14,h⟩:=bi h
   refine t_app (enc:=eTValue) (xs:=o1_0) rfl rfl (by first|rfl|simp only[List.length_set]|exact(clrL_len (slI_len (by assumption))).symm) rfl (rows_full (enc:=eTValue) (by first|rfl|simp only[List.length_set]|exact(clrL_len (slI_len (by assumption))).symm) rfl) ha14 (ww ?_)
   rw[wrapN (by omega)]
   exact eL' (x0.length-(o1_1+1)) [some 0,some 1] ⟨o1_1+1,a14,⟨by omega,rfl⟩,rfl,h⟩ (by omega)
  rw[countN (show¬((o1_1:Int)<(x0.length:Int))from c2),F68_l1]at h
  refine ww ?_
  cases h
  exact eM [some 0,some 1] rfl
 rintro _ rfl
 clear ho
 refine ww ?_
 obtain⟨t16,ht16,h⟩:=bi h
 refine callX_gen (as1:=[.c (dM (o1.map eTValue))]) [(1,.arr 1 5 [])] [some 0,none] [] (F89_ok ht16) ⟨?_,rfl,?_⟩ ?_ ?_ ?_ ?_ ?_ ?_ ?_ ?_
 ·simp only[ZZ.down,Nat.reduceEqDiff,reduceCtorEq,Nat.reduceAdd,Nat.reduceLeDiff,Nat.reduceLT,Nat.reduceBNe,EE.down]
 ·simp only[ZZ.down,Nat.reduceEqDiff,reduceCtorEq,Nat.reduceAdd,Nat.reduceLeDiff,Nat.reduceLT,Nat.reduceBNe,EE.down]
 ·simp only[ZZ.down,Nat.reduceEqDiff,reduceCtorEq,Nat.reduceAdd,Nat.reduceLeDiff,Nat.reduceLT,Nat.reduceBNe,EE.down]
 ·rfl
 ·rfl
 ·simp[liveAll,A1.live,C.live]
 ·rfl
 ·decide
 ·exact trivial
 refine ww ?_
 cases h
 exact eF []
def F69_l1:List SpreadRule→Nat→(List TValue)→Option ((List TValue))
 |[],o1_1,o1_0=>some o1_0
 |xo1::xs,o1_1,o1_0=>(F64 xo1.MaxSkew).bind fun t3=>(F62 ((⟨#[109,97,120,83,107,101,119]⟩:ByteArray)) ((⟨2,xo1.MaxSkew,(⟨#[]⟩:ByteArray),[],[]⟩:TValue))).bind fun t4=>(F72 xo1.Required).bind fun t5=>(F62 ((⟨#[114,101,113,117,105,114,101,100]⟩:ByteArray)) ((⟨1,t5,(⟨#[]⟩:ByteArray),[],[]⟩:TValue))).bind fun t6=>(F66 xo1.Selector).bind fun t7=>(F62 ((⟨#[115,101,108,101,99,116,111,114]⟩:ByteArray)) ((⟨4,0,(⟨#[]⟩:ByteArray),t7,[]⟩:TValue))).bind fun t8=>(F65 xo1.Topology).bind fun t9=>(F62 ((⟨#[116,111,112,111,108,111,103,121]⟩:ByteArray)) ((⟨3,0,xo1.Topology,[],[]⟩:TValue))).bind fun t10=>(F61 ((lit [(⟨((⟨#[109,97,120,83,107,101,119]⟩:ByteArray)),(⟨(2:Int),xo1.MaxSkew,((⟨#[]⟩:ByteArray)),([]),([])⟩:TValue)⟩:TField),(⟨((⟨#[114,101,113,117,105,114,101,100]⟩:ByteArray)),(⟨(1:Int),t5,((⟨#[]⟩:ByteArray)),([]),([])⟩:TValue)⟩:TField),(⟨((⟨#[115,101,108,101,99,116,111,114]⟩:ByteArray)),(⟨(4:Int),(0:Int),((⟨#[]⟩:ByteArray)),t7,([])⟩:TValue)⟩:TField),(⟨((⟨#[116,111,112,111,108,111,103,121]⟩:ByteArray)),(⟨(3:Int),(0:Int),xo1.Topology,([]),([])⟩:TValue)⟩:TField)]))).bind fun t11=>(apI o1_0 ([(⟨5,0,(⟨#[]⟩:ByteArray),[],((lit [(⟨((⟨#[109,97,120,83,107,101,119]⟩:ByteArray)),(⟨(2:Int),xo1.MaxSkew,((⟨#[]⟩:ByteArray)),([]),([])⟩:TValue)⟩:TField),(⟨((⟨#[114,101,113,117,105,114,101,100]⟩:ByteArray)),(⟨(1:Int),t5,((⟨#[]⟩:ByteArray)),([]),([])⟩:TValue)⟩:TField),(⟨((⟨#[115,101,108,101,99,116,111,114]⟩:ByteArray)),(⟨(4:Int),(0:Int),((⟨#[]⟩:ByteArray)),t7,([])⟩:TValue)⟩:TField),(⟨((⟨#[116,111,112,111,108,111,103,121]⟩:ByteArray)),(⟨(3:Int),(0:Int),xo1.Topology,([]),([])⟩:TValue)⟩:TField)]))⟩:TValue)])).bind fun a12=>F69_l1 xs (o1_1+1) a12
def F69(x0:(List SpreadRule)):Option (((List TValue))):=(((ck (0≤x0.length∧x0.length≤4294967290)).bind fun u13=>F69_l1 x0 0 ([])).bind fun o1=>(F89 o1).bind fun t14=>some o1)
def a69:AFn:=⟨46,[(.cell 2 (some 5))],
 (.seq (.reg [zl 2 (.zbox [dI 0,dI 0,dS ⟨#[]⟩,dN,dN]) [] []])
 (.seq (.reg [sq 3 (.mv kN)])
 (.seq (.seq (.reg [sq 4 (.mv (kI 0))])
 (.sem (.block 0 (.loop (.seq (.seq (.reg [sq 5 (.mv (.t 4)),
sq 6 (.mv (.t 0)),
sq 7 (.len (.t 6)),
sq 8 (.bin .lss (.t 5) (.t 7))])
 (.cond (.t 8)
 .skip
 (.exit 0)))
 (.seq (.block 1 (.regd [sq 11 (.mv (.t 3)),
sq 12 (.mv (.t 0)),
sq 13 (.mv (.t 4)),
sd 14 (.indexA 4 (.t 12) (.t 13)) [1,2],
sd 15 (.fieldA 0 (.t 14)) [1,2,3],
sd 16 (.load none (.t 15)) [1,2,3,4],
zn 17 (.call 64 [(.t 16)]) [1,2,3,4,5] [1,2,3,4,5],
zn 18 (.call 62 [(kS ⟨#[109,97,120,83,107,101,119]⟩),(.t 17)]) [1,2,3,4,5,6] [1,2,3,4,5,6],
sq 19 (.mv (.t 0)),
sq 20 (.mv (.t 4)),
sd 21 (.indexA 4 (.t 19) (.t 20)) [8,9],
sd 22 (.fieldA 3 (.t 21)) [8,9,10],
sd 23 (.load none (.t 22)) [8,9,10,11],
zn 24 (.call 72 [(.t 23)]) [1,2,3,4,5,6,7,8,9,10,11,12] [1,2,3,4,5,6,7,8,9,10,11,12],
zn 25 (.call 62 [(kS ⟨#[114,101,113,117,105,114,101,100]⟩),(.t 24)]) [1,2,3,4,5,6,7,8,9,10,11,12,13] [1,2,3,4,5,6,7,8,9,10,11,12,13],
sq 26 (.mv (.t 0)),
sq 27 (.mv (.t 4)),
sd 28 (.indexA 4 (.t 26) (.t 27)) [15,16],
sd 29 (.fieldA 2 (.t 28)) [15,16,17],
sd 30 (.load none (.t 29)) [15,16,17,18],
zn 31 (.call 66 [(.t 30)]) [1,2,3,4,5,6,7,8,9,10,11,12,13,14,15,16,17,18,19] [1,2,3,4,5,6,7,8,9,10,11,12,13,14,15,16,17,18,19],
zn 32 (.call 62 [(kS ⟨#[115,101,108,101,99,116,111,114]⟩),(.t 31)]) [1,2,3,4,5,6,7,8,9,10,11,12,13,14,15,16,17,18,19,20] [1,2,3,4,5,6,7,8,9,10,11,12,13,14,15,16,17,18,19,20],
sq 33 (.mv (.t 0)),
sq 34 (.mv (.t 4)),
sd 35 (.indexA 4 (.t 33) (.t 34)) [22,23],
sd 36 (.fieldA 1 (.t 35)) [22,23,24],
sd 37 (.load none (.t 36)) [22,23,24,25],
zl 38 (.call 65 [(.t 37)]) [1,2,3,4,5,6,7,8,9,10,11,12,13,14,15,16,17,18,19,20,21,22,23,24,25,26] [],
zl 39 (.call 62 [(kS ⟨#[116,111,112,111,108,111,103,121]⟩),(.t 38)]) [1,2,3,4,5,6,7,8,9,10,11,12,13,14,15,16,17,18,19,20,21,22,23,24,25,26,27] [],
zl 40 (.bslice 6 [(.t 18),(.t 25),(.t 32),(.t 39)]) [1,2,3,4,5,6,7,8,9,10,11,12,13,14,15,16,17,18,19,20,21,22,23,24,25,26,27,28] [],
zl 41 (.call 61 [(.t 40)]) [1,2,3,4,5,6,7,8,9,10,11,12,13,14,15,16,17,18,19,20,21,22,23,24,25,26,27,28,29] [],
zl 42 (.bslice 5 [(.t 41)]) [1,2,3,4,5,6,7,8,9,10,11,12,13,14,15,16,17,18,19,20,21,22,23,24,25,26,27,28,29,30] [],
zl 43 (.app 5 80 (.t 11) (.t 42)) [0,1,2,3,4,5,6,7,8,9,10,11,12,13,14,15,16,17,18,19,20,21,22,23,24,25,26,27,28,29,30,31] [],
sd 3 (.mv (.t 43)) [0,1,2,3,4,5,6,7,8,9,10,11,12,13,14,15,16,17,18,19,20,21,22,23,24,25,26,27,28,29,30,31,32]]))
 (.reg [sq 9 (.mv (.t 4)),
sq 10 (.bin .add (.t 9) (kI 1)),
sq 4 (.mv (.t 10))])))))))
 (.seq (.reg [sq 44 (.mv (.t 3)),
sq 45 (.call 89 [(.t 44)]),
su (.store 5 (.t 2) (.t 45))])
 .ret))))⟩
theorem F69_ok{x0 r}(h:F69 x0=some r):CallD Try.prog 69 [.c (dM (x0.map eSpreadRule))] [] (tupV [.agg [dI 4,dI 0,dS ((⟨#[]⟩:ByteArray)),dM (r.map eTValue),dM (([]:List TField).map eTField)]]) []:=by
 rw[F69]at h
 refine zc a69 (by kernel_rfl) rfl (ww ?_)
 obtain⟨o1,ho,h⟩:=bi h
 refine cutS (fun s=>s=⟨[(2,.one (.c (.pt 0 0))),(3,.one (.c (.own 1 0 0 (o1.length) none)))],[some (.box [dI 0,dI 0,dS ((⟨#[]⟩:ByteArray)),dN,dN]),some (.arr 0 5 (o1.map eTValue))]⟩) ?_ ?_
 ·have h:=ho
  clear ho
  obtain⟨_,hk,h⟩:=bi h
  have hk:=ck_some hk
  refine ww ?_
  refine bL (fun j s=>∃(o1_1:Nat) (o1_0:List TValue),(o1_1≤x0.length∧j=x0.length-o1_1)∧s=⟨[(0,.one (.c (dM (x0.map eSpreadRule)))),(2,.one (.c (.pt 0 0))),(3,.one (.c (.own 1 0 0 (o1_0.length) none))),(4,.one (.c (dI ((o1_1:Int)))))],[some (.box [dI 0,dI 0,dS ((⟨#[]⟩:ByteArray)),dN,dN]),some (.arr 0 5 (o1_0.map eTValue))]⟩∧F69_l1 (x0.drop o1_1) o1_1 o1_0=some o1) (x0.length-0) [some 0,none] ⟨0,[],⟨hk.1,rfl⟩,rfl,h⟩ ?_
  rintro _ _ ⟨o1_1,o1_0,⟨hi,rfl⟩,rfl,h⟩
  refine ww ?_
  refine condS (fun c2=>?_) (fun c2=>?_)
  ·obtain⟨xo1,hxo1,hd⟩:=countY (show(o1_1:Int)<(x0.length:Int)from c2)
   rw[hd,F69_l1]at h
   refine ww ?_
   refine t_idxF (enc:=eSpreadRule) (xs:=x0) rfl rfl hxo1 rfl (ww ?_)
   obtain⟨t3,ht3,h⟩:=bi h
   refine cN [] (F64_ok ht3) trivial (ww ?_)
   obtain⟨t4,ht4,h⟩:=bi h
   refine cN [] (F62_ok ht4) trivial (ww ?_)
   refine t_idxF (enc:=eSpreadRule) (xs:=x0) rfl rfl hxo1 rfl (ww ?_)
   obtain⟨t5,ht5,h⟩:=bi h
   refine cN [] (F72_ok ht5) trivial (ww ?_)
   obtain⟨t6,ht6,h⟩:=bi h
   refine cN [] (F62_ok ht6) trivial (ww ?_)
   refine t_idxF (enc:=eSpreadRule) (xs:=x0) rfl rfl hxo1 rfl (ww ?_)
   obtain⟨t7,ht7,h⟩:=bi h
   refine cN [] (F66_ok ht7) trivial (ww ?_)
   obtain⟨t8,ht8,h⟩:=bi h
   refine cN [] (F62_ok ht8) trivial (ww ?_)
   refine t_idxF (enc:=eSpreadRule) (xs:=x0) rfl rfl hxo1 rfl (ww ?_)
   obtain⟨t9,ht9,h⟩:=bi h
   refine cN [] (F65_ok ht9) trivial (ww ?_)
   obtain⟨t10,ht10,h⟩:=bi h
   refine cN [] (F62_ok ht10) trivial (ww ?_)
   refine t_bslice (enc:=eTField) (ys:=(lit [(⟨((⟨#[109,97,120,83,107,101,119]⟩:ByteArray)),(⟨(2:Int),xo1.MaxSkew,((⟨#[]⟩:ByteArray)),([]),([])⟩:TValue)⟩:TField),(⟨((⟨#[114,101,113,117,105,114,101,100]⟩:ByteArray)),(⟨(1:Int),t5,((⟨#[]⟩:ByteArray)),([]),([])⟩:TValue)⟩:TField),(⟨((⟨#[115,101,108,101,99,116,111,114]⟩:ByteArray)),(⟨(4:Int),(0:Int),((⟨#[]⟩:ByteArray)),t7,([])⟩:TValue)⟩:TField),(⟨((⟨#[116,111,112,111,108,111,103,121]⟩:ByteArray)),(⟨(3:Int),(0:Int),xo1.Topology,([]),([])⟩:TValue)⟩:TField)])) rfl rfl (by simp[A1.cells]) (by first|rfl|(simp only[List.drop_zero,take_mapL];rfl)|(simp only[lit,List.map_cons,List.map_nil,List.drop_zero,take_mapL,EE.down];done)|(simp only[lit,List.map_cons,List.map_nil,List.drop_zero,take_mapL,EE.down];rfl)) (ww ?_)
   obtain⟨t11,ht11,h⟩:=bi h
   refine callX_gen (as1:=[.c (dM (((lit [(⟨((⟨#[109,97,120,83,107,101,119]⟩:ByteArray)),(⟨(2:Int),xo1.MaxSkew,((⟨#[]⟩:ByteArray)),([]),([])⟩:TValue)⟩:TField),(⟨((⟨#[114,101,113,117,105,114,101,100]⟩:ByteArray)),(⟨(1:Int),t5,((⟨#[]⟩:ByteArray)),([]),([])⟩:TValue)⟩:TField),(⟨((⟨#[115,101,108,101,99,116,111,114]⟩:ByteArray)),(⟨(4:Int),(0:Int),((⟨#[]⟩:ByteArray)),t7,([])⟩:TValue)⟩:TField),(⟨((⟨#[116,111,112,111,108,111,103,121]⟩:ByteArray)),(⟨(3:Int),(0:Int),xo1.Topology,([]),([])⟩:TValue)⟩:TField)])).map eTField))]) [(2,.arr 1 6 [])] [some 0,some 1,none] [] (F61_ok ht11) ⟨?_,rfl,?_⟩ ?_ ?_ ?_ ?_ ?_ ?_ ?_ ?_
   ·simp only[ZZ.down,Nat.reduceEqDiff,reduceCtorEq,Nat.reduceAdd,Nat.reduceLeDiff,Nat.reduceLT,Nat.reduceBNe,EE.down]
   ·simp only[ZZ.down,Nat.reduceEqDiff,reduceCtorEq,Nat.reduceAdd,Nat.reduceLeDiff,Nat.reduceLT,Nat.reduceBNe,EE.down]
   ·simp only[ZZ.down,Nat.reduceEqDiff,reduceCtorEq,Nat.reduceAdd,Nat.reduceLeDiff,Nat.reduceLT,Nat.reduceBNe,EE.down]
   ·rfl
   ·rfl
   ·simp[liveAll,A1.live,C.live]
   ·rfl
   ·decide
   ·exact trivial
   refine ww ?_
   refine t_bslice (enc:=eTValue) (ys:=[(⟨5,0,(⟨#[]⟩:ByteArray),[],((lit [(⟨((⟨#[109,97,120,83,107,101,119]⟩:ByteArray)),(⟨(2:Int),xo1.MaxSkew,((⟨#[]⟩:ByteArray)),([]),([])⟩:TValue)⟩:TField),(⟨((⟨#[114,101,113,117,105,114,101,100]⟩:ByteArray)),(⟨(1:Int),t5,((⟨#[]⟩:ByteArray)),([]),([])⟩:TValue)⟩:TField),(⟨((⟨#[115,101,108,101,99,116,111,114]⟩:ByteArray)),(⟨(4:Int),(0:Int),((⟨#[]⟩:ByteArray)),t7,([])⟩:TValue)⟩:TField),(⟨((⟨#[116,111,112,111,108,111,103,121]⟩:ByteArray)),(⟨(3:Int),(0:Int),xo1.Topology,([]),([])⟩:TValue)⟩:TField)]))⟩:TValue)]) rfl rfl (by simp[A1.cells]) (by first|rfl|(simp only[List.drop_zero,take_mapL];rfl)|(simp only[lit,List.map_cons,List.map_nil,List.drop_zero,take_mapL,EE.down];done)|(simp only[lit,List.map_cons,List.map_nil,List.drop_zero,take_mapL,EE.down];rfl)) (ww ?_)
   obtain⟨a12,ha12,h⟩:=bi h
   refine t_app (enc:=eTValue) (xs:=o1_0) rfl rfl (by first|rfl|simp only[List.length_set]|exact(clrL_len (slI_len (by assumption))).symm) rfl (rows_full (enc:=eTValue) (by first|rfl|simp only[List.length_set]|exact(clrL_len (slI_len (by assumption))).symm) rfl) ha12 (ww ?_)
   rw[wrapN (by omega)]
   exact eL' (x0.length-(o1_1+1)) [some 0,some 1] ⟨o1_1+1,a12,⟨by omega,rfl⟩,rfl,h⟩ (by omega)
  rw[countN (show¬((o1_1:Int)<(x0.length:Int))from c2),F69_l1]at h
  refine ww ?_
  cases h
  exact eM [some 0,some 1] rfl
 rintro _ rfl
 clear ho
 refine ww ?_
 obtain⟨t14,ht14,h⟩:=bi h
 refine callX_gen (as1:=[.c (dM (o1.map eTValue))]) [(1,.arr 1 5 [])] [some 0,none] [] (F89_ok ht14) ⟨?_,rfl,?_⟩ ?_ ?_ ?_ ?_ ?_ ?_ ?_ ?_
 ·simp only[ZZ.down,Nat.reduceEqDiff,reduceCtorEq,Nat.reduceAdd,Nat.reduceLeDiff,Nat.reduceLT,Nat.reduceBNe,EE.down]
 ·simp only[ZZ.down,Nat.reduceEqDiff,reduceCtorEq,Nat.reduceAdd,Nat.reduceLeDiff,Nat.reduceLT,Nat.reduceBNe,EE.down]
 ·simp only[ZZ.down,Nat.reduceEqDiff,reduceCtorEq,Nat.reduceAdd,Nat.reduceLeDiff,Nat.reduceLT,Nat.reduceBNe,EE.down]
 ·rfl
 ·rfl
 ·simp[liveAll,A1.live,C.live]
 ·rfl
 ·decide
 ·exact trivial
 refine ww ?_
 cases h
 exact eF []
def F51(x0:PodSpec):Option (((List TField))):=(F63 x0.Containers).bind fun t1=>(F62 ((⟨#[99,111,110,116,97,105,110,101,114,115]⟩:ByteArray)) ((⟨4,0,(⟨#[]⟩:ByteArray),t1,[]⟩:TValue))).bind fun t2=>(F64 x0.Grace).bind fun t3=>(F62 ((⟨#[103,114,97,99,101]⟩:ByteArray)) ((⟨2,x0.Grace,(⟨#[]⟩:ByteArray),[],[]⟩:TValue))).bind fun t4=>(F65 x0.Node).bind fun t5=>(F62 ((⟨#[110,111,100,101]⟩:ByteArray)) ((⟨3,0,x0.Node,[],[]⟩:TValue))).bind fun t6=>(F66 x0.NodeSelector).bind fun t7=>(F62 ((⟨#[110,111,100,101,83,101,108,101,99,116,111,114]⟩:ByteArray)) ((⟨4,0,(⟨#[]⟩:ByteArray),t7,[]⟩:TValue))).bind fun t8=>(F67 x0.NodeTerms).bind fun t9=>(F62 ((⟨#[110,111,100,101,84,101,114,109,115]⟩:ByteArray)) ((⟨4,0,(⟨#[]⟩:ByteArray),t9,[]⟩:TValue))).bind fun t10=>(F68 x0.PodTerms).bind fun t11=>(F62 ((⟨#[112,111,100,84,101,114,109,115]⟩:ByteArray)) ((⟨4,0,(⟨#[]⟩:ByteArray),t11,[]⟩:TValue))).bind fun t12=>(F64 x0.Priority).bind fun t13=>(F62 ((⟨#[112,114,105,111,114,105,116,121]⟩:ByteArray)) ((⟨2,x0.Priority,(⟨#[]⟩:ByteArray),[],[]⟩:TValue))).bind fun t14=>(F64 x0.Restart).bind fun t15=>(F62 ((⟨#[114,101,115,116,97,114,116]⟩:ByteArray)) ((⟨2,x0.Restart,(⟨#[]⟩:ByteArray),[],[]⟩:TValue))).bind fun t16=>(F69 x0.Spread).bind fun t17=>(F62 ((⟨#[115,112,114,101,97,100]⟩:ByteArray)) ((⟨4,0,(⟨#[]⟩:ByteArray),t17,[]⟩:TValue))).bind fun t18=>(F70 x0.Tolerations).bind fun t19=>(F62 ((⟨#[116,111,108,101,114,97,116,105,111,110,115]⟩:ByteArray)) ((⟨4,0,(⟨#[]⟩:ByteArray),t19,[]⟩:TValue))).bind fun t20=>(F61 ((lit [(⟨((⟨#[99,111,110,116,97,105,110,101,114,115]⟩:ByteArray)),(⟨(4:Int),(0:Int),((⟨#[]⟩:ByteArray)),t1,([])⟩:TValue)⟩:TField),(⟨((⟨#[103,114,97,99,101]⟩:ByteArray)),(⟨(2:Int),x0.Grace,((⟨#[]⟩:ByteArray)),([]),([])⟩:TValue)⟩:TField),(⟨((⟨#[110,111,100,101]⟩:ByteArray)),(⟨(3:Int),(0:Int),x0.Node,([]),([])⟩:TValue)⟩:TField),(⟨((⟨#[110,111,100,101,83,101,108,101,99,116,111,114]⟩:ByteArray)),(⟨(4:Int),(0:Int),((⟨#[]⟩:ByteArray)),t7,([])⟩:TValue)⟩:TField),(⟨((⟨#[110,111,100,101,84,101,114,109,115]⟩:ByteArray)),(⟨(4:Int),(0:Int),((⟨#[]⟩:ByteArray)),t9,([])⟩:TValue)⟩:TField),(⟨((⟨#[112,111,100,84,101,114,109,115]⟩:ByteArray)),(⟨(4:Int),(0:Int),((⟨#[]⟩:ByteArray)),t11,([])⟩:TValue)⟩:TField),(⟨((⟨#[112,114,105,111,114,105,116,121]⟩:ByteArray)),(⟨(2:Int),x0.Priority,((⟨#[]⟩:ByteArray)),([]),([])⟩:TValue)⟩:TField),(⟨((⟨#[114,101,115,116,97,114,116]⟩:ByteArray)),(⟨(2:Int),x0.Restart,((⟨#[]⟩:ByteArray)),([]),([])⟩:TValue)⟩:TField),(⟨((⟨#[115,112,114,101,97,100]⟩:ByteArray)),(⟨(4:Int),(0:Int),((⟨#[]⟩:ByteArray)),t17,([])⟩:TValue)⟩:TField),(⟨((⟨#[116,111,108,101,114,97,116,105,111,110,115]⟩:ByteArray)),(⟨(4:Int),(0:Int),((⟨#[]⟩:ByteArray)),t19,([])⟩:TValue)⟩:TField)]))).bind fun t21=>some (((lit [(⟨((⟨#[99,111,110,116,97,105,110,101,114,115]⟩:ByteArray)),(⟨(4:Int),(0:Int),((⟨#[]⟩:ByteArray)),t1,([])⟩:TValue)⟩:TField),(⟨((⟨#[103,114,97,99,101]⟩:ByteArray)),(⟨(2:Int),x0.Grace,((⟨#[]⟩:ByteArray)),([]),([])⟩:TValue)⟩:TField),(⟨((⟨#[110,111,100,101]⟩:ByteArray)),(⟨(3:Int),(0:Int),x0.Node,([]),([])⟩:TValue)⟩:TField),(⟨((⟨#[110,111,100,101,83,101,108,101,99,116,111,114]⟩:ByteArray)),(⟨(4:Int),(0:Int),((⟨#[]⟩:ByteArray)),t7,([])⟩:TValue)⟩:TField),(⟨((⟨#[110,111,100,101,84,101,114,109,115]⟩:ByteArray)),(⟨(4:Int),(0:Int),((⟨#[]⟩:ByteArray)),t9,([])⟩:TValue)⟩:TField),(⟨((⟨#[112,111,100,84,101,114,109,115]⟩:ByteArray)),(⟨(4:Int),(0:Int),((⟨#[]⟩:ByteArray)),t11,([])⟩:TValue)⟩:TField),(⟨((⟨#[112,114,105,111,114,105,116,121]⟩:ByteArray)),(⟨(2:Int),x0.Priority,((⟨#[]⟩:ByteArray)),([]),([])⟩:TValue)⟩:TField),(⟨((⟨#[114,101,115,116,97,114,116]⟩:ByteArray)),(⟨(2:Int),x0.Restart,((⟨#[]⟩:ByteArray)),([]),([])⟩:TValue)⟩:TField),(⟨((⟨#[115,112,114,101,97,100]⟩:ByteArray)),(⟨(4:Int),(0:Int),((⟨#[]⟩:ByteArray)),t17,([])⟩:TValue)⟩:TField),(⟨((⟨#[116,111,108,101,114,97,116,105,111,110,115]⟩:ByteArray)),(⟨(4:Int),(0:Int),((⟨#[]⟩:ByteArray)),t19,([])⟩:TValue)⟩:TField)])))
def a51:AFn:=⟨45,[(.cell 2 (some 5))],
 (.seq (.reg [sq 1 (.box (.t 0)),
sq 2 (.zbox [dI 0,dI 0,dS ⟨#[]⟩,dN,dN])])
 (.seq (.regd [sq 3 (.fieldA 4 (.t 1)),
sd 4 (.load none (.t 3)) [0],
zn 5 (.call 63 [(.t 4)]) [0,1] [0,1],
zn 6 (.call 62 [(kS ⟨#[99,111,110,116,97,105,110,101,114,115]⟩),(.t 5)]) [0,1,2] [0,1,2],
sq 7 (.fieldA 3 (.t 1)),
sd 8 (.load none (.t 7)) [4],
zn 9 (.call 64 [(.t 8)]) [0,1,2,3,4,5] [0,1,2,3,4,5],
zn 10 (.call 62 [(kS ⟨#[103,114,97,99,101]⟩),(.t 9)]) [0,1,2,3,4,5,6] [0,1,2,3,4,5,6],
sq 11 (.fieldA 0 (.t 1)),
sd 12 (.load none (.t 11)) [8],
zn 13 (.call 65 [(.t 12)]) [0,1,2,3,4,5,6,7,8,9] [0,1,2,3,4,5,6,7,8,9],
zn 14 (.call 62 [(kS ⟨#[110,111,100,101]⟩),(.t 13)]) [0,1,2,3,4,5,6,7,8,9,10] [0,1,2,3,4,5,6,7,8,9,10],
sq 15 (.fieldA 5 (.t 1)),
sd 16 (.load none (.t 15)) [12],
zn 17 (.call 66 [(.t 16)]) [0,1,2,3,4,5,6,7,8,9,10,11,12,13] [0,1,2,3,4,5,6,7,8,9,10,11,12,13],
zn 18 (.call 62 [(kS ⟨#[110,111,100,101,83,101,108,101,99,116,111,114]⟩),(.t 17)]) [0,1,2,3,4,5,6,7,8,9,10,11,12,13,14] [0,1,2,3,4,5,6,7,8,9,10,11,12,13,14],
sq 19 (.fieldA 6 (.t 1)),
sd 20 (.load none (.t 19)) [16],
zn 21 (.call 67 [(.t 20)]) [0,1,2,3,4,5,6,7,8,9,10,11,12,13,14,15,16,17] [0,1,2,3,4,5,6,7,8,9,10,11,12,13,14,15,16,17],
zn 22 (.call 62 [(kS ⟨#[110,111,100,101,84,101,114,109,115]⟩),(.t 21)]) [0,1,2,3,4,5,6,7,8,9,10,11,12,13,14,15,16,17,18] [0,1,2,3,4,5,6,7,8,9,10,11,12,13,14,15,16,17,18],
sq 23 (.fieldA 7 (.t 1)),
sd 24 (.load none (.t 23)) [20],
zn 25 (.call 68 [(.t 24)]) [0,1,2,3,4,5,6,7,8,9,10,11,12,13,14,15,16,17,18,19,20,21] [0,1,2,3,4,5,6,7,8,9,10,11,12,13,14,15,16,17,18,19,20,21],
zn 26 (.call 62 [(kS ⟨#[112,111,100,84,101,114,109,115]⟩),(.t 25)]) [0,1,2,3,4,5,6,7,8,9,10,11,12,13,14,15,16,17,18,19,20,21,22] [0,1,2,3,4,5,6,7,8,9,10,11,12,13,14,15,16,17,18,19,20,21,22],
sq 27 (.fieldA 1 (.t 1)),
sd 28 (.load none (.t 27)) [24],
zn 29 (.call 64 [(.t 28)]) [0,1,2,3,4,5,6,7,8,9,10,11,12,13,14,15,16,17,18,19,20,21,22,23,24,25] [0,1,2,3,4,5,6,7,8,9,10,11,12,13,14,15,16,17,18,19,20,21,22,23,24,25],
zn 30 (.call 62 [(kS ⟨#[112,114,105,111,114,105,116,121]⟩),(.t 29)]) [0,1,2,3,4,5,6,7,8,9,10,11,12,13,14,15,16,17,18,19,20,21,22,23,24,25,26] [0,1,2,3,4,5,6,7,8,9,10,11,12,13,14,15,16,17,18,19,20,21,22,23,24,25,26],
sq 31 (.fieldA 2 (.t 1)),
sd 32 (.load none (.t 31)) [28],
zn 33 (.call 64 [(.t 32)]) [0,1,2,3,4,5,6,7,8,9,10,11,12,13,14,15,16,17,18,19,20,21,22,23,24,25,26,27,28,29] [0,1,2,3,4,5,6,7,8,9,10,11,12,13,14,15,16,17,18,19,20,21,22,23,24,25,26,27,28,29],
zn 34 (.call 62 [(kS ⟨#[114,101,115,116,97,114,116]⟩),(.t 33)]) [0,1,2,3,4,5,6,7,8,9,10,11,12,13,14,15,16,17,18,19,20,21,22,23,24,25,26,27,28,29,30] [0,1,2,3,4,5,6,7,8,9,10,11,12,13,14,15,16,17,18,19,20,21,22,23,24,25,26,27,28,29,30],
sq 35 (.fieldA 8 (.t 1)),
sd 36 (.load none (.t 35)) [32],
zn 37 (.call 69 [(.t 36)]) [0,1,2,3,4,5,6,7,8,9,10,11,12,13,14,15,16,17,18,19,20,21,22,23,24,25,26,27,28,29,30,31,32,33] [0,1,2,3,4,5,6,7,8,9,10,11,12,13,14,15,16,17,18,19,20,21,22,23,24,25,26,27,28,29,30,31,32,33],
zn 38 (.call 62 [(kS ⟨#[115,112,114,101,97,100]⟩),(.t 37)]) [0,1,2,3,4,5,6,7,8,9,10,11,12,13,14,15,16,17,18,19,20,21,22,23,24,25,26,27,28,29,30,31,32,33,34] [0,1,2,3,4,5,6,7,8,9,10,11,12,13,14,15,16,17,18,19,20,21,22,23,24,25,26,27,28,29,30,31,32,33,34],
sq 39 (.fieldA 9 (.t 1)),
sd 40 (.load none (.t 39)) [36],
zl 41 (.call 70 [(.t 40)]) [0,1,2,3,4,5,6,7,8,9,10,11,12,13,14,15,16,17,18,19,20,21,22,23,24,25,26,27,28,29,30,31,32,33,34,35,36,37] [],
zl 42 (.call 62 [(kS ⟨#[116,111,108,101,114,97,116,105,111,110,115]⟩),(.t 41)]) [0,1,2,3,4,5,6,7,8,9,10,11,12,13,14,15,16,17,18,19,20,21,22,23,24,25,26,27,28,29,30,31,32,33,34,35,36,37,38] [],
zl 43 (.bslice 6 [(.t 6),(.t 10),(.t 14),(.t 18),(.t 22),(.t 26),(.t 30),(.t 34),(.t 38),(.t 42)]) [0,1,2,3,4,5,6,7,8,9,10,11,12,13,14,15,16,17,18,19,20,21,22,23,24,25,26,27,28,29,30,31,32,33,34,35,36,37,38,39] [],
zl 44 (.call 61 [(.t 43)]) [0,1,2,3,4,5,6,7,8,9,10,11,12,13,14,15,16,17,18,19,20,21,22,23,24,25,26,27,28,29,30,31,32,33,34,35,36,37,38,39,40] [],
⟨none,none,.store 5 (.t 2) (.t 44),[0,1,2,3,4,5,6,7,8,9,10,11,12,13,14,15,16,17,18,19,20,21,22,23,24,25,26,27,28,29,30,31,32,33,34,35,36,37,38,39,40,41],(.lone [])⟩])
 .ret))⟩
theorem F51_ok{x0 r}(h:F51 x0=some r):CallD Try.prog 51 [.agg [dS x0.Node,dI x0.Priority,dI x0.Restart,dI x0.Grace,dM (x0.Containers.map eContainer),dM (x0.NodeSelector.map eRequirement),dM (x0.NodeTerms.map eNodeTerm),dM (x0.PodTerms.map ePodTerm),dM (x0.Spread.map eSpreadRule),dM (x0.Tolerations.map eToleration)]] [] (tupV [.agg [dI 5,dI 0,dS ((⟨#[]⟩:ByteArray)),dM (([]:List TValue).map eTValue),dM (r.map eTField)]]) []:=by
 rw[F51]at h
 refine zc a51 (by kernel_rfl) rfl (ww ?_)
 obtain⟨t1,ht1,h⟩:=bi h
 refine cN [] (F63_ok ht1) trivial (ww ?_)
 obtain⟨t2,ht2,h⟩:=bi h
 refine cN [] (F62_ok ht2) trivial (ww ?_)
 obtain⟨t3,ht3,h⟩:=bi h
 refine cN [] (F64_ok ht3) trivial (ww ?_)
 obtain⟨t4,ht4,h⟩:=bi h
 refine cN [] (F62_ok ht4) trivial (ww ?_)
 obtain⟨t5,ht5,h⟩:=bi h
 refine cN [] (F65_ok ht5) trivial (ww ?_)
 obtain⟨t6,ht6,h⟩:=bi h
 refine cN [] (F62_ok ht6) trivial (ww ?_)
 obtain⟨t7,ht7,h⟩:=bi h
 refine cN [] (F66_ok ht7) trivial (ww ?_)
 obtain⟨t8,ht8,h⟩:=bi h
 refine cN [] (F62_ok ht8) trivial (ww ?_)
 obtain⟨t9,ht9,h⟩:=bi h
 refine cN [] (F67_ok ht9) trivial (ww ?_)
 obtain⟨t10,ht10,h⟩:=bi h
 refine cN [] (F62_ok ht10) trivial (ww ?_)
 obtain⟨t11,ht11,h⟩:=bi h
 refine cN [] (F68_ok ht11) trivial (ww ?_)
 obtain⟨t12,ht12,h⟩:=bi h
 refine cN [] (F62_ok ht12) trivial (ww ?_)
 obtain⟨t13,ht13,h⟩:=bi h
 refine cN [] (F64_ok ht13) trivial (ww ?_)
 obtain⟨t14,ht14,h⟩:=bi h
 refine cN [] (F62_ok ht14) trivial (ww ?_)
 obtain⟨t15,ht15,h⟩:=bi h
 refine cN [] (F64_ok ht15) trivial (ww ?_)
 obtain⟨t16,ht16,h⟩:=bi h
 refine cN [] (F62_ok ht16) trivial (ww ?_)
 obtain⟨t17,ht17,h⟩:=bi h
 refine cN [] (F69_ok ht17) trivial (ww ?_)
 obtain⟨t18,ht18,h⟩:=bi h
 refine cN [] (F62_ok ht18) trivial (ww ?_)
 obtain⟨t19,ht19,h⟩:=bi h
 refine cN [] (F70_ok ht19) trivial (ww ?_)
 obtain⟨t20,ht20,h⟩:=bi h
 refine cN [] (F62_ok ht20) trivial (ww ?_)
 refine t_bslice (enc:=eTField) (ys:=(lit [(⟨((⟨#[99,111,110,116,97,105,110,101,114,115]⟩:ByteArray)),(⟨(4:Int),(0:Int),((⟨#[]⟩:ByteArray)),t1,([])⟩:TValue)⟩:TField),(⟨((⟨#[103,114,97,99,101]⟩:ByteArray)),(⟨(2:Int),x0.Grace,((⟨#[]⟩:ByteArray)),([]),([])⟩:TValue)⟩:TField),(⟨((⟨#[110,111,100,101]⟩:ByteArray)),(⟨(3:Int),(0:Int),x0.Node,([]),([])⟩:TValue)⟩:TField),(⟨((⟨#[110,111,100,101,83,101,108,101,99,116,111,114]⟩:ByteArray)),(⟨(4:Int),(0:Int),((⟨#[]⟩:ByteArray)),t7,([])⟩:TValue)⟩:TField),(⟨((⟨#[110,111,100,101,84,101,114,109,115]⟩:ByteArray)),(⟨(4:Int),(0:Int),((⟨#[]⟩:ByteArray)),t9,([])⟩:TValue)⟩:TField),(⟨((⟨#[112,111,100,84,101,114,109,115]⟩:ByteArray)),(⟨(4:Int),(0:Int),((⟨#[]⟩:ByteArray)),t11,([])⟩:TValue)⟩:TField),(⟨((⟨#[112,114,105,111,114,105,116,121]⟩:ByteArray)),(⟨(2:Int),x0.Priority,((⟨#[]⟩:ByteArray)),([]),([])⟩:TValue)⟩:TField),(⟨((⟨#[114,101,115,116,97,114,116]⟩:ByteArray)),(⟨(2:Int),x0.Restart,((⟨#[]⟩:ByteArray)),([]),([])⟩:TValue)⟩:TField),(⟨((⟨#[115,112,114,101,97,100]⟩:ByteArray)),(⟨(4:Int),(0:Int),((⟨#[]⟩:ByteArray)),t17,([])⟩:TValue)⟩:TField),(⟨((⟨#[116,111,108,101,114,97,116,105,111,110,115]⟩:ByteArray)),(⟨(4:Int),(0:Int),((⟨#[]⟩:ByteArray)),t19,([])⟩:TValue)⟩:TField)])) rfl rfl (by simp[A1.cells]) (by first|rfl|(simp only[List.drop_zero,take_mapL];rfl)|(simp only[lit,List.map_cons,List.map_nil,List.drop_zero,take_mapL,EE.down];done)|(simp only[lit,List.map_cons,List.map_nil,List.drop_zero,take_mapL,EE.down];rfl)) (ww ?_)
 obtain⟨t21,ht21,h⟩:=bi h
 refine callX_gen (as1:=[.c (dM (((lit [(⟨((⟨#[99,111,110,116,97,105,110,101,114,115]⟩:ByteArray)),(⟨(4:Int),(0:Int),((⟨#[]⟩:ByteArray)),t1,([])⟩:TValue)⟩:TField),(⟨((⟨#[103,114,97,99,101]⟩:ByteArray)),(⟨(2:Int),x0.Grace,((⟨#[]⟩:ByteArray)),([]),([])⟩:TValue)⟩:TField),(⟨((⟨#[110,111,100,101]⟩:ByteArray)),(⟨(3:Int),(0:Int),x0.Node,([]),([])⟩:TValue)⟩:TField),(⟨((⟨#[110,111,100,101,83,101,108,101,99,116,111,114]⟩:ByteArray)),(⟨(4:Int),(0:Int),((⟨#[]⟩:ByteArray)),t7,([])⟩:TValue)⟩:TField),(⟨((⟨#[110,111,100,101,84,101,114,109,115]⟩:ByteArray)),(⟨(4:Int),(0:Int),((⟨#[]⟩:ByteArray)),t9,([])⟩:TValue)⟩:TField),(⟨((⟨#[112,111,100,84,101,114,109,115]⟩:ByteArray)),(⟨(4:Int),(0:Int),((⟨#[]⟩:ByteArray)),t11,([])⟩:TValue)⟩:TField),(⟨((⟨#[112,114,105,111,114,105,116,121]⟩:ByteArray)),(⟨(2:Int),x0.Priority,((⟨#[]⟩:ByteArray)),([]),([])⟩:TValue)⟩:TField),(⟨((⟨#[114,101,115,116,97,114,116]⟩:ByteArray)),(⟨(2:Int),x0.Restart,((⟨#[]⟩:ByteArray)),([]),([])⟩:TValue)⟩:TField),(⟨((⟨#[115,112,114,101,97,100]⟩:ByteArray)),(⟨(4:Int),(0:Int),((⟨#[]⟩:ByteArray)),t17,([])⟩:TValue)⟩:TField),(⟨((⟨#[116,111,108,101,114,97,116,105,111,110,115]⟩:ByteArray)),(⟨(4:Int),(0:Int),((⟨#[]⟩:ByteArray)),t19,([])⟩:TValue)⟩:TField)])).map eTField))]) [(2,.arr 1 6 [])] [some 0,some 1,none] [] (F61_ok ht21) ⟨?_,rfl,?_⟩ ?_ ?_ ?_ ?_ ?_ ?_ ?_ ?_
 ·simp only[ZZ.down,Nat.reduceEqDiff,reduceCtorEq,Nat.reduceAdd,Nat.reduceLeDiff,Nat.reduceLT,Nat.reduceBNe,EE.down]
 ·simp only[ZZ.down,Nat.reduceEqDiff,reduceCtorEq,Nat.reduceAdd,Nat.reduceLeDiff,Nat.reduceLT,Nat.reduceBNe,EE.down]
 ·simp only[ZZ.down,Nat.reduceEqDiff,reduceCtorEq,Nat.reduceAdd,Nat.reduceLeDiff,Nat.reduceLT,Nat.reduceBNe,EE.down]
 ·rfl
 ·rfl
 ·simp[liveAll,A1.live,C.live]
 ·rfl
 ·decide
 ·exact trivial
 refine ww ?_
 cases h
 exact eF []
end Go.Proofs.Ytfkkccgopmcnaaa
