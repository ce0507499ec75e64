/- Each Go function as a function over typed data, and its walk. -/
import Derived.Test.YtfkkccgopmcnaaaW0
import Derived.Test.YtfkkccgopmcnaaaW1
import Derived.Test.YtfkkccgopmcnaaaW2
import Derived.Test.YtfkkccgopmcnaaaW3
namespace Go.Proofs.Ytfkkccgopmcnaaa
open Go Go.Fw Go.Shelf
set_option maxRecDepth 100000
set_option maxHeartbeats 4000000
set_option linter.unusedSimpArgs false
set_option linter.unusedVariables false
def F7(x0:Service):Option (Bool):=(((F20 x0.Selector).bind fun t2=>(if t2=true then(F21 x0.Meta).bind fun t4=>(if t4=true then some (decide ((x0.Ports.length:Int)≤100))else some false)else some false)).bind fun o1=>some o1)
def a7:AFn:=⟨17,[(.tmp 2)],
 (.seq (.reg [sq 1 (.box (.t 0)),
sq 2 (.mv (kB false))])
 (.seq (.sem (.reg [sq 3 (.fieldA 13 (.t 1)),
sq 4 (.load none (.t 3)),
sq 5 (.call 20 [(.t 4)]),
sq 6 (.mv (.t 5)),
zg 7 6 true (.fieldA 0 (.t 1)),
zg 8 6 true (.load (some 13) (.t 7)),
zg 9 6 true (.call 21 [(.t 8)]),
sq 10 (.pick (.t 6) (.t 9) (kB false)),
sq 11 (.mv (.t 10)),
zg 12 11 true (.fieldA 14 (.t 1)),
zg 13 11 true (.load none (.t 12)),
zg 14 11 true (.len (.t 13)),
zg 15 11 true (.bin .leq (.t 14) (kI 100)),
sq 16 (.pick (.t 11) (.t 15) (kB false)),
sq 2 (.mv (.t 16))]))
 .ret))⟩
theorem F7_ok{x0 r}(h:F7 x0=some r):CallD Try.prog 7 [.agg [dS x0.Meta.Kind,dS x0.Meta.Namespace,dS x0.Meta.Name,dI x0.Meta.Uid,dI x0.Meta.Version,dI x0.Meta.Generation,dI x0.Meta.Created,dB x0.Meta.Deleting,dI x0.Meta.DeleteAt,dM (x0.Meta.Labels.map eLabel),dM (x0.Meta.Owners.map eOwner),dM (x0.Meta.Finalizers.map eS),dM (x0.Meta.Managers.map eManager),dM (x0.Selector.map eRequirement),dM (x0.Ports.map eServicePort),dB x0.Sticky,dI x0.Address]] [] (tupV [.c (dB r)]) []:=by
 rw[F7]at h
 refine zc a7 (by kernel_rfl) rfl (ww ?_)
 obtain⟨o1,ho,h⟩:=bi h
 refine cutS (fun s=>s=⟨[(2,.one (.c (dB o1)))],[]⟩) ?_ ?_
 ·have h:=ho
  clear ho
  refine ww ?_
  obtain⟨t2,ht2,h⟩:=bi h
  refine cN [] (F20_ok ht2) trivial (ww ?_)
  refine guardSBh h (fun g3 h=>?_) (fun g3 h=>?_)
  ·refine ww ?_
   obtain⟨t4,ht4,h⟩:=bi h
   refine cN [] (F21_ok ht4) trivial (ww ?_)
   refine guardSBh h (fun g5 h=>?_) (fun g5 h=>?_)
   ·refine ww ?_
    cases h
    exact eM [] rfl
   refine ww ?_
   cases h
   exact eM [] rfl
  refine ww ?_
  cases h
  exact eM [] rfl
 rintro _ rfl
 clear ho
 refine ww ?_
 cases h
 exact eF []
def F88_l1:List Probe→Nat→(List TValue)→Option ((List TValue))
 |[],o1_1,o1_0=>some o1_0
 |xo1::xs,o1_1,o1_0=>(F64 xo1.Delay).bind fun t3=>(F62 ((⟨#[100,101,108,97,121]⟩:ByteArray)) ((⟨2,xo1.Delay,(⟨#[]⟩:ByteArray),[],[]⟩:TValue))).bind fun t4=>(F64 xo1.Failure).bind fun t5=>(F62 ((⟨#[102,97,105,108,117,114,101]⟩:ByteArray)) ((⟨2,xo1.Failure,(⟨#[]⟩:ByteArray),[],[]⟩:TValue))).bind fun t6=>(F64 xo1.Period).bind fun t7=>(F62 ((⟨#[112,101,114,105,111,100]⟩:ByteArray)) ((⟨2,xo1.Period,(⟨#[]⟩:ByteArray),[],[]⟩:TValue))).bind fun t8=>(F64 xo1.Success).bind fun t9=>(F62 ((⟨#[115,117,99,99,101,115,115]⟩:ByteArray)) ((⟨2,xo1.Success,(⟨#[]⟩:ByteArray),[],[]⟩:TValue))).bind fun t10=>(F61 ((lit [(⟨((⟨#[100,101,108,97,121]⟩:ByteArray)),(⟨(2:Int),xo1.Delay,((⟨#[]⟩:ByteArray)),([]),([])⟩:TValue)⟩:TField),(⟨((⟨#[102,97,105,108,117,114,101]⟩:ByteArray)),(⟨(2:Int),xo1.Failure,((⟨#[]⟩:ByteArray)),([]),([])⟩:TValue)⟩:TField),(⟨((⟨#[112,101,114,105,111,100]⟩:ByteArray)),(⟨(2:Int),xo1.Period,((⟨#[]⟩:ByteArray)),([]),([])⟩:TValue)⟩:TField),(⟨((⟨#[115,117,99,99,101,115,115]⟩:ByteArray)),(⟨(2:Int),xo1.Success,((⟨#[]⟩:ByteArray)),([]),([])⟩:TValue)⟩:TField)]))).bind fun t11=>(apI o1_0 ([(⟨5,0,(⟨#[]⟩:ByteArray),[],((lit [(⟨((⟨#[100,101,108,97,121]⟩:ByteArray)),(⟨(2:Int),xo1.Delay,((⟨#[]⟩:ByteArray)),([]),([])⟩:TValue)⟩:TField),(⟨((⟨#[102,97,105,108,117,114,101]⟩:ByteArray)),(⟨(2:Int),xo1.Failure,((⟨#[]⟩:ByteArray)),([]),([])⟩:TValue)⟩:TField),(⟨((⟨#[112,101,114,105,111,100]⟩:ByteArray)),(⟨(2:Int),xo1.Period,((⟨#[]⟩:ByteArray)),([]),([])⟩:TValue)⟩:TField),(⟨((⟨#[115,117,99,99,101,115,115]⟩:ByteArray)),(⟨(2:Int),xo1.Success,((⟨#[]⟩:ByteArray)),([]),([])⟩:TValue)⟩:TField)]))⟩:TValue)])).bind fun a12=>F88_l1 xs (o1_1+1) a12
def F88(x0:(List Probe)):Option (((List TValue))):=(((ck (0≤x0.length∧x0.length≤4294967290)).bind fun u13=>F88_l1 x0 0 ([])).bind fun o1=>(F89 o1).bind fun t14=>some o1)
def a88:AFn:=⟨46,[(.cell 2 (some 5))],
 (.seq (.reg [zl 2 (.zbox [dI 0,dI 0,dS ⟨#[]⟩,dN,dN]) [] []])
 (.seq (.reg [sq 3 (.mv kN)])
 (.seq (.seq (.reg [sq 4 (.mv (kI 0))])
 (.sem (.block 0 (.loop (.seq (.seq (.reg [sq 5 (.mv (.t 4)),
sq 6 (.mv (.t 0)),
sq 7 (.len (.t 6)),
sq 8 (.bin .lss (.t 5) (.t 7))])
 (.cond (.t 8)
 .skip
 (.exit 0)))
 (.seq (.block 1 (.regd [sq 11 (.mv (.t 3)),
sq 12 (.mv (.t 0)),
sq 13 (.mv (.t 4)),
sd 14 (.indexA 4 (.t 12) (.t 13)) [1,2],
sd 15 (.fieldA 0 (.t 14)) [1,2,3],
sd 16 (.load none (.t 15)) [1,2,3,4],
zn 17 (.call 64 [(.t 16)]) [1,2,3,4,5] [1,2,3,4,5],
zn 18 (.call 62 [(kS ⟨#[100,101,108,97,121]⟩),(.t 17)]) [1,2,3,4,5,6] [1,2,3,4,5,6],
sq 19 (.mv (.t 0)),
sq 20 (.mv (.t 4)),
sd 21 (.indexA 4 (.t 19) (.t 20)) [8,9],
sd 22 (.fieldA 3 (.t 21)) [8,9,10],
sd 23 (.load none (.t 22)) [8,9,10,11],
zn 24 (.call 64 [(.t 23)]) [1,2,3,4,5,6,7,8,9,10,11,12] [1,2,3,4,5,6,7,8,9,10,11,12],
zn 25 (.call 62 [(kS ⟨#[102,97,105,108,117,114,101]⟩),(.t 24)]) [1,2,3,4,5,6,7,8,9,10,11,12,13] [1,2,3,4,5,6,7,8,9,10,11,12,13],
sq 26 (.mv (.t 0)),
sq 27 (.mv (.t 4)),
sd 28 (.indexA 4 (.t 26) (.t 27)) [15,16],
sd 29 (.fieldA 1 (.t 28)) [15,16,17],
sd 30 (.load none (.t 29)) [15,16,17,18],
zn 31 (.call 64 [(.t 30)]) [1,2,3,4,5,6,7,8,9,10,11,12,13,14,15,16,17,18,19] [1,2,3,4,5,6,7,8,9,10,11,12,13,14,15,16,17,18,19],
zn 32 (.call 62 [(kS ⟨#[112,101,114,105,111,100]⟩),(.t 31)]) [1,2,3,4,5,6,7,8,9,10,11,12,13,14,15,16,17,18,19,20] [1,2,3,4,5,6,7,8,9,10,11,12,13,14,15,16,17,18,19,20],
sq 33 (.mv (.t 0)),
sq 34 (.mv (.t 4)),
sd 35 (.indexA 4 (.t 33) (.t 34)) [22,23],
sd 36 (.fieldA 2 (.t 35)) [22,23,24],
sd 37 (.load none (.t 36)) [22,23,24,25],
zl 38 (.call 64 [(.t 37)]) [1,2,3,4,5,6,7,8,9,10,11,12,13,14,15,16,17,18,19,20,21,22,23,24,25,26] [],
zl 39 (.call 62 [(kS ⟨#[115,117,99,99,101,115,115]⟩),(.t 38)]) [1,2,3,4,5,6,7,8,9,10,11,12,13,14,15,16,17,18,19,20,21,22,23,24,25,26,27] [],
zl 40 (.bslice 6 [(.t 18),(.t 25),(.t 32),(.t 39)]) [1,2,3,4,5,6,7,8,9,10,11,12,13,14,15,16,17,18,19,20,21,22,23,24,25,26,27,28] [],
zl 41 (.call 61 [(.t 40)]) [1,2,3,4,5,6,7,8,9,10,11,12,13,14,15,16,17,18,19,20,21,22,23,24,25,26,27,28,29] [],
zl 42 (.bslice 5 [(.t 41)]) [1,2,3,4,5,6,7,8,9,10,11,12,13,14,15,16,17,18,19,20,21,22,23,24,25,26,27,28,29,30] [],
zl 43 (.app 5 80 (.t 11) (.t 42)) [0,1,2,3,4,5,6,7,8,9,10,11,12,13,14,15,16,17,18,19,20,21,22,23,24,25,26,27,28,29,30,31] [],
sd 3 (.mv (.t 43)) [0,1,2,3,4,5,6,7,8,9,10,11,12,13,14,15,16,17,18,19,20,21,22,23,24,25,26,27,28,29,30,31,32]]))
 (.reg [sq 9 (.mv (.t 4)),
sq 10 (.bin .add (.t 9) (kI 1)),
sq 4 (.mv (.t 10))])))))))
 (.seq (.reg [sq 44 (.mv (.t 3)),
sq 45 (.call 89 [(.t 44)]),
su (.store 5 (.t 2) (.t 45))])
 .ret))))⟩
theorem F88_ok{x0 r}(h:F88 x0=some r):CallD Try.prog 88 [.c (dM (x0.map eProbe))] [] (tupV [.agg [dI 4,dI 0,dS ((⟨#[]⟩:ByteArray)),dM (r.map eTValue),dM (([]:List TField).map eTField)]]) []:=by
 rw[F88]at h
 refine zc a88 (by kernel_rfl) rfl (ww ?_)
 obtain⟨o1,ho,h⟩:=bi h
 refine cutS (fun s=>s=⟨[(2,.one (.c (.pt 0 0))),(3,.one (.c (.own 1 0 0 (o1.length) none)))],[some (.box [dI 0,dI 0,dS ((⟨#[]⟩:ByteArray)),dN,dN]),some (.arr 0 5 (o1.map eTValue))]⟩) ?_ ?_
 ·have h:=ho
  clear ho
  obtain⟨_,hk,h⟩:=bi h
  have hk:=ck_some hk
  refine ww ?_
  refine bL (fun j s=>∃(o1_1:Nat) (o1_0:List TValue),(o1_1≤x0.length∧j=x0.length-o1_1)∧s=⟨[(0,.one (.c (dM (x0.map eProbe)))),(2,.one (.c (.pt 0 0))),(3,.one (.c (.own 1 0 0 (o1_0.length) none))),(4,.one (.c (dI ((o1_1:Int)))))],[some (.box [dI 0,dI 0,dS ((⟨#[]⟩:ByteArray)),dN,dN]),some (.arr 0 5 (o1_0.map eTValue))]⟩∧F88_l1 (x0.drop o1_1) o1_1 o1_0=some o1) (x0.length-0) [some 0,none] ⟨0,[],⟨hk.1,rfl⟩,rfl,h⟩ ?_
  rintro _ _ ⟨o1_1,o1_0,⟨hi,rfl⟩,rfl,h⟩
  refine ww ?_
  refine condS (fun c2=>?_) (fun c2=>?_)
  ·obtain⟨xo1,hxo1,hd⟩:=countY (show(o1_1:Int)<(x0.length:Int)from c2)
   rw[hd,F88_l1]at h
   refine ww ?_
   refine t_idxF (enc:=eProbe) (xs:=x0) rfl rfl hxo1 rfl (ww ?_)
   obtain⟨t3,ht3,h⟩:=bi h
   refine cN [] (F64_ok ht3) trivial (ww ?_)
   obtain⟨t4,ht4,h⟩:=bi h
   refine cN [] (F62_ok ht4) trivial (ww ?_)
   refine t_idxF (enc:=eProbe) (xs:=x0) rfl rfl hxo1 rfl (ww ?_)
   obtain⟨t5,ht5,h⟩:=bi h
   refine cN [] (F64_ok ht5) trivial (ww ?_)
   obtain⟨t6,ht6,h⟩:=bi h
   refine cN [] (F62_ok ht6) trivial (ww ?_)
   refine t_idxF (enc:=eProbe) (xs:=x0) rfl rfl hxo1 rfl (ww ?_)
   obtain⟨t7,ht7,h⟩:=bi h
   refine cN [] (F64_ok ht7) trivial (ww ?_)
   obtain⟨t8,ht8,h⟩:=bi h
   refine cN [] (F62_ok ht8) trivial (ww ?_)
   refine t_idxF (enc:=eProbe) (xs:=x0) rfl rfl hxo1 rfl (ww ?_)
   obtain⟨t9,ht9,h⟩:=bi h
   refine cN [] (F64_ok ht9) trivial (ww ?_)
   obtain⟨t10,ht10,h⟩:=bi h
   refine cN [] (F62_ok ht10) trivial (ww ?_)
   refine t_bslice (enc:=eTField) (ys:=(lit [(⟨((⟨#[100,101,108,97,121]⟩:ByteArray)),(⟨(2:Int),xo1.Delay,((⟨#[]⟩:ByteArray)),([]),([])⟩:TValue)⟩:TField),(⟨((⟨#[102,97,105,108,117,114,101]⟩:ByteArray)),(⟨(2:Int),xo1.Failure,((⟨#[]⟩:ByteArray)),([]),([])⟩:TValue)⟩:TField),(⟨((⟨#[112,101,114,105,111,100]⟩:ByteArray)),(⟨(2:Int),xo1.Period,((⟨#[]⟩:ByteArray)),([]),([])⟩:TValue)⟩:TField),(⟨((⟨#[115,117,99,99,101,115,115]⟩:ByteArray)),(⟨(2:Int),xo1.Success,((⟨#[]⟩:ByteArray)),([]),([])⟩:TValue)⟩:TField)])) rfl rfl (by simp[A1.cells]) (by first|rfl|(simp only[List.drop_zero,take_mapL];rfl)|(simp only[lit,List.map_cons,List.map_nil,List.drop_zero,take_mapL,EE.down];done)|(simp only[lit,List.map_cons,List.map_nil,List.drop_zero,take_mapL,EE.down];rfl)) (ww ?_)
   obtain⟨t11,ht11,h⟩:=bi h
   refine callX_gen (as1:=[.c (dM (((lit [(⟨((⟨#[100,101,108,97,121]⟩:ByteArray)),(⟨(2:Int),xo1.Delay,((⟨#[]⟩:ByteArray)),([]),([])⟩:TValue)⟩:TField),(⟨((⟨#[102,97,105,108,117,114,101]⟩:ByteArray)),(⟨(2:Int),xo1.Failure,((⟨#[]⟩:ByteArray)),([]),([])⟩:TValue)⟩:TField),(⟨((⟨#[112,101,114,105,111,100]⟩:ByteArray)),(⟨(2:Int),xo1.Period,((⟨#[]⟩:ByteArray)),([]),([])⟩:TValue)⟩:TField),(⟨((⟨#[115,117,99,99,101,115,115]⟩:ByteArray)),(⟨(2:Int),xo1.Success,((⟨#[]⟩:ByteArray)),([]),([])⟩:TValue)⟩:TField)])).map eTField))]) [(2,.arr 1 6 [])] [some 0,some 1,none] [] (F61_ok ht11) ⟨?_,rfl,?_⟩ ?_ ?_ ?_ ?_ ?_ ?_ ?_ ?_
   ·simp only[ZZ.down,Nat.reduceEqDiff,reduceCtorEq,Nat.reduceAdd,Nat.reduceLeDiff,Nat.reduceLT,Nat.reduceBNe,EE.down]
   ·simp only[ZZ.down,Nat.reduceEqDiff,reduceCtorEq,Nat.reduceAdd,Nat.reduceLeDiff,Nat.reduceLT,Nat.reduceBNe,EE.down]
   ·simp only[ZZ.down,Nat.reduceEqDiff,reduceCtorEq,Nat.reduceAdd,Nat.reduceLeDiff,Nat.reduceLT,Nat.reduceBNe,EE.down]
   ·rfl
   ·rfl
   ·simp[liveAll,A1.live,C.live]
   ·rfl
   ·decide
   ·exact trivial
   refine ww ?_
   refine t_bslice (enc:=eTValue) (ys:=[(⟨5,0,(⟨#[]⟩:ByteArray),[],((lit [(⟨((⟨#[100,101,108,97,121]⟩:ByteArray)),(⟨(2:Int),xo1.Delay,((⟨#[]⟩:ByteArray)),([]),([])⟩:TValue)⟩:TField),(⟨((⟨#[102,97,105,108,117,114,101]⟩:ByteArray)),(⟨(2:Int),xo1.Failure,((⟨#[]⟩:ByteArray)),([]),([])⟩:TValue)⟩:TField),(⟨((⟨#[112,101,114,105,111,100]⟩:ByteArray)),(⟨(2:Int),xo1.Period,((⟨#[]⟩:ByteArray)),([]),([])⟩:TValue)⟩:TField),(⟨((⟨#[115,117,99,99,101,115,115]⟩:ByteArray)),(⟨(2:Int),xo1.Success,((⟨#[]⟩:ByteArray)),([]),([])⟩:TValue)⟩:TField)]))⟩:TValue)]) rfl rfl (by simp[A1.cells]) (by first|rfl|(simp only[List.drop_zero,take_mapL];rfl)|(simp only[lit,List.map_cons,List.map_nil,List.drop_zero,take_mapL,EE.down];done)|(simp only[lit,List.map_cons,List.map_nil,List.drop_zero,take_mapL,EE.down];rfl)) (ww ?_)
   obtain⟨a12,ha12,h⟩:=bi h
   refine t_app (enc:=eTValue) (xs:=o1_0) rfl rfl (by first|rfl|simp only[List.length_set]|exact(clrL_len (slI_len (by assumption))).symm) rfl (rows_full (enc:=eTValue) (by first|rfl|simp only[List.length_set]|exact(clrL_len (slI_len (by assumption))).symm) rfl) ha12 (ww ?_)
   rw[wrapN (by omega)]
   exact eL' (x0.length-(o1_1+1)) [some 0,some 1] ⟨o1_1+1,a12,⟨by omega,rfl⟩,rfl,h⟩ (by omega)
  rw[countN (show¬((o1_1:Int)<(x0.length:Int))from c2),F88_l1]at h
  refine ww ?_
  cases h
  exact eM [some 0,some 1] rfl
 rintro _ rfl
 clear ho
 refine ww ?_
 obtain⟨t14,ht14,h⟩:=bi h
 refine callX_gen (as1:=[.c (dM (o1.map eTValue))]) [(1,.arr 1 5 [])] [some 0,none] [] (F89_ok ht14) ⟨?_,rfl,?_⟩ ?_ ?_ ?_ ?_ ?_ ?_ ?_ ?_
 ·simp only[ZZ.down,Nat.reduceEqDiff,reduceCtorEq,Nat.reduceAdd,Nat.reduceLeDiff,Nat.reduceLT,Nat.reduceBNe,EE.down]
 ·simp only[ZZ.down,Nat.reduceEqDiff,reduceCtorEq,Nat.reduceAdd,Nat.reduceLeDiff,Nat.reduceLT,Nat.reduceBNe,EE.down]
 ·simp only[ZZ.down,Nat.reduceEqDiff,reduceCtorEq,Nat.reduceAdd,Nat.reduceLeDiff,Nat.reduceLT,Nat.reduceBNe,EE.down]
 ·rfl
 ·rfl
 ·simp[liveAll,A1.live,C.live]
 ·rfl
 ·decide
 ·exact trivial
 refine ww ?_
 cases h
 exact eF []
def F90_l1:List ByteArray→Nat→(List TValue)→Option ((List TValue))
 |[],o1_1,o1_0=>some o1_0
 |xo1::xs,o1_1,o1_0=>(F65 xo1).bind fun t3=>(apI o1_0 ([(⟨3,0,xo1,[],[]⟩:TValue)])).bind fun a4=>F90_l1 xs (o1_1+1) a4
def F90(x0:(List ByteArray)):Option (((List TValue))):=(((ck (0≤x0.length∧x0.length≤4294967290)).bind fun u5=>F90_l1 x0 0 ([])).bind fun o1=>(F89 o1).bind fun t6=>some o1)
def a90:AFn:=⟨21,[(.cell 2 (some 5))],
 (.seq (.reg [zl 2 (.zbox [dI 0,dI 0,dS ⟨#[]⟩,dN,dN]) [] []])
 (.seq (.reg [sq 3 (.mv kN)])
 (.seq (.seq (.reg [sq 4 (.mv (kI 0))])
 (.sem (.block 0 (.loop (.seq (.seq (.reg [sq 5 (.mv (.t 4)),
sq 6 (.mv (.t 0)),
sq 7 (.len (.t 6)),
sq 8 (.bin .lss (.t 5) (.t 7))])
 (.cond (.t 8)
 .skip
 (.exit 0)))
 (.seq (.block 1 (.reg [sq 11 (.mv (.t 3)),
sq 12 (.mv (.t 0)),
sq 13 (.mv (.t 4)),
sq 14 (.indexA 1 (.t 12) (.t 13)),
sq 15 (.load none (.t 14)),
sq 16 (.call 65 [(.t 15)]),
sq 17 (.bslice 5 [(.t 16)]),
sq 18 (.app 5 80 (.t 11) (.t 17)),
sq 3 (.mv (.t 18))]))
 (.reg [sq 9 (.mv (.t 4)),
sq 10 (.bin .add (.t 9) (kI 1)),
sq 4 (.mv (.t 10))])))))))
 (.seq (.reg [sq 19 (.mv (.t 3)),
sq 20 (.call 89 [(.t 19)]),
su (.store 5 (.t 2) (.t 20))])
 .ret))))⟩
theorem F90_ok{x0 r}(h:F90 x0=some r):CallD Try.prog 90 [.c (dM (x0.map eS))] [] (tupV [.agg [dI 4,dI 0,dS ((⟨#[]⟩:ByteArray)),dM (r.map eTValue),dM (([]:List TField).map eTField)]]) []:=by
 rw[F90]at h
 refine zc a90 (by kernel_rfl) rfl (ww ?_)
 obtain⟨o1,ho,h⟩:=bi h
 refine cutS (fun s=>s=⟨[(2,.one (.c (.pt 0 0))),(3,.one (.c (.own 1 0 0 (o1.length) none)))],[some (.box [dI 0,dI 0,dS ((⟨#[]⟩:ByteArray)),dN,dN]),some (.arr 0 5 (o1.map eTValue))]⟩) ?_ ?_
 ·have h:=ho
  clear ho
  obtain⟨_,hk,h⟩:=bi h
  have hk:=ck_some hk
  refine ww ?_
  refine bL (fun j s=>∃(o1_1:Nat) (o1_0:List TValue),(o1_1≤x0.length∧j=x0.length-o1_1)∧s=⟨[(0,.one (.c (dM (x0.map eS)))),(2,.one (.c (.pt 0 0))),(3,.one (.c (.own 1 0 0 (o1_0.length) none))),(4,.one (.c (dI ((o1_1:Int)))))],[some (.box [dI 0,dI 0,dS ((⟨#[]⟩:ByteArray)),dN,dN]),some (.arr 0 5 (o1_0.map eTValue))]⟩∧F90_l1 (x0.drop o1_1) o1_1 o1_0=some o1) (x0.length-0) [some 0,none] ⟨0,[],⟨hk.1,rfl⟩,rfl,h⟩ ?_
  rintro _ _ ⟨o1_1,o1_0,⟨hi,rfl⟩,rfl,h⟩
  refine ww ?_
  refine condS (fun c2=>?_) (fun c2=>?_)
  ·obtain⟨xo1,hxo1,hd⟩:=countY (show(o1_1:Int)<(x0.length:Int)from c2)
   rw[hd,F90_l1]at h
   refine ww ?_
   refine t_idxF (enc:=eS) (xs:=x0) rfl rfl hxo1 rfl (ww ?_)
   obtain⟨t3,ht3,h⟩:=bi h
   refine cN [] (F65_ok ht3) trivial (ww ?_)
   refine t_bslice (enc:=eTValue) (ys:=[(⟨3,0,xo1,[],[]⟩:TValue)]) rfl rfl (by simp[A1.cells]) (by first|rfl|(simp only[List.drop_zero,take_mapL];rfl)|(simp only[lit,List.map_cons,List.map_nil,List.drop_zero,take_mapL,EE.down];done)|(simp only[lit,List.map_cons,List.map_nil,List.drop_zero,take_mapL,EE.down];rfl)) (ww ?_)
   obtain⟨a4,ha4,h⟩:=bi h
   refine t_app (enc:=eTValue) (xs:=o1_0) rfl rfl (by first|rfl|simp only[List.length_set]|exact(clrL_len (slI_len (by assumption))).symm) rfl (rows_full (enc:=eTValue) (by first|rfl|simp only[List.length_set]|exact(clrL_len (slI_len (by assumption))).symm) rfl) ha4 (ww ?_)
   rw[wrapN (by omega)]
   exact eL' (x0.length-(o1_1+1)) [some 0,some 1] ⟨o1_1+1,a4,⟨by omega,rfl⟩,rfl,h⟩ (by omega)
  rw[countN (show¬((o1_1:Int)<(x0.length:Int))from c2),F90_l1]at h
  refine ww ?_
  cases h
  exact eM [some 0,some 1] rfl
 rintro _ rfl
 clear ho
 refine ww ?_
 obtain⟨t6,ht6,h⟩:=bi h
 refine callX_gen (as1:=[.c (dM (o1.map eTValue))]) [(1,.arr 1 5 [])] [some 0,none] [] (F89_ok ht6) ⟨?_,rfl,?_⟩ ?_ ?_ ?_ ?_ ?_ ?_ ?_ ?_
 ·simp only[ZZ.down,Nat.reduceEqDiff,reduceCtorEq,Nat.reduceAdd,Nat.reduceLeDiff,Nat.reduceLT,Nat.reduceBNe,EE.down]
 ·simp only[ZZ.down,Nat.reduceEqDiff,reduceCtorEq,Nat.reduceAdd,Nat.reduceLeDiff,Nat.reduceLT,Nat.reduceBNe,EE.down]
 ·simp only[ZZ.down,Nat.reduceEqDiff,reduceCtorEq,Nat.reduceAdd,Nat.reduceLeDiff,Nat.reduceLT,Nat.reduceBNe,EE.down]
 ·rfl
 ·rfl
 ·simp[liveAll,A1.live,C.live]
 ·rfl
 ·decide
 ·exact trivial
 refine ww ?_
 cases h
 exact eF []
def F70_l1:List Toleration→Nat→(List TValue)→Option ((List TValue))
 |[],o1_1,o1_0=>some o1_0
 |xo1::xs,o1_1,o1_0=>(F64 xo1.Effect).bind fun t3=>(F62 ((⟨#[101,102,102,101,99,116]⟩:ByteArray)) ((⟨2,xo1.Effect,(⟨#[]⟩:ByteArray),[],[]⟩:TValue))).bind fun t4=>(F72 xo1.Exists).bind fun t5=>(F62 ((⟨#[101,120,105,115,116,115]⟩:ByteArray)) ((⟨1,t5,(⟨#[]⟩:ByteArray),[],[]⟩:TValue))).bind fun t6=>(F65 xo1.Key).bind fun t7=>(F62 ((⟨#[107,101,121]⟩:ByteArray)) ((⟨3,0,xo1.Key,[],[]⟩:TValue))).bind fun t8=>(F64 xo1.Seconds).bind fun t9=>(F62 ((⟨#[115,101,99,111,110,100,115]⟩:ByteArray)) ((⟨2,xo1.Seconds,(⟨#[]⟩:ByteArray),[],[]⟩:TValue))).bind fun t10=>(F65 xo1.Value).bind fun t11=>(F62 ((⟨#[118,97,108,117,101]⟩:ByteArray)) ((⟨3,0,xo1.Value,[],[]⟩:TValue))).bind fun t12=>(F61 ((lit [(⟨((⟨#[101,102,102,101,99,116]⟩:ByteArray)),(⟨(2:Int),xo1.Effect,((⟨#[]⟩:ByteArray)),([]),([])⟩:TValue)⟩:TField),(⟨((⟨#[101,120,105,115,116,115]⟩:ByteArray)),(⟨(1:Int),t5,((⟨#[]⟩:ByteArray)),([]),([])⟩:TValue)⟩:TField),(⟨((⟨#[107,101,121]⟩:ByteArray)),(⟨(3:Int),(0:Int),xo1.Key,([]),([])⟩:TValue)⟩:TField),(⟨((⟨#[115,101,99,111,110,100,115]⟩:ByteArray)),(⟨(2:Int),xo1.Seconds,((⟨#[]⟩:ByteArray)),([]),([])⟩:TValue)⟩:TField),(⟨((⟨#[118,97,108,117,101]⟩:ByteArray)),(⟨(3:Int),(0:Int),xo1.Value,([]),([])⟩:TValue)⟩:TField)]))).bind fun t13=>(apI o1_0 ([(⟨5,0,(⟨#[]⟩:ByteArray),[],((lit [(⟨((⟨#[101,102,102,101,99,116]⟩:ByteArray)),(⟨(2:Int),xo1.Effect,((⟨#[]⟩:ByteArray)),([]),([])⟩:TValue)⟩:TField),(⟨((⟨#[101,120,105,115,116,115]⟩:ByteArray)),(⟨(1:Int),t5,((⟨#[]⟩:ByteArray)),([]),([])⟩:TValue)⟩:TField),(⟨((⟨#[107,101,121]⟩:ByteArray)),(⟨(3:Int),(0:Int),xo1.Key,([]),([])⟩:TValue)⟩:TField),(⟨((⟨#[115,101,99,111,110,100,115]⟩:ByteArray)),(⟨(2:Int),xo1.Seconds,((⟨#[]⟩:ByteArray)),([]),([])⟩:TValue)⟩:TField),(⟨((⟨#[118,97,108,117,101]⟩:ByteArray)),(⟨(3:Int),(0:Int),xo1.Value,([]),([])⟩:TValue)⟩:TField)]))⟩:TValue)])).bind fun a14=>F70_l1 xs (o1_1+1) a14
def F70(x0:(List Toleration)):Option (((List TValue))):=(((ck (0≤x0.length∧x0.length≤4294967290)).bind fun u15=>F70_l1 x0 0 ([])).bind fun o1=>(F89 o1).bind fun t16=>some o1)
def a70:AFn:=⟨53,[(.cell 2 (some 5))],
 (.seq (.reg [zl 2 (.zbox [dI 0,dI 0,dS ⟨#[]⟩,dN,dN]) [] []])
 (.seq (.reg [sq 3 (.mv kN)])
 (.seq (.seq (.reg [sq 4 (.mv (kI 0))])
 (.sem (.block 0 (.loop (.seq (.seq (.reg [sq 5 (.mv (.t 4)),
sq 6 (.mv (.t 0)),
sq 7 (.len (.t 6)),
sq 8 (.bin .lss (.t 5) (.t 7))])
 (.cond (.t 8)
 .skip
 (.exit 0)))
 (.seq (.block 1 (.regd [sq 11 (.mv (.t 3)),
sq 12 (.mv (.t 0)),
sq 13 (.mv (.t 4)),
sd 14 (.indexA 5 (.t 12) (.t 13)) [1,2],
sd 15 (.fieldA 3 (.t 14)) [1,2,3],
sd 16 (.load none (.t 15)) [1,2,3,4],
zn 17 (.call 64 [(.t 16)]) [1,2,3,4,5] [1,2,3,4,5],
zn 18 (.call 62 [(kS ⟨#[101,102,102,101,99,116]⟩),(.t 17)]) [1,2,3,4,5,6] [1,2,3,4,5,6],
sq 19 (.mv (.t 0)),
sq 20 (.mv (.t 4)),
sd 21 (.indexA 5 (.t 19) (.t 20)) [8,9],
sd 22 (.fieldA 2 (.t 21)) [8,9,10],
sd 23 (.load none (.t 22)) [8,9,10,11],
zn 24 (.call 72 [(.t 23)]) [1,2,3,4,5,6,7,8,9,10,11,12] [1,2,3,4,5,6,7,8,9,10,11,12],
zn 25 (.call 62 [(kS ⟨#[101,120,105,115,116,115]⟩),(.t 24)]) [1,2,3,4,5,6,7,8,9,10,11,12,13] [1,2,3,4,5,6,7,8,9,10,11,12,13],
sq 26 (.mv (.t 0)),
sq 27 (.mv (.t 4)),
sd 28 (.indexA 5 (.t 26) (.t 27)) [15,16],
sd 29 (.fieldA 0 (.t 28)) [15,16,17],
sd 30 (.load none (.t 29)) [15,16,17,18],
zn 31 (.call 65 [(.t 30)]) [1,2,3,4,5,6,7,8,9,10,11,12,13,14,15,16,17,18,19] [1,2,3,4,5,6,7,8,9,10,11,12,13,14,15,16,17,18,19],
zn 32 (.call 62 [(kS ⟨#[107,101,121]⟩),(.t 31)]) [1,2,3,4,5,6,7,8,9,10,11,12,13,14,15,16,17,18,19,20] [1,2,3,4,5,6,7,8,9,10,11,12,13,14,15,16,17,18,19,20],
sq 33 (.mv (.t 0)),
sq 34 (.mv (.t 4)),
sd 35 (.indexA 5 (.t 33) (.t 34)) [22,23],
sd 36 (.fieldA 4 (.t 35)) [22,23,24],
sd 37 (.load none (.t 36)) [22,23,24,25],
zn 38 (.call 64 [(.t 37)]) [1,2,3,4,5,6,7,8,9,10,11,12,13,14,15,16,17,18,19,20,21,22,23,24,25,26] [1,2,3,4,5,6,7,8,9,10,11,12,13,14,15,16,17,18,19,20,21,22,23,24,25,26],
zn 39 (.call 62 [(kS ⟨#[115,101,99,111,110,100,115]⟩),(.t 38)]) [1,2,3,4,5,6,7,8,9,10,11,12,13,14,15,16,17,18,19,20,21,22,23,24,25,26,27] [1,2,3,4,5,6,7,8,9,10,11,12,13,14,15,16,17,18,19,20,21,22,23,24,25,26,27],
sq 40 (.mv (.t 0)),
sq 41 (.mv (.t 4)),
sd 42 (.indexA 5 (.t 40) (.t 41)) [29,30],
sd 43 (.fieldA 1 (.t 42)) [29,30,31],
sd 44 (.load none (.t 43)) [29,30,31,32],
zl 45 (.call 65 [(.t 44)]) [1,2,3,4,5,6,7,8,9,10,11,12,13,14,15,16,17,18,19,20,21,22,23,24,25,26,27,28,29,30,31,32,33] [],
zl 46 (.call 62 [(kS ⟨#[118,97,108,117,101]⟩),(.t 45)]) [1,2,3,4,5,6,7,8,9,10,11,12,13,14,15,16,17,18,19,20,21,22,23,24,25,26,27,28,29,30,31,32,33,34] [],
zl 47 (.bslice 6 [(.t 18),(.t 25),(.t 32),(.t 39),(.t 46)]) [1,2,3,4,5,6,7,8,9,10,11,12,13,14,15,16,17,18,19,20,21,22,23,24,25,26,27,28,29,30,31,32,33,34,35] [],
zl 48 (.call 61 [(.t 47)]) [1,2,3,4,5,6,7,8,9,10,11,12,13,14,15,16,17,18,19,20,21,22,23,24,25,26,27,28,29,30,31,32,33,34,35,36] [],
zl 49 (.bslice 5 [(.t 48)]) [1,2,3,4,5,6,7,8,9,10,11,12,13,14,15,16,17,18,19,20,21,22,23,24,25,26,27,28,29,30,31,32,33,34,35,36,37] [],
zl 50 (.app 5 80 (.t 11) (.t 49)) [0,1,2,3,4,5,6,7,8,9,10,11,12,13,14,15,16,17,18,19,20,21,22,23,24,25,26,27,28,29,30,31,32,33,34,35,36,37,38] [],
sd 3 (.mv (.t 50)) [0,1,2,3,4,5,6,7,8,9,10,11,12,13,14,15,16,17,18,19,20,21,22,23,24,25,26,27,28,29,30,31,32,33,34,35,36,37,38,39]]))
 (.reg [sq 9 (.mv (.t 4)),
sq 10 (.bin .add (.t 9) (kI 1)),
sq 4 (.mv (.t 10))])))))))
 (.seq (.reg [sq 51 (.mv (.t 3)),
sq 52 (.call 89 [(.t 51)]),
su (.store 5 (.t 2) (.t 52))])
 .ret))))⟩
theorem F70_ok{x0 r}(h:F70 x0=some r):CallD Try.prog 70 [.c (dM (x0.map eToleration))] [] (tupV [.agg [dI 4,dI 0,dS ((⟨#[]⟩:ByteArray)),dM (r.map eTValue),dM (([]:List TField).map eTField)]]) []:=by
 rw[F70]at h
 refine zc a70 (by kernel_rfl) rfl (ww ?_)
 obtain⟨o1,ho,h⟩:=bi h
 refine cutS (fun s=>s=⟨[(2,.one (.c (.pt 0 0))),(3,.one (.c (.own 1 0 0 (o1.length) none)))],[some (.box [dI 0,dI 0,dS ((⟨#[]⟩:ByteArray)),dN,dN]),some (.arr 0 5 (o1.map eTValue))]⟩) ?_ ?_
 ·have h:=ho
  clear ho
  obtain⟨_,hk,h⟩:=bi h
  have hk:=ck_some hk
  refine ww ?_
  refine bL (fun j s=>∃(o1_1:Nat) (o1_0:List TValue),(o1_1≤x0.length∧j=x0.length-o1_1)∧s=⟨[(0,.one (.c (dM (x0.map eToleration)))),(2,.one (.c (.pt 0 0))),(3,.one (.c (.own 1 0 0 (o1_0.length) none))),(4,.one (.c (dI ((o1_1:Int)))))],[some (.box [dI 0,dI 0,dS ((⟨#[]⟩:ByteArray)),dN,dN]),some (.arr 0 5 (o1_0.map eTValue))]⟩∧F70_l1 (x0.drop o1_1) o1_1 o1_0=some o1) (x0.length-0) [some 0,none] ⟨0,[],⟨hk.1,rfl⟩,rfl,h⟩ ?_
  rintro _ _ ⟨o1_1,o1_0,⟨hi,rfl⟩,rfl,h⟩
  refine ww ?_
  refine condS (fun c2=>?_) (fun c2=>?_)
  ·obtain⟨xo1,hxo1,hd⟩:=countY (show(o1_1:Int)<(x0.length:Int)from c2)
   rw[hd,F70_l1]at h
   refine ww ?_
   refine t_idxF (enc:=eToleration) (xs:=x0) rfl rfl hxo1 rfl (ww ?_)
   obtain⟨t3,ht3,h⟩:=bi h
   refine cN [] (F64_ok ht3) trivial (ww ?_)
   obtain⟨t4,ht4,h⟩:=bi h
   refine cN [] (F62_ok ht4) trivial (ww ?_)
   refine t_idxF (enc:=eToleration) (xs:=x0) rfl rfl hxo1 rfl (ww ?_)
   obtain⟨t5,ht5,h⟩:=bi h
   refine cN [] (F72_ok ht5) trivial (ww ?_)
   obtain⟨t6,ht6,h⟩:=bi h
   refine cN [] (F62_ok ht6) trivial (ww ?_)
   refine t_idxF (enc:=eToleration) (xs:=x0) rfl rfl hxo1 rfl (ww ?_)
   obtain⟨t7,ht7,h⟩:=bi h
   refine cN [] (F65_ok ht7) trivial (ww ?_)
   obtain⟨t8,ht8,h⟩:=bi h
   refine cN [] (F62_ok ht8) trivial (ww ?_)
   refine t_idxF (enc:=eToleration) (xs:=x0) rfl rfl hxo1 rfl (ww ?_)
   obtain⟨t9,ht9,h⟩:=bi h
   refine cN [] (F64_ok ht9) trivial (ww ?_)
   obtain⟨t10,ht10,h⟩:=bi h
   refine cN [] (F62_ok ht10) trivial (ww ?_)
   refine t_idxF (enc:=eToleration) (xs:=x0) rfl rfl hxo1 rfl (ww ?_)
   obtain⟨t11,ht11,h⟩:=bi h
   refine cN [] (F65_ok ht11) trivial (ww ?_)
   obtain⟨t12,ht12,h⟩:=bi h
   refine cN [] (F62_ok ht12) trivial (ww ?_)
   refine t_bslice (enc:=eTField) (ys:=(lit [(⟨((⟨#[101,102,102,101,99,116]⟩:ByteArray)),(⟨(2:Int),xo1.Effect,((⟨#[]⟩:ByteArray)),([]),([])⟩:TValue)⟩:TField),(⟨((⟨#[101,120,105,115,116,115]⟩:ByteArray)),(⟨(1:Int),t5,((⟨#[]⟩:ByteArray)),([]),([])⟩:TValue)⟩:TField),(⟨((⟨#[107,101,121]⟩:ByteArray)),(⟨(3:Int),(0:Int),xo1.Key,([]),([])⟩:TValue)⟩:TField),(⟨((⟨#[115,101,99,111,110,100,115]⟩:ByteArray)),(⟨(2:Int),xo1.Seconds,((⟨#[]⟩:ByteArray)),([]),([])⟩:TValue)⟩:TField),(⟨((⟨#[118,97,108,117,101]⟩:ByteArray)),(⟨(3:Int),(0:Int),xo1.Value,([]),([])⟩:TValue)⟩:TField)])) rfl rfl (by simp[A1.cells]) (by first|rfl|(simp only[List.drop_zero,take_mapL];rfl)|(simp only[lit,List.map_cons,List.map_nil,List.drop_zero,take_mapL,EE.down];done)|(simp only[lit,List.map_cons,List.map_nil,List.drop_zero,take_mapL,EE.down];rfl)) (ww ?_)
   obtain⟨t13,ht13,h⟩:=bi h
   refine callX_gen (as1:=[.c (dM (((lit [(⟨((⟨#[101,102,102,101,99,116]⟩:ByteArray)),(⟨(2:Int),xo1.Effect,((⟨#[]⟩:ByteArray)),([]),([])⟩:TValue)⟩:TField),(⟨((⟨#[101,120,105,115,116,115]⟩:ByteArray)),(⟨(1:Int),t5,((⟨#[]⟩:ByteArray)),([]),([])⟩:TValue)⟩:TField),(⟨((⟨#[107,101,121]⟩:ByteArray)),(⟨(3:Int),(0:Int),xo1.Key,([]),([])⟩:TValue)⟩:TField),(⟨((⟨#[115,101,99,111,110,100,115]⟩:ByteArray)),(⟨(2:Int),xo1.Seconds,((⟨#[]⟩:ByteArray)),([]),([])⟩:TValue)⟩:TField),(⟨((⟨#[118,97,108,117,101]⟩:ByteArray)),(⟨(3:Int),(0:Int),xo1.Value,([]),([])⟩:TValue)⟩:TField)])).map eTField))]) [(2,.arr 1 6 [])] [some 0,some 1,none] [] (F61_ok ht13) ⟨?_,rfl,?_⟩ ?_ ?_ ?_ ?_ ?_ ?_ ?_ ?_
   ·simp only[ZZ.down,Nat.reduceEqDiff,reduceCtorEq,Nat.reduceAdd,Nat.reduceLeDiff,Nat.reduceLT,Nat.reduceBNe,EE.down]
   ·simp only[ZZ.down,Nat.reduceEqDiff,reduceCtorEq,Nat.reduceAdd,Nat.reduceLeDiff,Nat.reduceLT,Nat.reduceBNe,EE.down]
   ·simp only[ZZ.down,Nat.reduceEqDiff,reduceCtorEq,Nat.reduceAdd,Nat.reduceLeDiff,Nat.reduceLT,Nat.reduceBNe,EE.down]
   ·rfl
   ·rfl
   ·simp[liveAll,A1.live,C.live]
   ·rfl
   ·decide
   ·exact trivial
   refine ww ?_
   refine t_bslice (enc:=eTValue) (ys:=[(⟨5,0,(⟨#[]⟩:ByteArray),[],((lit [(⟨((⟨#[101,102,102,101,99,116]⟩:ByteArray)),(⟨(2:Int),xo1.Effect,((⟨#[]⟩:ByteArray)),([]),([])⟩:TValue)⟩:TField),(⟨((⟨#[101,120,105,115,116,115]⟩:ByteArray)),(⟨(1:Int),t5,((⟨#[]⟩:ByteArray)),([]),([])⟩:TValue)⟩:TField),(⟨((⟨#[107,101,121]⟩:ByteArray)),(⟨(3:Int),(0:Int),xo1.Key,([]),([])⟩:TValue)⟩:TField),(⟨((⟨#[115,101,99,111,110,100,115]⟩:ByteArray)),(⟨(2:Int),xo1.Seconds,((⟨#[]⟩:ByteArray)),([]),([])⟩:TValue)⟩:TField),(⟨((⟨#[118,97,108,117,101]⟩:ByteArray)),(⟨(3:Int),(0:Int),xo1.Value,([]),([])⟩:TValue)⟩:TField)]))⟩:TValue)]) rfl rfl (by simp[A1.cells]) (by first|rfl|(simp only[List.drop_zero,take_mapL];rfl)|(simp only[lit,List.map_cons,List.map_nil,List.drop_zero,take_mapL,EE.down];done)|(simp only[lit,List.map_cons,List.map_nil,List.drop_zero,take_mapL,EE.down];rfl)) (ww ?_)
   obtain⟨a14,ha14,h⟩:=bi h
   refine t_app (enc:=eTValue) (xs:=o1_0) rfl rfl (by first|rfl|simp only[List.length_set]|exact(clrL_len (slI_len (by assumption))).symm) rfl (rows_full (enc:=eTValue) (by first|rfl|simp only[List.length_set]|exact(clrL_len (slI_len (by assumption))).symm) rfl) ha14 (ww ?_)
   rw[wrapN (by omega)]
   exact eL' (x0.length-(o1_1+1)) [some 0,some 1] ⟨o1_1+1,a14,⟨by omega,rfl⟩,rfl,h⟩ (by omega)
  rw[countN (show¬((o1_1:Int)<(x0.length:Int))from c2),F70_l1]at h
  refine ww ?_
  cases h
  exact eM [some 0,some 1] rfl
 rintro _ rfl
 clear ho
 refine ww ?_
 obtain⟨t16,ht16,h⟩:=bi h
 refine callX_gen (as1:=[.c (dM (o1.map eTValue))]) [(1,.arr 1 5 [])] [some 0,none] [] (F89_ok ht16) ⟨?_,rfl,?_⟩ ?_ ?_ ?_ ?_ ?_ ?_ ?_ ?_
 ·simp only[ZZ.down,Nat.reduceEqDiff,reduceCtorEq,Nat.reduceAdd,Nat.reduceLeDiff,Nat.reduceLT,Nat.reduceBNe,EE.down]
 ·simp only[ZZ.down,Nat.reduceEqDiff,reduceCtorEq,Nat.reduceAdd,Nat.reduceLeDiff,Nat.reduceLT,Nat.reduceBNe,EE.down]
 ·simp only[ZZ.down,Nat.reduceEqDiff,reduceCtorEq,Nat.reduceAdd,Nat.reduceLeDiff,Nat.reduceLT,Nat.reduceBNe,EE.down]
 ·rfl
 ·rfl
 ·simp[liveAll,A1.live,C.live]
 ·rfl
 ·decide
 ·exact trivial
 refine ww ?_
 cases h
 exact eF []
def F74(x0:(List ByteArray))(x1:ByteArray):Option (Bool):=(F91 x0 x1).bind fun t1=>some (decide (0≤t1))
def a74:AFn:=⟨9,[(.tmp 4)],
 (.seq (.reg [sq 4 (.mv (kB false))])
 (.seq (.reg [sq 5 (.mv (.t 0)),
sq 6 (.mv (.t 1)),
sq 7 (.call 91 [(.t 5),(.t 6)]),
sq 8 (.bin .geq (.t 7) (kI 0)),
sq 4 (.mv (.t 8))])
 .ret))⟩
theorem F74_ok{x0 x1 r}(h:F74 x0 x1=some r):CallD Try.prog 74 [.c (dM (x0.map eS)),.c (dS x1)] [] (tupV [.c (dB r)]) []:=by
 rw[F74]at h
 refine zc a74 (by kernel_rfl) rfl (ww ?_)
 obtain⟨t1,ht1,h⟩:=bi h
 refine cN [] (F91_ok ht1) trivial (ww ?_)
 cases h
 exact eF []
def F26(x0:Meta):Option (ByteArray):=(F43 x0.Kind x0.Namespace x0.Name).bind fun t1=>some t1
def a26:AFn:=⟨10,[(.tmp 2)],
 (.seq (.reg [sq 1 (.box (.t 0)),
sq 2 (.mv (kS ⟨#[]⟩))])
 (.seq (.reg [sq 3 (.fieldA 0 (.t 1)),
sq 4 (.load none (.t 3)),
sq 5 (.fieldA 1 (.t 1)),
sq 6 (.load none (.t 5)),
sq 7 (.fieldA 2 (.t 1)),
sq 8 (.load none (.t 7)),
sq 9 (.call 43 [(.t 4),(.t 6),(.t 8)]),
sq 2 (.mv (.t 9))])
 .ret))⟩
theorem F26_ok{x0 r}(h:F26 x0=some r):CallD Try.prog 26 [.agg [dS x0.Kind,dS x0.Namespace,dS x0.Name,dI x0.Uid,dI x0.Version,dI x0.Generation,dI x0.Created,dB x0.Deleting,dI x0.DeleteAt,dM (x0.Labels.map eLabel),dM (x0.Owners.map eOwner),dM (x0.Finalizers.map eS),dM (x0.Managers.map eManager)]] [] (tupV [.c (dS r)]) []:=by
 rw[F26]at h
 refine zc a26 (by kernel_rfl) rfl (ww ?_)
 obtain⟨t1,ht1,h⟩:=bi h
 refine cN [] (F43_ok ht1) trivial (ww ?_)
 cases h
 exact eF []
def F45(x0:ByteArray)(x1:ByteArray):Option (Int):=(cmpS x0 x1).bind fun t1=>some t1
def a45:AFn:=⟨8,[(.tmp 4)],
 (.seq (.reg [sq 4 (.mv (kI 0))])
 (.seq (.reg [sq 5 (.mv (.t 0)),
sq 6 (.mv (.t 1)),
sq 7 (.call 57 [(.t 5),(.t 6)]),
sq 4 (.mv (.t 7))])
 .ret))⟩
theorem F45_ok{x0 x1 r}(h:F45 x0 x1=some r):CallD Try.prog 45 [.c (dS x0),.c (dS x1)] [] (tupV [.c (dI r)]) []:=by
 rw[F45]at h
 refine zc a45 (by kernel_rfl) rfl (ww ?_)
 obtain⟨t1,ht1,h⟩:=bi h
 refine cN [] (F57_ok ht1) trivial (ww ?_)
 cases h
 exact eF []
end Go.Proofs.Ytfkkccgopmcnaaa
