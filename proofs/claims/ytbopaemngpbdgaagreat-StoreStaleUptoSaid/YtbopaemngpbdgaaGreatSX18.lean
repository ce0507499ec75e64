/- Each Go function as a function over typed data, and its walk. -/
import Derived.Test.YtbopaemngpbdgaaGreatSX
import Derived.Test.YtbopaemngpbdgaaGreatSX2
import Derived.Test.YtbopaemngpbdgaaGreatSX3
import Derived.Test.YtbopaemngpbdgaaGreatSX5
import Derived.Test.YtbopaemngpbdgaaGreatSX6
import Derived.Test.YtbopaemngpbdgaaGreatSX11
import Derived.Test.YtbopaemngpbdgaaGreatSX13
import Derived.Test.YtbopaemngpbdgaaGreatSX17
namespace Go.Proofs.YtbopaemngpbdgaaGreat
open Go Go.Fw Go.Shelf
set_option maxRecDepth 100000
set_option maxHeartbeats 4000000
set_option linter.unusedSimpArgs false
set_option linter.unusedVariables false
def F82(rc49:TValue→TValue→Option (Int))(x0:TValue)(x1:TValue):Option (Int):=(F113 x0.Kind x1.Kind).bind fun t1=>(F113 x0.N x1.N).bind fun t2=>(F72 x0.S x1.S).bind fun t3=>(F114 rc49 x0.List_ x1.List_).bind fun t4=>(F115 rc49 x0.Fields x1.Fields).bind fun t5=>(F112 ((lit [t1,t2,t3,t4,t5]))).bind fun t6=>some t6
def a82:AFn:=⟨32,[(.tmp 4)],
 (.seq (.reg [sq 2 (.box (.t 0)),
sq 3 (.box (.t 1)),
sq 4 (.mv (kI 0))])
 (.seq (.regd [sq 5 (.fieldA 0 (.t 2)),
sd 6 (.load none (.t 5)) [0],
sq 7 (.fieldA 0 (.t 3)),
sd 8 (.load none (.t 7)) [2],
zn 9 (.call 113 [(.t 6),(.t 8)]) [0,1,2,3] [0,1,2,3],
sq 10 (.fieldA 1 (.t 2)),
sd 11 (.load none (.t 10)) [5],
sq 12 (.fieldA 1 (.t 3)),
sd 13 (.load none (.t 12)) [7],
zn 14 (.call 113 [(.t 11),(.t 13)]) [0,1,2,3,4,5,6,7,8] [0,1,2,3,4,5,6,7,8],
sq 15 (.fieldA 2 (.t 2)),
sd 16 (.load none (.t 15)) [10],
sq 17 (.fieldA 2 (.t 3)),
sd 18 (.load none (.t 17)) [12],
zn 19 (.call 72 [(.t 16),(.t 18)]) [0,1,2,3,4,5,6,7,8,9,10,11,12,13] [0,1,2,3,4,5,6,7,8,9,10,11,12,13],
sq 20 (.fieldA 3 (.t 2)),
sd 21 (.load none (.t 20)) [15],
sq 22 (.fieldA 3 (.t 3)),
sd 23 (.load none (.t 22)) [17],
zn 24 (.call 114 [(.t 21),(.t 23),(.f 82)]) [0,1,2,3,4,5,6,7,8,9,10,11,12,13,14,15,16,17,18] [0,1,2,3,4,5,6,7,8,9,10,11,12,13,14,15,16,17,18],
sq 25 (.fieldA 4 (.t 2)),
sd 26 (.load none (.t 25)) [20],
sq 27 (.fieldA 4 (.t 3)),
sd 28 (.load none (.t 27)) [22],
zl 29 (.call 115 [(.t 26),(.t 28),(.f 116)]) [0,1,2,3,4,5,6,7,8,9,10,11,12,13,14,15,16,17,18,19,20,21,22,23] [],
zl 30 (.bslice 1 [(.t 9),(.t 14),(.t 19),(.t 24),(.t 29)]) [0,1,2,3,4,5,6,7,8,9,10,11,12,13,14,15,16,17,18,19,20,21,22,23,24] [],
zl 31 (.call 112 [(.t 30)]) [0,1,2,3,4,5,6,7,8,9,10,11,12,13,14,15,16,17,18,19,20,21,22,23,24,25] [],
sd 4 (.mv (.t 31)) [0,1,2,3,4,5,6,7,8,9,10,11,12,13,14,15,16,17,18,19,20,21,22,23,24,25,26]])
 .ret))⟩
theorem a82_ok:afn Tryz.prog 82=some a82.er:=by kernel_rfl
theorem F82_ok{rc49:TValue→TValue→Option (Int)}(ih49:∀{x0:TValue} {x1:TValue} {r:Int} (h:rc49 x0 x1=some r),CallD Tryz.prog 82 [.agg [dI x0.Kind,dI x0.N,dS x0.S,dM (x0.List_.map eTValue),dM (x0.Fields.map eTField)],.agg [dI x1.Kind,dI x1.N,dS x1.S,dM (x1.List_.map eTValue),dM (x1.Fields.map eTField)]] [] (tupV [.c (dI r)]) []){x0:TValue}{x1:TValue}{r:Int}(h:F82 rc49 x0 x1=some r):CallD Tryz.prog 82 [.agg [dI x0.Kind,dI x0.N,dS x0.S,dM (x0.List_.map eTValue),dM (x0.Fields.map eTField)],.agg [dI x1.Kind,dI x1.N,dS x1.S,dM (x1.List_.map eTValue),dM (x1.Fields.map eTField)]] [] (tupV [.c (dI r)]) []:=by
 refine callS a82_ok (by simp[a82]) ?_
 rw[F82]at h
 simp only[a82,VW.down,Nat.reduceEqDiff,reduceCtorEq,Nat.reduceAdd,Nat.reduceLeDiff,Nat.reduceLT,Nat.reduceBEq,Nat.reduceSub,EE.down]
 obtain⟨t1,ht1,h⟩:=bi h
 refine cN [] (F113_ok ht1) trivial (ww ?_)
 obtain⟨t2,ht2,h⟩:=bi h
 refine cN [] (F113_ok ht2) trivial (ww ?_)
 obtain⟨t3,ht3,h⟩:=bi h
 refine cN [] (F72_ok ht3) trivial (ww ?_)
 obtain⟨t4,ht4,h⟩:=bi h
 refine cN [] (F114_ok ih49 ht4) trivial (ww ?_)
 obtain⟨t5,ht5,h⟩:=bi h
 refine cN [] (F115_ok ih49 ht5) trivial (ww ?_)
 refine t_bslice (enc:=eI) (ys:=(lit [t1,t2,t3,t4,t5])) rfl rfl (by simp[A1.cells]) (by first|rfl|(simp only[List.drop_zero,take_mapL];rfl)|(simp only[lit,List.map_cons,List.map_nil,List.drop_zero,take_mapL,EE.down];done)|(simp only[lit,List.map_cons,List.map_nil,List.drop_zero,take_mapL,EE.down];rfl)) (ww ?_)
 obtain⟨t6,ht6,h⟩:=bi h
 refine callX_bor (F112_ok ht6) (by simp only[borAs,bors,hp,List.getElem?_cons_zero,List.getElem?_cons_succ,Option.join_some,List.drop_zero,bor_full',true_and,Nat.zero_add,List.length_map,Nat.le_refl,nrm,List.length_cons,List.length_nil,Nat.reduceAdd,Nat.reduceLeDiff,List.take_succ_cons,List.take_zero,List.take_nil,List.map_cons,List.map_nil,List.length_set,EE.down]) rfl ?_
 refine ww ?_
 cases h
 exact eF []
def F82k:Nat→TValue→TValue→Option (Int)
 |0=>fun _ _=>none
 |k+1=>F82 (F82k k)
theorem F82k_ok(k:Nat){x0:TValue}{x1:TValue}{r:Int}(h:F82k k x0 x1=some r):CallD Tryz.prog 82 [.agg [dI x0.Kind,dI x0.N,dS x0.S,dM (x0.List_.map eTValue),dM (x0.Fields.map eTField)],.agg [dI x1.Kind,dI x1.N,dS x1.S,dM (x1.List_.map eTValue),dM (x1.Fields.map eTField)]] [] (tupV [.c (dI r)]) []:=by
 induction k generalizing x0 x1 r with
 |zero=>cases(show(none:Option (Int))=some _ from h)
 |succ k ih=>exact F82_ok (fun h=>ih h) h
def F40(x0:TValue)(x1:TValue):Option (Bool):=(F82k 1099511627776 x0 x1).bind fun t1=>some (decide (t1=0))
def a40:AFn:=⟨9,[(.tmp 4)],
 (.seq (.reg [sq 2 (.box (.t 0)),
sq 3 (.box (.t 1)),
sq 4 (.mv (kB false))])
 (.seq (.reg [sq 5 (.load (some 5) (.t 2)),
sq 6 (.load (some 5) (.t 3)),
sq 7 (.call 82 [(.t 5),(.t 6)]),
sq 8 (.bin .eql (.t 7) (kI 0)),
sq 4 (.mv (.t 8))])
 .ret))⟩
theorem a40_ok:afn Tryz.prog 40=some a40.er:=by kernel_rfl
theorem F40_ok{x0 x1 r}(h:F40 x0 x1=some r):CallD Tryz.prog 40 [.agg [dI x0.Kind,dI x0.N,dS x0.S,dM (x0.List_.map eTValue),dM (x0.Fields.map eTField)],.agg [dI x1.Kind,dI x1.N,dS x1.S,dM (x1.List_.map eTValue),dM (x1.Fields.map eTField)]] [] (tupV [.c (dB r)]) []:=by
 refine callS a40_ok (by simp[a40]) ?_
 rw[F40]at h
 simp only[a40,VW.down,Nat.reduceEqDiff,reduceCtorEq,Nat.reduceAdd,Nat.reduceLeDiff,Nat.reduceLT,Nat.reduceBEq,Nat.reduceSub,EE.down]
 obtain⟨t1,ht1,h⟩:=bi h
 refine cN [] (F82k_ok 1099511627776 ht1) trivial (ww ?_)
 cases h
 exact eF []
def F16(x0:Object)(x1:Object):Option (Bool):=(((F44 x0.Meta).bind fun t2=>(F44 x1.Meta).bind fun t3=>(if¬(x0.Meta.Kind=x1.Meta.Kind∧x0.Meta.Namespace=x1.Meta.Namespace∧x0.Meta.Name=x1.Meta.Name)then some true else(if¬(x0.Meta.Uid=x1.Meta.Uid)then some true else(if¬(x0.Meta.Version=x1.Meta.Version)then some true else(if¬(x0.Meta.Generation=x1.Meta.Generation)then some true else(if¬(x0.Meta.Created=x1.Meta.Created)then some true else(if(((x0.Meta.Deleting==x1.Meta.Deleting)!=true))=true then some true else some (decide (¬(x0.Meta.DeleteAt=x1.Meta.DeleteAt)))))))))).bind fun o1=>(if o1=true then some false else(((F45 x0.Meta.Labels x1.Meta.Labels).bind fun t12=>(if(nb t12)=true then some true else(F46 x0.Meta.Owners x1.Meta.Owners).bind fun t14=>(if(nb t14)=true then some true else(F47 x0.Meta.Finalizers x1.Meta.Finalizers).bind fun t16=>some (nb t16)))).bind fun o11=>(if o11=true then some false else(((F49 x0.Meta.Managers x1.Meta.Managers).bind fun t19=>(if t19=true then(F40 x0.Spec x1.Spec).bind fun t21=>(if t21=true then(F40 x0.Status x1.Status).bind fun t23=>some t23 else some false)else some false)).bind fun o18=>some o18)))))
def a16:AFn:=⟨101,[(.tmp 4)],
 (.seq (.reg [sq 2 (.box (.t 0)),
sq 3 (.box (.t 1)),
sq 4 (.mv (kB false))])
 (.seq (.regd [sq 8 (.fieldA 0 (.t 2)),
sd 9 (.load (some 13) (.t 8)) [0],
sq 10 (.fieldA 0 (.t 3)),
sd 11 (.load (some 13) (.t 10)) [2],
sq 5 (.zbox [dS ⟨#[]⟩,dS ⟨#[]⟩,dS ⟨#[]⟩,dI 0,dI 0,dI 0,dI 0,dB false,dI 0,dN,dN,dN,dN]),
sq 6 (.zbox [dS ⟨#[]⟩,dS ⟨#[]⟩,dS ⟨#[]⟩,dI 0,dI 0,dI 0,dI 0,dB false,dI 0,dN,dN,dN,dN]),
⟨none,none,.store 13 (.t 5) (.t 9),[0,1,4,5],(.lone [3,10])⟩,
⟨none,none,.store 13 (.t 6) (.t 11),[0,1,2,3,4,5,6],(.lone [])⟩])
 (.seq (.seq (.sem (.regd [sq 12 (.load (some 13) (.t 5)),
zn 13 (.call 44 [(.t 12)]) [0] [0],
sq 14 (.load (some 13) (.t 6)),
zl 15 (.call 44 [(.t 14)]) [0,1,2] [],
zl 16 (.eqs true [(0,2),(1,2),(2,2)] (.t 13) (.t 15)) [0,1,2,3] [],
sd 17 (.mv (.t 16)) [0,1,2,3,4],
⟨(some 18),(some (17,false)),.fieldA 3 (.t 5),[0,1,2,3,4,5],(.new [])⟩,
⟨(some 19),(some (17,false)),.load none (.t 18),[0,1,2,3,4,5,6],(.new [])⟩,
⟨(some 20),(some (17,false)),.fieldA 3 (.t 6),[0,1,2,3,4,5],(.new [])⟩,
⟨(some 21),(some (17,false)),.load none (.t 20),[0,1,2,3,4,5,8],(.new [])⟩,
⟨(some 22),(some (17,false)),.bin .neq (.t 19) (.t 21),[0,1,2,3,4,5,6,7,8,9],(.new [])⟩,
zl 23 (.pick (.t 17) (kB true) (.t 22)) [0,1,2,3,4,5,6,7,8,9,10] [],
sd 24 (.mv (.t 23)) [0,1,2,3,4,5,6,7,8,9,10,11],
⟨(some 25),(some (24,false)),.fieldA 4 (.t 5),[0,1,2,3,4,5,6,7,8,9,10,11,12],(.new [])⟩,
⟨(some 26),(some (24,false)),.load none (.t 25),[0,1,2,3,4,5,6,7,8,9,10,11,12,13],(.new [])⟩,
⟨(some 27),(some (24,false)),.fieldA 4 (.t 6),[0,1,2,3,4,5,6,7,8,9,10,11,12],(.new [])⟩,
⟨(some 28),(some (24,false)),.load none (.t 27),[0,1,2,3,4,5,6,7,8,9,10,11,12,15],(.new [])⟩,
⟨(some 29),(some (24,false)),.bin .neq (.t 26) (.t 28),[0,1,2,3,4,5,6,7,8,9,10,11,12,13,14,15,16],(.new [])⟩,
zl 30 (.pick (.t 24) (kB true) (.t 29)) [0,1,2,3,4,5,6,7,8,9,10,11,12,13,14,15,16,17] [],
sd 31 (.mv (.t 30)) [0,1,2,3,4,5,6,7,8,9,10,11,12,13,14,15,16,17,18],
⟨(some 32),(some (31,false)),.fieldA 5 (.t 5),[0,1,2,3,4,5,6,7,8,9,10,11,12,13,14,15,16,17,18,19],(.new [])⟩,
⟨(some 33),(some (31,false)),.load none (.t 32),[0,1,2,3,4,5,6,7,8,9,10,11,12,13,14,15,16,17,18,19,20],(.new [])⟩,
⟨(some 34),(some (31,false)),.fieldA 5 (.t 6),[0,1,2,3,4,5,6,7,8,9,10,11,12,13,14,15,16,17,18,19],(.new [])⟩,
⟨(some 35),(some (31,false)),.load none (.t 34),[0,1,2,3,4,5,6,7,8,9,10,11,12,13,14,15,16,17,18,19,22],(.new [])⟩,
⟨(some 36),(some (31,false)),.bin .neq (.t 33) (.t 35),[0,1,2,3,4,5,6,7,8,9,10,11,12,13,14,15,16,17,18,19,20,21,22,23],(.new [])⟩,
zl 37 (.pick (.t 31) (kB true) (.t 36)) [0,1,2,3,4,5,6,7,8,9,10,11,12,13,14,15,16,17,18,19,20,21,22,23,24] [],
sd 38 (.mv (.t 37)) [0,1,2,3,4,5,6,7,8,9,10,11,12,13,14,15,16,17,18,19,20,21,22,23,24,25],
⟨(some 39),(some (38,false)),.fieldA 6 (.t 5),[0,1,2,3,4,5,6,7,8,9,10,11,12,13,14,15,16,17,18,19,20,21,22,23,24,25,26],(.new [])⟩,
⟨(some 40),(some (38,false)),.load none (.t 39),[0,1,2,3,4,5,6,7,8,9,10,11,12,13,14,15,16,17,18,19,20,21,22,23,24,25,26,27],(.new [])⟩,
⟨(some 41),(some (38,false)),.fieldA 6 (.t 6),[0,1,2,3,4,5,6,7,8,9,10,11,12,13,14,15,16,17,18,19,20,21,22,23,24,25,26],(.new [])⟩,
⟨(some 42),(some (38,false)),.load none (.t 41),[0,1,2,3,4,5,6,7,8,9,10,11,12,13,14,15,16,17,18,19,20,21,22,23,24,25,26,29],(.new [])⟩,
⟨(some 43),(some (38,false)),.bin .neq (.t 40) (.t 42),[0,1,2,3,4,5,6,7,8,9,10,11,12,13,14,15,16,17,18,19,20,21,22,23,24,25,26,27,28,29,30],(.new [])⟩,
zl 44 (.pick (.t 38) (kB true) (.t 43)) [0,1,2,3,4,5,6,7,8,9,10,11,12,13,14,15,16,17,18,19,20,21,22,23,24,25,26,27,28,29,30,31] [],
sd 45 (.mv (.t 44)) [0,1,2,3,4,5,6,7,8,9,10,11,12,13,14,15,16,17,18,19,20,21,22,23,24,25,26,27,28,29,30,31,32],
⟨(some 46),(some (45,false)),.fieldA 7 (.t 5),[0,1,2,3,4,5,6,7,8,9,10,11,12,13,14,15,16,17,18,19,20,21,22,23,24,25,26,27,28,29,30,31,32,33],(.new [])⟩,
⟨(some 47),(some (45,false)),.load none (.t 46),[0,1,2,3,4,5,6,7,8,9,10,11,12,13,14,15,16,17,18,19,20,21,22,23,24,25,26,27,28,29,30,31,32,33,34],(.new [])⟩,
⟨(some 48),(some (45,false)),.fieldA 7 (.t 6),[0,1,2,3,4,5,6,7,8,9,10,11,12,13,14,15,16,17,18,19,20,21,22,23,24,25,26,27,28,29,30,31,32,33],(.new [])⟩,
⟨(some 49),(some (45,false)),.load none (.t 48),[0,1,2,3,4,5,6,7,8,9,10,11,12,13,14,15,16,17,18,19,20,21,22,23,24,25,26,27,28,29,30,31,32,33,36],(.new [])⟩,
⟨(some 50),(some (45,false)),.beq true (.t 47) (.t 49),[0,1,2,3,4,5,6,7,8,9,10,11,12,13,14,15,16,17,18,19,20,21,22,23,24,25,26,27,28,29,30,31,32,33,34,35,36,37],(.new [])⟩,
zl 51 (.pick (.t 45) (kB true) (.t 50)) [0,1,2,3,4,5,6,7,8,9,10,11,12,13,14,15,16,17,18,19,20,21,22,23,24,25,26,27,28,29,30,31,32,33,34,35,36,37,38] [],
sd 52 (.mv (.t 51)) [0,1,2,3,4,5,6,7,8,9,10,11,12,13,14,15,16,17,18,19,20,21,22,23,24,25,26,27,28,29,30,31,32,33,34,35,36,37,38,39],
⟨(some 53),(some (52,false)),.fieldA 8 (.t 5),[0,1,2,3,4,5,6,7,8,9,10,11,12,13,14,15,16,17,18,19,20,21,22,23,24,25,26,27,28,29,30,31,32,33,34,35,36,37,38,39,40],(.new [])⟩,
⟨(some 54),(some (52,false)),.load none (.t 53),[0,1,2,3,4,5,6,7,8,9,10,11,12,13,14,15,16,17,18,19,20,21,22,23,24,25,26,27,28,29,30,31,32,33,34,35,36,37,38,39,40,41],(.new [])⟩,
⟨(some 55),(some (52,false)),.fieldA 8 (.t 6),[0,1,2,3,4,5,6,7,8,9,10,11,12,13,14,15,16,17,18,19,20,21,22,23,24,25,26,27,28,29,30,31,32,33,34,35,36,37,38,39,40],(.new [])⟩,
⟨(some 56),(some (52,false)),.load none (.t 55),[0,1,2,3,4,5,6,7,8,9,10,11,12,13,14,15,16,17,18,19,20,21,22,23,24,25,26,27,28,29,30,31,32,33,34,35,36,37,38,39,40,43],(.new [])⟩,
⟨(some 57),(some (52,false)),.bin .neq (.t 54) (.t 56),[0,1,2,3,4,5,6,7,8,9,10,11,12,13,14,15,16,17,18,19,20,21,22,23,24,25,26,27,28,29,30,31,32,33,34,35,36,37,38,39,40,41,42,43,44],(.new [])⟩,
zl 58 (.pick (.t 52) (kB true) (.t 57)) [0,1,2,3,4,5,6,7,8,9,10,11,12,13,14,15,16,17,18,19,20,21,22,23,24,25,26,27,28,29,30,31,32,33,34,35,36,37,38,39,40,41,42,43,44,45] []]))
 (.cond (.t 58)
 (.seq (.reg [sq 4 (.mv (kB false))])
 .ret)
 .skip))
 (.seq (.seq (.sem (.reg [sq 59 (.fieldA 9 (.t 5)),
sq 60 (.load none (.t 59)),
sq 61 (.fieldA 9 (.t 6)),
sq 62 (.load none (.t 61)),
sq 63 (.call 45 [(.t 60),(.t 62)]),
sq 64 (.not (.t 63)),
sq 65 (.mv (.t 64)),
zg 66 65 false (.fieldA 10 (.t 5)),
zg 67 65 false (.load none (.t 66)),
zg 68 65 false (.fieldA 10 (.t 6)),
zg 69 65 false (.load none (.t 68)),
zg 70 65 false (.call 46 [(.t 67),(.t 69)]),
zg 71 65 false (.not (.t 70)),
sq 72 (.pick (.t 65) (kB true) (.t 71)),
sq 73 (.mv (.t 72)),
zg 74 73 false (.fieldA 11 (.t 5)),
zg 75 73 false (.load none (.t 74)),
zg 76 73 false (.fieldA 11 (.t 6)),
zg 77 73 false (.load none (.t 76)),
zg 78 73 false (.call 47 [(.t 75),(.t 77)]),
zg 79 73 false (.not (.t 78)),
sq 80 (.pick (.t 73) (kB true) (.t 79))]))
 (.cond (.t 80)
 (.seq (.reg [sq 4 (.mv (kB false))])
 .ret)
 .skip))
 (.seq (.reg [zl 7 (.mv (.f 48)) [] []])
 (.seq (.sem (.reg [sq 81 (.fieldA 12 (.t 5)),
sq 82 (.load none (.t 81)),
sq 83 (.fieldA 12 (.t 6)),
sq 84 (.load none (.t 83)),
sq 85 (.mv (.t 7)),
sq 86 (.call 49 [(.t 82),(.t 84),(.t 85)]),
sq 87 (.mv (.t 86)),
zg 88 87 true (.fieldA 13 (.t 2)),
zg 89 87 true (.load (some 5) (.t 88)),
zg 90 87 true (.fieldA 13 (.t 3)),
zg 91 87 true (.load (some 5) (.t 90)),
zg 92 87 true (.call 40 [(.t 89),(.t 91)]),
sq 93 (.pick (.t 87) (.t 92) (kB false)),
sq 94 (.mv (.t 93)),
zg 95 94 true (.fieldA 18 (.t 2)),
zg 96 94 true (.load (some 5) (.t 95)),
zg 97 94 true (.fieldA 18 (.t 3)),
zg 98 94 true (.load (some 5) (.t 97)),
zg 99 94 true (.call 40 [(.t 96),(.t 98)]),
sq 100 (.pick (.t 94) (.t 99) (kB false)),
sq 4 (.mv (.t 100))]))
 .ret))))))⟩
theorem a16_ok:afn Tryz.prog 16=some a16.er:=by kernel_rfl
theorem F16_ok{x0 x1 r}(h:F16 x0 x1=some r):CallD Tryz.prog 16 [.agg [dS x0.Meta.Kind,dS x0.Meta.Namespace,dS x0.Meta.Name,dI x0.Meta.Uid,dI x0.Meta.Version,dI x0.Meta.Generation,dI x0.Meta.Created,dB x0.Meta.Deleting,dI x0.Meta.DeleteAt,dM (x0.Meta.Labels.map eLabel),dM (x0.Meta.Owners.map eOwner),dM (x0.Meta.Finalizers.map eS),dM (x0.Meta.Managers.map eManager),dI x0.Spec.Kind,dI x0.Spec.N,dS x0.Spec.S,dM (x0.Spec.List_.map eTValue),dM (x0.Spec.Fields.map eTField),dI x0.Status.Kind,dI x0.Status.N,dS x0.Status.S,dM (x0.Status.List_.map eTValue),dM (x0.Status.Fields.map eTField)],.agg [dS x1.Meta.Kind,dS x1.Meta.Namespace,dS x1.Meta.Name,dI x1.Meta.Uid,dI x1.Meta.Version,dI x1.Meta.Generation,dI x1.Meta.Created,dB x1.Meta.Deleting,dI x1.Meta.DeleteAt,dM (x1.Meta.Labels.map eLabel),dM (x1.Meta.Owners.map eOwner),dM (x1.Meta.Finalizers.map eS),dM (x1.Meta.Managers.map eManager),dI x1.Spec.Kind,dI x1.Spec.N,dS x1.Spec.S,dM (x1.Spec.List_.map eTValue),dM (x1.Spec.Fields.map eTField),dI x1.Status.Kind,dI x1.Status.N,dS x1.Status.S,dM (x1.Status.List_.map eTValue),dM (x1.Status.Fields.map eTField)]] [] (tupV [.c (dB r)]) []:=by
 refine callS a16_ok (by simp[a16]) ?_
 rw[F16]at h
 simp only[a16,VW.down,Nat.reduceEqDiff,reduceCtorEq,Nat.reduceAdd,Nat.reduceLeDiff,Nat.reduceLT,Nat.reduceBEq,Nat.reduceSub,EE.down]
 refine kD_new (by simp[wrs,allW,hset]) (ww ?_)
 refine kD_new (by simp[wrs,allW,hset]) (ww ?_)
 obtain⟨o1,ho,h⟩:=bi h
 refine cutS (fun s=>s=⟨[(2,.one (.c (.pt 0 0))),(3,.one (.c (.pt 1 0))),(5,.one (.c (.pt 2 0))),(6,.one (.c (.pt 3 0))),(58,.one (.c (dB o1)))],[some (.box [dS x0.Meta.Kind,dS x0.Meta.Namespace,dS x0.Meta.Name,dI x0.Meta.Uid,dI x0.Meta.Version,dI x0.Meta.Generation,dI x0.Meta.Created,dB x0.Meta.Deleting,dI x0.Meta.DeleteAt,dM (x0.Meta.Labels.map eLabel),dM (x0.Meta.Owners.map eOwner),dM (x0.Meta.Finalizers.map eS),dM (x0.Meta.Managers.map eManager),dI x0.Spec.Kind,dI x0.Spec.N,dS x0.Spec.S,dM (x0.Spec.List_.map eTValue),dM (x0.Spec.Fields.map eTField),dI x0.Status.Kind,dI x0.Status.N,dS x0.Status.S,dM (x0.Status.List_.map eTValue),dM (x0.Status.Fields.map eTField)]),some (.box [dS x1.Meta.Kind,dS x1.Meta.Namespace,dS x1.Meta.Name,dI x1.Meta.Uid,dI x1.Meta.Version,dI x1.Meta.Generation,dI x1.Meta.Created,dB x1.Meta.Deleting,dI x1.Meta.DeleteAt,dM (x1.Meta.Labels.map eLabel),dM (x1.Meta.Owners.map eOwner),dM (x1.Meta.Finalizers.map eS),dM (x1.Meta.Managers.map eManager),dI x1.Spec.Kind,dI x1.Spec.N,dS x1.Spec.S,dM (x1.Spec.List_.map eTValue),dM (x1.Spec.Fields.map eTField),dI x1.Status.Kind,dI x1.Status.N,dS x1.Status.S,dM (x1.Status.List_.map eTValue),dM (x1.Status.Fields.map eTField)]),some (.box [dS x0.Meta.Kind,dS x0.Meta.Namespace,dS x0.Meta.Name,dI x0.Meta.Uid,dI x0.Meta.Version,dI x0.Meta.Generation,dI x0.Meta.Created,dB x0.Meta.Deleting,dI x0.Meta.DeleteAt,dM (x0.Meta.Labels.map eLabel),dM (x0.Meta.Owners.map eOwner),dM (x0.Meta.Finalizers.map eS),dM (x0.Meta.Managers.map eManager)]),some (.box [dS x1.Meta.Kind,dS x1.Meta.Namespace,dS x1.Meta.Name,dI x1.Meta.Uid,dI x1.Meta.Version,dI x1.Meta.Generation,dI x1.Meta.Created,dB x1.Meta.Deleting,dI x1.Meta.DeleteAt,dM (x1.Meta.Labels.map eLabel),dM (x1.Meta.Owners.map eOwner),dM (x1.Meta.Finalizers.map eS),dM (x1.Meta.Managers.map eManager)])]⟩) ?_ ?_
 ·have h:=ho
  clear ho
  refine ww ?_
  obtain⟨t2,ht2,h⟩:=bi h
  refine cN [] (F44_ok ht2) trivial (ww ?_)
  obtain⟨t3,ht3,h⟩:=bi h
  refine cN [] (F44_ok ht3) trivial (ww ?_)
  refine guardDh h (fun g4 h=>?_) (fun g4 h=>?_)
  ·refine ww ?_
   cases h
   exact eM [some 0,some 1,some 2,some 3] rfl
  refine ww ?_
  refine guardDh h (fun g5 h=>?_) (fun g5 h=>?_)
  ·refine ww ?_
   cases h
   exact eM [some 0,some 1,some 2,some 3] rfl
  refine ww ?_
  refine guardDh h (fun g6 h=>?_) (fun g6 h=>?_)
  ·refine ww ?_
   cases h
   exact eM [some 0,some 1,some 2,some 3] rfl
  refine ww ?_
  refine guardDh h (fun g7 h=>?_) (fun g7 h=>?_)
  ·refine ww ?_
   cases h
   exact eM [some 0,some 1,some 2,some 3] rfl
  refine ww ?_
  refine guardDh h (fun g8 h=>?_) (fun g8 h=>?_)
  ·refine ww ?_
   cases h
   exact eM [some 0,some 1,some 2,some 3] rfl
  refine ww ?_
  refine guardDBh h (fun g9 h=>?_) (fun g9 h=>?_)
  ·refine ww ?_
   cases h
   exact eM [some 0,some 1,some 2,some 3] rfl
  refine ww ?_
  cases h
  exact eM [some 0,some 1,some 2,some 3] rfl
 rintro _ rfl
 clear ho
 refine ww ?_
 refine condBh h (fun c10 h=>?_) (fun c10 h=>?_)
 ·refine ww ?_
  cases h
  exact eF []
 refine ww ?_
 obtain⟨o11,ho,h⟩:=bi h
 refine cutS (fun s=>s=⟨[(2,.one (.c (.pt 0 0))),(3,.one (.c (.pt 1 0))),(5,.one (.c (.pt 2 0))),(6,.one (.c (.pt 3 0))),(80,.one (.c (dB o11)))],[some (.box [dS x0.Meta.Kind,dS x0.Meta.Namespace,dS x0.Meta.Name,dI x0.Meta.Uid,dI x0.Meta.Version,dI x0.Meta.Generation,dI x0.Meta.Created,dB x0.Meta.Deleting,dI x0.Meta.DeleteAt,dM (x0.Meta.Labels.map eLabel),dM (x0.Meta.Owners.map eOwner),dM (x0.Meta.Finalizers.map eS),dM (x0.Meta.Managers.map eManager),dI x0.Spec.Kind,dI x0.Spec.N,dS x0.Spec.S,dM (x0.Spec.List_.map eTValue),dM (x0.Spec.Fields.map eTField),dI x0.Status.Kind,dI x0.Status.N,dS x0.Status.S,dM (x0.Status.List_.map eTValue),dM (x0.Status.Fields.map eTField)]),some (.box [dS x1.Meta.Kind,dS x1.Meta.Namespace,dS x1.Meta.Name,dI x1.Meta.Uid,dI x1.Meta.Version,dI x1.Meta.Generation,dI x1.Meta.Created,dB x1.Meta.Deleting,dI x1.Meta.DeleteAt,dM (x1.Meta.Labels.map eLabel),dM (x1.Meta.Owners.map eOwner),dM (x1.Meta.Finalizers.map eS),dM (x1.Meta.Managers.map eManager),dI x1.Spec.Kind,dI x1.Spec.N,dS x1.Spec.S,dM (x1.Spec.List_.map eTValue),dM (x1.Spec.Fields.map eTField),dI x1.Status.Kind,dI x1.Status.N,dS x1.Status.S,dM (x1.Status.List_.map eTValue),dM (x1.Status.Fields.map eTField)]),some (.box [dS x0.Meta.Kind,dS x0.Meta.Namespace,dS x0.Meta.Name,dI x0.Meta.Uid,dI x0.Meta.Version,dI x0.Meta.Generation,dI x0.Meta.Created,dB x0.Meta.Deleting,dI x0.Meta.DeleteAt,dM (x0.Meta.Labels.map eLabel),dM (x0.Meta.Owners.map eOwner),dM (x0.Meta.Finalizers.map eS),dM (x0.Meta.Managers.map eManager)]),some (.box [dS x1.Meta.Kind,dS x1.Meta.Namespace,dS x1.Meta.Name,dI x1.Meta.Uid,dI x1.Meta.Version,dI x1.Meta.Generation,dI x1.Meta.Created,dB x1.Meta.Deleting,dI x1.Meta.DeleteAt,dM (x1.Meta.Labels.map eLabel),dM (x1.Meta.Owners.map eOwner),dM (x1.Meta.Finalizers.map eS),dM (x1.Meta.Managers.map eManager)])]⟩) ?_ ?_
 ·have h:=ho
  clear ho
  refine ww ?_
  obtain⟨t12,ht12,h⟩:=bi h
  refine cN [] (F45_ok ht12) trivial (ww ?_)
  refine guardSBh h (fun g13 h=>?_) (fun g13 h=>?_)
  ·refine ww ?_
   cases h
   exact eM [some 0,some 1,some 2,some 3] rfl
  refine ww ?_
  obtain⟨t14,ht14,h⟩:=bi h
  refine cN [] (F46_ok ht14) trivial (ww ?_)
  refine guardSBh h (fun g15 h=>?_) (fun g15 h=>?_)
  ·refine ww ?_
   cases h
   exact eM [some 0,some 1,some 2,some 3] rfl
  refine ww ?_
  obtain⟨t16,ht16,h⟩:=bi h
  refine cN [] (F47_ok ht16) trivial (ww ?_)
  cases h
  exact eM [some 0,some 1,some 2,some 3] rfl
 rintro _ rfl
 clear ho
 refine ww ?_
 refine condBh h (fun c17 h=>?_) (fun c17 h=>?_)
 ·refine ww ?_
  cases h
  exact eF []
 refine ww ?_
 obtain⟨o18,ho,h⟩:=bi h
 refine cutS (fun s=>s=⟨[(4,.one (.c (dB o18)))],[]⟩) ?_ ?_
 ·have h:=ho
  clear ho
  refine ww ?_
  obtain⟨t19,ht19,h⟩:=bi h
  refine cN [] (F49_ok ht19) trivial (ww ?_)
  refine guardSBh h (fun g20 h=>?_) (fun g20 h=>?_)
  ·refine ww ?_
   obtain⟨t21,ht21,h⟩:=bi h
   refine cN [] (F40_ok ht21) trivial (ww ?_)
   refine guardSBh h (fun g22 h=>?_) (fun g22 h=>?_)
   ·refine ww ?_
    obtain⟨t23,ht23,h⟩:=bi h
    refine cN [] (F40_ok ht23) trivial (ww ?_)
    cases h
    exact eM [] rfl
   refine ww ?_
   cases h
   exact eM [] rfl
  refine ww ?_
  cases h
  exact eM [] rfl
 rintro _ rfl
 clear ho
 refine ww ?_
 cases h
 exact eF []
end Go.Proofs.YtbopaemngpbdgaaGreat
