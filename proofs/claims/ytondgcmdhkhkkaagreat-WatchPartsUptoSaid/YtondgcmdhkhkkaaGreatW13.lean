/- Each Go function as a function over typed data, and its walk. -/
import Derived.Test.YtondgcmdhkhkkaaGreatW0
import Derived.Test.YtondgcmdhkhkkaaGreatW1
import Derived.Test.YtondgcmdhkhkkaaGreatW2
import Derived.Test.YtondgcmdhkhkkaaGreatW3
import Derived.Test.YtondgcmdhkhkkaaGreatW8
import Derived.Test.YtondgcmdhkhkkaaGreatW10
namespace Go.Proofs.YtondgcmdhkhkkaaGreat
open Go Go.Fw Go.Shelf
set_option maxRecDepth 100000
set_option maxHeartbeats 4000000
set_option linter.unusedSimpArgs false
set_option linter.unusedVariables false
def F20(x0:Object)(x1:Object):Option (Bool):=(((F46 x0.Meta).bind fun t2=>(F46 x1.Meta).bind fun t3=>(if¬(x0.Meta.Kind=x1.Meta.Kind∧x0.Meta.Namespace=x1.Meta.Namespace∧x0.Meta.Name=x1.Meta.Name)then some true else(if¬(x0.Meta.Uid=x1.Meta.Uid)then some true else(if¬(x0.Meta.Version=x1.Meta.Version)then some true else(if¬(x0.Meta.Generation=x1.Meta.Generation)then some true else(if¬(x0.Meta.Created=x1.Meta.Created)then some true else(if(((x0.Meta.Deleting==x1.Meta.Deleting)!=true))=true then some true else some (decide (¬(x0.Meta.DeleteAt=x1.Meta.DeleteAt)))))))))).bind fun o1=>(if o1=true then some false else(((F47 x0.Meta.Labels x1.Meta.Labels).bind fun t12=>(if(nb t12)=true then some true else(F48 x0.Meta.Owners x1.Meta.Owners).bind fun t14=>(if(nb t14)=true then some true else(F49 x0.Meta.Finalizers x1.Meta.Finalizers).bind fun t16=>some (nb t16)))).bind fun o11=>(if o11=true then some false else(((F51 x0.Meta.Managers x1.Meta.Managers).bind fun t19=>(if t19=true then(F52 x0.Spec x1.Spec).bind fun t21=>(if t21=true then(F52 x0.Status x1.Status).bind fun t23=>some t23 else some false)else some false)).bind fun o18=>some o18)))))
def a20:AFn:=⟨101,[(.tmp 4)],
 (.seq (.reg [sq 2 (.box (.t 0)),
sq 3 (.box (.t 1)),
sq 4 (.mv (kB false))])
 (.seq (.regd [sq 8 (.fieldA 0 (.t 2)),
sd 9 (.load (some 13) (.t 8)) [0],
sq 10 (.fieldA 0 (.t 3)),
sd 11 (.load (some 13) (.t 10)) [2],
sq 5 (.zbox [dS ⟨#[]⟩,dS ⟨#[]⟩,dS ⟨#[]⟩,dI 0,dI 0,dI 0,dI 0,dB false,dI 0,dN,dN,dN,dN]),
sq 6 (.zbox [dS ⟨#[]⟩,dS ⟨#[]⟩,dS ⟨#[]⟩,dI 0,dI 0,dI 0,dI 0,dB false,dI 0,dN,dN,dN,dN]),
⟨none,none,.store 13 (.t 5) (.t 9),[0,1,4,5],(.lone [3,10])⟩,
⟨none,none,.store 13 (.t 6) (.t 11),[0,1,2,3,4,5,6],(.lone [])⟩])
 (.seq (.seq (.sem (.regd [sq 12 (.load (some 13) (.t 5)),
zn 13 (.call 46 [(.t 12)]) [0] [0],
sq 14 (.load (some 13) (.t 6)),
zl 15 (.call 46 [(.t 14)]) [0,1,2] [],
zl 16 (.eqs true [(0,2),(1,2),(2,2)] (.t 13) (.t 15)) [0,1,2,3] [],
sd 17 (.mv (.t 16)) [0,1,2,3,4],
⟨(some 18),(some (17,false)),.fieldA 3 (.t 5),[0,1,2,3,4,5],(.new [])⟩,
⟨(some 19),(some (17,false)),.load none (.t 18),[0,1,2,3,4,5,6],(.new [])⟩,
⟨(some 20),(some (17,false)),.fieldA 3 (.t 6),[0,1,2,3,4,5],(.new [])⟩,
⟨(some 21),(some (17,false)),.load none (.t 20),[0,1,2,3,4,5,8],(.new [])⟩,
⟨(some 22),(some (17,false)),.bin .neq (.t 19) (.t 21),[0,1,2,3,4,5,6,7,8,9],(.new [])⟩,
zl 23 (.pick (.t 17) (kB true) (.t 22)) [0,1,2,3,4,5,6,7,8,9,10] [],
sd 24 (.mv (.t 23)) [0,1,2,3,4,5,6,7,8,9,10,11],
⟨(some 25),(some (24,false)),.fieldA 4 (.t 5),[0,1,2,3,4,5,6,7,8,9,10,11,12],(.new [])⟩,
⟨(some 26),(some (24,false)),.load none (.t 25),[0,1,2,3,4,5,6,7,8,9,10,11,12,13],(.new [])⟩,
⟨(some 27),(some (24,false)),.fieldA 4 (.t 6),[0,1,2,3,4,5,6,7,8,9,10,11,12],(.new [])⟩,
⟨(some 28),(some (24,false)),.load none (.t 27),[0,1,2,3,4,5,6,7,8,9,10,11,12,15],(.new [])⟩,
⟨(some 29),(some (24,false)),.bin .neq (.t 26) (.t 28),[0,1,2,3,4,5,6,7,8,9,10,11,12,13,14,15,16],(.new [])⟩,
zl 30 (.pick (.t 24) (kB true) (.t 29)) [0,1,2,3,4,5,6,7,8,9,10,11,12,13,14,15,16,17] [],
sd 31 (.mv (.t 30)) [0,1,2,3,4,5,6,7,8,9,10,11,12,13,14,15,16,17,18],
⟨(some 32),(some (31,false)),.fieldA 5 (.t 5),[0,1,2,3,4,5,6,7,8,9,10,11,12,13,14,15,16,17,18,19],(.new [])⟩,
⟨(some 33),(some (31,false)),.load none (.t 32),[0,1,2,3,4,5,6,7,8,9,10,11,12,13,14,15,16,17,18,19,20],(.new [])⟩,
⟨(some 34),(some (31,false)),.fieldA 5 (.t 6),[0,1,2,3,4,5,6,7,8,9,10,11,12,13,14,15,16,17,18,19],(.new [])⟩,
⟨(some 35),(some (31,false)),.load none (.t 34),[0,1,2,3,4,5,6,7,8,9,10,11,12,13,14,15,16,17,18,19,22],(.new [])⟩,
⟨(some 36),(some (31,false)),.bin .neq (.t 33) (.t 35),[0,1,2,3,4,5,6,7,8,9,10,11,12,13,14,15,16,17,18,19,20,21,22,23],(.new [])⟩,
zl 37 (.pick (.t 31) (kB true) (.t 36)) [0,1,2,3,4,5,6,7,8,9,10,11,12,13,14,15,16,17,18,19,20,21,22,23,24] [],
sd 38 (.mv (.t 37)) [0,1,2,3,4,5,6,7,8,9,10,11,12,13,14,15,16,17,18,19,20,21,22,23,24,25],
⟨(some 39),(some (38,false)),.fieldA 6 (.t 5),[0,1,2,3,4,5,6,7,8,9,10,11,12,13,14,15,16,17,18,19,20,21,22,23,24,25,26],(.new [])⟩,
⟨(some 40),(some (38,false)),.load none (.t 39),[0,1,2,3,4,5,6,7,8,9,10,11,12,13,14,15,16,17,18,19,20,21,22,23,24,25,26,27],(.new [])⟩,
⟨(some 41),(some (38,false)),.fieldA 6 (.t 6),[0,1,2,3,4,5,6,7,8,9,10,11,12,13,14,15,16,17,18,19,20,21,22,23,24,25,26],(.new [])⟩,
⟨(some 42),(some (38,false)),.load none (.t 41),[0,1,2,3,4,5,6,7,8,9,10,11,12,13,14,15,16,17,18,19,20,21,22,23,24,25,26,29],(.new [])⟩,
⟨(some 43),(some (38,false)),.bin .neq (.t 40) (.t 42),[0,1,2,3,4,5,6,7,8,9,10,11,12,13,14,15,16,17,18,19,20,21,22,23,24,25,26,27,28,29,30],(.new [])⟩,
zl 44 (.pick (.t 38) (kB true) (.t 43)) [0,1,2,3,4,5,6,7,8,9,10,11,12,13,14,15,16,17,18,19,20,21,22,23,24,25,26,27,28,29,30,31] [],
sd 45 (.mv (.t 44)) [0,1,2,3,4,5,6,7,8,9,10,11,12,13,14,15,16,17,18,19,20,21,22,23,24,25,26,27,28,29,30,31,32],
⟨(some 46),(some (45,false)),.fieldA 7 (.t 5),[0,1,2,3,4,5,6,7,8,9,10,11,12,13,14,15,16,17,18,19,20,21,22,23,24,25,26,27,28,29,30,31,32,33],(.new [])⟩,
⟨(some 47),(some (45,false)),.load none (.t 46),[0,1,2,3,4,5,6,7,8,9,10,11,12,13,14,15,16,17,18,19,20,21,22,23,24,25,26,27,28,29,30,31,32,33,34],(.new [])⟩,
⟨(some 48),(some (45,false)),.fieldA 7 (.t 6),[0,1,2,3,4,5,6,7,8,9,10,11,12,13,14,15,16,17,18,19,20,21,22,23,24,25,26,27,28,29,30,31,32,33],(.new [])⟩,
⟨(some 49),(some (45,false)),.load none (.t 48),[0,1,2,3,4,5,6,7,8,9,10,11,12,13,14,15,16,17,18,19,20,21,22,23,24,25,26,27,28,29,30,31,32,33,36],(.new [])⟩,
⟨(some 50),(some (45,false)),.beq true (.t 47) (.t 49),[0,1,2,3,4,5,6,7,8,9,10,11,12,13,14,15,16,17,18,19,20,21,22,23,24,25,26,27,28,29,30,31,32,33,34,35,36,37],(.new [])⟩,
zl 51 (.pick (.t 45) (kB true) (.t 50)) [0,1,2,3,4,5,6,7,8,9,10,11,12,13,14,15,16,17,18,19,20,21,22,23,24,25,26,27,28,29,30,31,32,33,34,35,36,37,38] [],
sd 52 (.mv (.t 51)) [0,1,2,3,4,5,6,7,8,9,10,11,12,13,14,15,16,17,18,19,20,21,22,23,24,25,26,27,28,29,30,31,32,33,34,35,36,37,38,39],
⟨(some 53),(some (52,false)),.fieldA 8 (.t 5),[0,1,2,3,4,5,6,7,8,9,10,11,12,13,14,15,16,17,18,19,20,21,22,23,24,25,26,27,28,29,30,31,32,33,34,35,36,37,38,39,40],(.new [])⟩,
⟨(some 54),(some (52,false)),.load none (.t 53),[0,1,2,3,4,5,6,7,8,9,10,11,12,13,14,15,16,17,18,19,20,21,22,23,24,25,26,27,28,29,30,31,32,33,34,35,36,37,38,39,40,41],(.new [])⟩,
⟨(some 55),(some (52,false)),.fieldA 8 (.t 6),[0,1,2,3,4,5,6,7,8,9,10,11,12,13,14,15,16,17,18,19,20,21,22,23,24,25,26,27,28,29,30,31,32,33,34,35,36,37,38,39,40],(.new [])⟩,
⟨(some 56),(some (52,false)),.load none (.t 55),[0,1,2,3,4,5,6,7,8,9,10,11,12,13,14,15,16,17,18,19,20,21,22,23,24,25,26,27,28,29,30,31,32,33,34,35,36,37,38,39,40,43],(.new [])⟩,
⟨(some 57),(some (52,false)),.bin .neq (.t 54) (.t 56),[0,1,2,3,4,5,6,7,8,9,10,11,12,13,14,15,16,17,18,19,20,21,22,23,24,25,26,27,28,29,30,31,32,33,34,35,36,37,38,39,40,41,42,43,44],(.new [])⟩,
zl 58 (.pick (.t 52) (kB true) (.t 57)) [0,1,2,3,4,5,6,7,8,9,10,11,12,13,14,15,16,17,18,19,20,21,22,23,24,25,26,27,28,29,30,31,32,33,34,35,36,37,38,39,40,41,42,43,44,45] []]))
 (.cond (.t 58)
 (.seq (.reg [sq 4 (.mv (kB false))])
 .ret)
 .skip))
 (.seq (.seq (.sem (.reg [sq 59 (.fieldA 9 (.t 5)),
sq 60 (.load none (.t 59)),
sq 61 (.fieldA 9 (.t 6)),
sq 62 (.load none (.t 61)),
sq 63 (.call 47 [(.t 60),(.t 62)]),
sq 64 (.not (.t 63)),
sq 65 (.mv (.t 64)),
zg 66 65 false (.fieldA 10 (.t 5)),
zg 67 65 false (.load none (.t 66)),
zg 68 65 false (.fieldA 10 (.t 6)),
zg 69 65 false (.load none (.t 68)),
zg 70 65 false (.call 48 [(.t 67),(.t 69)]),
zg 71 65 false (.not (.t 70)),
sq 72 (.pick (.t 65) (kB true) (.t 71)),
sq 73 (.mv (.t 72)),
zg 74 73 false (.fieldA 11 (.t 5)),
zg 75 73 false (.load none (.t 74)),
zg 76 73 false (.fieldA 11 (.t 6)),
zg 77 73 false (.load none (.t 76)),
zg 78 73 false (.call 49 [(.t 75),(.t 77)]),
zg 79 73 false (.not (.t 78)),
sq 80 (.pick (.t 73) (kB true) (.t 79))]))
 (.cond (.t 80)
 (.seq (.reg [sq 4 (.mv (kB false))])
 .ret)
 .skip))
 (.seq (.reg [zl 7 (.mv (.f 50)) [] []])
 (.seq (.sem (.reg [sq 81 (.fieldA 12 (.t 5)),
sq 82 (.load none (.t 81)),
sq 83 (.fieldA 12 (.t 6)),
sq 84 (.load none (.t 83)),
sq 85 (.mv (.t 7)),
sq 86 (.call 51 [(.t 82),(.t 84),(.t 85)]),
sq 87 (.mv (.t 86)),
zg 88 87 true (.fieldA 13 (.t 2)),
zg 89 87 true (.load (some 5) (.t 88)),
zg 90 87 true (.fieldA 13 (.t 3)),
zg 91 87 true (.load (some 5) (.t 90)),
zg 92 87 true (.call 52 [(.t 89),(.t 91)]),
sq 93 (.pick (.t 87) (.t 92) (kB false)),
sq 94 (.mv (.t 93)),
zg 95 94 true (.fieldA 18 (.t 2)),
zg 96 94 true (.load (some 5) (.t 95)),
zg 97 94 true (.fieldA 18 (.t 3)),
zg 98 94 true (.load (some 5) (.t 97)),
zg 99 94 true (.call 52 [(.t 96),(.t 98)]),
sq 100 (.pick (.t 94) (.t 99) (kB false)),
sq 4 (.mv (.t 100))]))
 .ret))))))⟩
theorem a20_ok:afn Tryz.prog 20=some a20.er:=by kernel_rfl
theorem F20_ok{x0 x1 r}(h:F20 x0 x1=some r):CallD Tryz.prog 20 [.agg [dS x0.Meta.Kind,dS x0.Meta.Namespace,dS x0.Meta.Name,dI x0.Meta.Uid,dI x0.Meta.Version,dI x0.Meta.Generation,dI x0.Meta.Created,dB x0.Meta.Deleting,dI x0.Meta.DeleteAt,dM (x0.Meta.Labels.map eLabel),dM (x0.Meta.Owners.map eOwner),dM (x0.Meta.Finalizers.map eS),dM (x0.Meta.Managers.map eManager),dI x0.Spec.Kind,dI x0.Spec.N,dS x0.Spec.S,dM (x0.Spec.List_.map eTValue),dM (x0.Spec.Fields.map eTField),dI x0.Status.Kind,dI x0.Status.N,dS x0.Status.S,dM (x0.Status.List_.map eTValue),dM (x0.Status.Fields.map eTField)],.agg [dS x1.Meta.Kind,dS x1.Meta.Namespace,dS x1.Meta.Name,dI x1.Meta.Uid,dI x1.Meta.Version,dI x1.Meta.Generation,dI x1.Meta.Created,dB x1.Meta.Deleting,dI x1.Meta.DeleteAt,dM (x1.Meta.Labels.map eLabel),dM (x1.Meta.Owners.map eOwner),dM (x1.Meta.Finalizers.map eS),dM (x1.Meta.Managers.map eManager),dI x1.Spec.Kind,dI x1.Spec.N,dS x1.Spec.S,dM (x1.Spec.List_.map eTValue),dM (x1.Spec.Fields.map eTField),dI x1.Status.Kind,dI x1.Status.N,dS x1.Status.S,dM (x1.Status.List_.map eTValue),dM (x1.Status.Fields.map eTField)]] [] (tupV [.c (dB r)]) []:=by
 refine callS a20_ok (by simp[a20]) ?_
 rw[F20]at h
 simp only[a20,VW.down,Nat.reduceEqDiff,reduceCtorEq,Nat.reduceAdd,Nat.reduceLeDiff,Nat.reduceLT,Nat.reduceBEq,Nat.reduceSub,EE.down]
 refine kD_new (by simp[wrs,allW,hset]) (ww ?_)
 refine kD_new (by simp[wrs,allW,hset]) (ww ?_)
 obtain⟨o1,ho,h⟩:=bi h
 refine cutS (fun s=>s=⟨[(2,.one (.c (.pt 0 0))),(3,.one (.c (.pt 1 0))),(5,.one (.c (.pt 2 0))),(6,.one (.c (.pt 3 0))),(58,.one (.c (dB o1)))],[some (.box [dS x0.Meta.Kind,dS x0.Meta.Namespace,dS x0.Meta.Name,dI x0.Meta.Uid,dI x0.Meta.Version,dI x0.Meta.Generation,dI x0.Meta.Created,dB x0.Meta.Deleting,dI x0.Meta.DeleteAt,dM (x0.Meta.Labels.map eLabel),dM (x0.Meta.Owners.map eOwner),dM (x0.Meta.Finalizers.map eS),dM (x0.Meta.Managers.map eManager),dI x0.Spec.Kind,dI x0.Spec.N,dS x0.Spec.S,dM (x0.Spec.List_.map eTValue),dM (x0.Spec.Fields.map eTField),dI x0.Status.Kind,dI x0.Status.N,dS x0.Status.S,dM (x0.Status.List_.map eTValue),dM (x0.Status.Fields.map eTField)]),some (.box [dS x1.Meta.Kind,dS x1.Meta.Namespace,dS x1.Meta.Name,dI x1.Meta.Uid,dI x1.Meta.Version,dI x1.Meta.Generation,dI x1.Meta.Created,dB x1.Meta.Deleting,dI x1.Meta.DeleteAt,dM (x1.Meta.Labels.map eLabel),dM (x1.Meta.Owners.map eOwner),dM (x1.Meta.Finalizers.map eS),dM (x1.Meta.Managers.map eManager),dI x1.Spec.Kind,dI x1.Spec.N,dS x1.Spec.S,dM (x1.Spec.List_.map eTValue),dM (x1.Spec.Fields.map eTField),dI x1.Status.Kind,dI x1.Status.N,dS x1.Status.S,dM (x1.Status.List_.map eTValue),dM (x1.Status.Fields.map eTField)]),some (.box [dS x0.Meta.Kind,dS x0.Meta.Namespace,dS x0.Meta.Name,dI x0.Meta.Uid,dI x0.Meta.Version,dI x0.Meta.Generation,dI x0.Meta.Created,dB x0.Meta.Deleting,dI x0.Meta.DeleteAt,dM (x0.Meta.Labels.map eLabel),dM (x0.Meta.Owners.map eOwner),dM (x0.Meta.Finalizers.map eS),dM (x0.Meta.Managers.map eManager)]),some (.box [dS x1.Meta.Kind,dS x1.Meta.Namespace,dS x1.Meta.Name,dI x1.Meta.Uid,dI x1.Meta.Version,dI x1.Meta.Generation,dI x1.Meta.Created,dB x1.Meta.Deleting,dI x1.Meta.DeleteAt,dM (x1.Meta.Labels.map eLabel),dM (x1.Meta.Owners.map eOwner),dM (x1.Meta.Finalizers.map eS),dM (x1.Meta.Managers.map eManager)])]⟩) ?_ ?_
 ·have h:=ho
  clear ho
  refine ww ?_
  obtain⟨t2,ht2,h⟩:=bi h
  refine cN [] (F46_ok ht2) trivial (ww ?_)
  obtain⟨t3,ht3,h⟩:=bi h
  refine cN [] (F46_ok ht3) trivial (ww ?_)
  refine guardDh h (fun g4 h=>?_) (fun g4 h=>?_)
  ·refine ww ?_
   cases h
   exact eM [some 0,some 1,some 2,some 3] rfl
  refine ww ?_
  refine guardDh h (fun g5 h=>?_) (fun g5 h=>?_)
  ·refine ww ?_
   cases h
   exact eM [some 0,some 1,some 2,some 3] rfl
  refine ww ?_
  refine guardDh h (fun g6 h=>?_) (fun g6 h=>?_)
  ·refine ww ?_
   cases h
   exact eM [some 0,some 1,some 2,some 3] rfl
  refine ww ?_
  refine guardDh h (fun g7 h=>?_) (fun g7 h=>?_)
  ·refine ww ?_
   cases h
   exact eM [some 0,some 1,some 2,some 3] rfl
  refine ww ?_
  refine guardDh h (fun g8 h=>?_) (fun g8 h=>?_)
  ·refine ww ?_
   cases h
   exact eM [some 0,some 1,some 2,some 3] rfl
  refine ww ?_
  refine guardDBh h (fun g9 h=>?_) (fun g9 h=>?_)
  ·refine ww ?_
   cases h
   exact eM [some 0,some 1,some 2,some 3] rfl
  refine ww ?_
  cases h
  exact eM [some 0,some 1,some 2,some 3] rfl
 rintro _ rfl
 clear ho
 refine ww ?_
 refine condBh h (fun c10 h=>?_) (fun c10 h=>?_)
 ·refine ww ?_
  cases h
  exact eF []
 refine ww ?_
 obtain⟨o11,ho,h⟩:=bi h
 refine cutS (fun s=>s=⟨[(2,.one (.c (.pt 0 0))),(3,.one (.c (.pt 1 0))),(5,.one (.c (.pt 2 0))),(6,.one (.c (.pt 3 0))),(80,.one (.c (dB o11)))],[some (.box [dS x0.Meta.Kind,dS x0.Meta.Namespace,dS x0.Meta.Name,dI x0.Meta.Uid,dI x0.Meta.Version,dI x0.Meta.Generation,dI x0.Meta.Created,dB x0.Meta.Deleting,dI x0.Meta.DeleteAt,dM (x0.Meta.Labels.map eLabel),dM (x0.Meta.Owners.map eOwner),dM (x0.Meta.Finalizers.map eS),dM (x0.Meta.Managers.map eManager),dI x0.Spec.Kind,dI x0.Spec.N,dS x0.Spec.S,dM (x0.Spec.List_.map eTValue),dM (x0.Spec.Fields.map eTField),dI x0.Status.Kind,dI x0.Status.N,dS x0.Status.S,dM (x0.Status.List_.map eTValue),dM (x0.Status.Fields.map eTField)]),some (.box [dS x1.Meta.Kind,dS x1.Meta.Namespace,dS x1.Meta.Name,dI x1.Meta.Uid,dI x1.Meta.Version,dI x1.Meta.Generation,dI x1.Meta.Created,dB x1.Meta.Deleting,dI x1.Meta.DeleteAt,dM (x1.Meta.Labels.map eLabel),dM (x1.Meta.Owners.map eOwner),dM (x1.Meta.Finalizers.map eS),dM (x1.Meta.Managers.map eManager),dI x1.Spec.Kind,dI x1.Spec.N,dS x1.Spec.S,dM (x1.Spec.List_.map eTValue),dM (x1.Spec.Fields.map eTField),dI x1.Status.Kind,dI x1.Status.N,dS x1.Status.S,dM (x1.Status.List_.map eTValue),dM (x1.Status.Fields.map eTField)]),some (.box [dS x0.Meta.Kind,dS x0.Meta.Namespace,dS x0.Meta.Name,dI x0.Meta.Uid,dI x0.Meta.Version,dI x0.Meta.Generation,dI x0.Meta.Created,dB x0.Meta.Deleting,dI x0.Meta.DeleteAt,dM (x0.Meta.Labels.map eLabel),dM (x0.Meta.Owners.map eOwner),dM (x0.Meta.Finalizers.map eS),dM (x0.Meta.Managers.map eManager)]),some (.box [dS x1.Meta.Kind,dS x1.Meta.Namespace,dS x1.Meta.Name,dI x1.Meta.Uid,dI x1.Meta.Version,dI x1.Meta.Generation,dI x1.Meta.Created,dB x1.Meta.Deleting,dI x1.Meta.DeleteAt,dM (x1.Meta.Labels.map eLabel),dM (x1.Meta.Owners.map eOwner),dM (x1.Meta.Finalizers.map eS),dM (x1.Meta.Managers.map eManager)])]⟩) ?_ ?_
 ·have h:=ho
  clear ho
  refine ww ?_
  obtain⟨t12,ht12,h⟩:=bi h
  refine cN [] (F47_ok ht12) trivial (ww ?_)
  refine guardSBh h (fun g13 h=>?_) (fun g13 h=>?_)
  ·refine ww ?_
   cases h
   exact eM [some 0,some 1,some 2,some 3] rfl
  refine ww ?_
  obtain⟨t14,ht14,h⟩:=bi h
  refine cN [] (F48_ok ht14) trivial (ww ?_)
  refine guardSBh h (fun g15 h=>?_) (fun g15 h=>?_)
  ·refine ww ?_
   cases h
   exact eM [some 0,some 1,some 2,some 3] rfl
  refine ww ?_
  obtain⟨t16,ht16,h⟩:=bi h
  refine cN [] (F49_ok ht16) trivial (ww ?_)
  cases h
  exact eM [some 0,some 1,some 2,some 3] rfl
 rintro _ rfl
 clear ho
 refine ww ?_
 refine condBh h (fun c17 h=>?_) (fun c17 h=>?_)
 ·refine ww ?_
  cases h
  exact eF []
 refine ww ?_
 obtain⟨o18,ho,h⟩:=bi h
 refine cutS (fun s=>s=⟨[(4,.one (.c (dB o18)))],[]⟩) ?_ ?_
 ·have h:=ho
  clear ho
  refine ww ?_
  obtain⟨t19,ht19,h⟩:=bi h
  refine cN [] (F51_ok ht19) trivial (ww ?_)
  refine guardSBh h (fun g20 h=>?_) (fun g20 h=>?_)
  ·refine ww ?_
   obtain⟨t21,ht21,h⟩:=bi h
   refine cN [] (F52_ok ht21) trivial (ww ?_)
   refine guardSBh h (fun g22 h=>?_) (fun g22 h=>?_)
   ·refine ww ?_
    obtain⟨t23,ht23,h⟩:=bi h
    refine cN [] (F52_ok ht23) trivial (ww ?_)
    cases h
    exact eM [] rfl
   refine ww ?_
   cases h
   exact eM [] rfl
  refine ww ?_
  cases h
  exact eM [] rfl
 rintro _ rfl
 clear ho
 refine ww ?_
 cases h
 exact eF []
end Go.Proofs.YtondgcmdhkhkkaaGreat
