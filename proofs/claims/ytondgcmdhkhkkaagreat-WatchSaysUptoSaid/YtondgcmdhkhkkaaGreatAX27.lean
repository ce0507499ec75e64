/- Each Go function as a function over typed data, and its walk. -/
import Derived.Test.YtondgcmdhkhkkaaGreatAX
import Derived.Test.YtondgcmdhkhkkaaGreatAX2
import Derived.Test.YtondgcmdhkhkkaaGreatAX8
import Derived.Test.YtondgcmdhkhkkaaGreatAX12
import Derived.Test.YtondgcmdhkhkkaaGreatAX14
import Derived.Test.YtondgcmdhkhkkaaGreatAX15
import Derived.Test.YtondgcmdhkhkkaaGreatAX16
import Derived.Test.YtondgcmdhkhkkaaGreatAX17
import Derived.Test.YtondgcmdhkhkkaaGreatAX19
import Derived.Test.YtondgcmdhkhkkaaGreatAX21
import Derived.Test.YtondgcmdhkhkkaaGreatAX23
import Derived.Test.YtondgcmdhkhkkaaGreatAX24
import Derived.Test.YtondgcmdhkhkkaaGreatAX25
import Derived.Test.YtondgcmdhkhkkaaGreatAX26
namespace Go.Proofs.YtondgcmdhkhkkaaGreat
open Go Go.Fw Go.Shelf
set_option maxRecDepth 100000
set_option maxHeartbeats 4000000
set_option linter.unusedSimpArgs false
set_option linter.unusedVariables false
def F39_l6(x0:TStore)(x1:Int):Nat→(List Object)→Int→Option ((List Object))
 |0,_,_=>none
 |k+1,o6_0,o6_1=>(((if o6_1<(x0.History.length:Int)then(rdI x0.History o6_1).bind fun y9=>some (decide (y9.Rev≤x1))else some false)).bind fun o7=>(if o7=true then(rdI x0.History o6_1).bind fun y11=>(F41 o6_0 y11).bind fun t12=>F39_l6 x0 x1 k t12 ((IntKind.i64.wrap (o6_1+1)))else some o6_0))
def F39(x0:TStore)(x1:Int):Option ((List Object)×Int):=(((if x1<0 then some true else some (decide (x0.Rev<x1)))).bind fun o1=>(if o1=true then some (([],5))else(if x1<x0.Floor then some (([],10))else(apI ([]:List Object) x0.Base).bind fun a5=>((F39_l6 x0 x1 1099511627776 a5 0).bind fun o6=>some ((o6,0))))))
def a39:AFn:=⟨49,[(.tmp 4),(.tmp 5)],
 (.seq (.reg [sq 2 (.box (.t 0)),
sq 4 (.mv kN),
sq 5 (.mv (kI 0))])
 (.seq (.seq (.sem (.reg [sq 8 (.mv (.t 1)),
sq 9 (.bin .lss (.t 8) (kI 0)),
sq 10 (.mv (.t 9)),
zg 11 10 false (.mv (.t 1)),
zg 12 10 false (.fieldA 0 (.t 2)),
zg 13 10 false (.load none (.t 12)),
zg 14 10 false (.bin .gtr (.t 11) (.t 13)),
zl 15 (.pick (.t 10) (kB true) (.t 14)) [] [2,12]]))
 (.cond (.t 15)
 (.seq (.reg [sq 4 (.mv kN),
sq 5 (.mv (kI 5))])
 .ret)
 .skip))
 (.seq (.seq (.reg [sq 16 (.mv (.t 1)),
sq 17 (.fieldA 1 (.t 2)),
sq 18 (.load none (.t 17)),
sq 19 (.bin .lss (.t 16) (.t 18))])
 (.cond (.t 19)
 (.seq (.reg [sq 4 (.mv kN),
sq 5 (.mv (kI 10))])
 .ret)
 .skip))
 (.seq (.reg [sq 20 (.bslice 23 []),
sq 21 (.fieldA 3 (.t 2)),
sq 22 (.load none (.t 21)),
sq 23 (.app 23 352 (.t 20) (.t 22)),
sq 6 (.mv (.t 23))])
 (.seq (.seq (.reg [sq 7 (.mv (kI 0))])
 (.sem (.block 0 (.loop (.seq (.seq (.sem (.reg [sq 24 (.mv (.t 7)),
sq 25 (.fieldA 5 (.t 2)),
sq 26 (.load none (.t 25)),
sq 27 (.len (.t 26)),
sq 28 (.bin .lss (.t 24) (.t 27)),
sq 29 (.mv (.t 28)),
zg 30 29 true (.fieldA 5 (.t 2)),
zg 31 29 true (.load none (.t 30)),
zg 32 29 true (.mv (.t 7)),
zg 33 29 true (.indexA 25 (.t 31) (.t 32)),
zg 34 29 true (.fieldA 0 (.t 33)),
zg 35 29 true (.load none (.t 34)),
zg 36 29 true (.mv (.t 1)),
zg 37 29 true (.bin .leq (.t 35) (.t 36)),
zl 38 (.pick (.t 29) (.t 37) (kB false)) [] [2,25,26,2,30,31,33,34]]))
 (.cond (.t 38)
 .skip
 (.exit 0)))
 (.seq (.block 1 (.reg [sq 41 (.mv (.t 6)),
sq 42 (.fieldA 5 (.t 2)),
sq 43 (.load none (.t 42)),
sq 44 (.mv (.t 7)),
sq 45 (.indexA 25 (.t 43) (.t 44)),
sq 46 (.load (some 25) (.t 45)),
sq 47 (.call 41 [(.t 41),(.t 46)]),
sq 6 (.mv (.t 47))]))
 (.reg [sq 39 (.mv (.t 7)),
sq 40 (.bin .add (.t 39) (kI 1)),
sq 7 (.mv (.t 40))])))))))
 (.seq (.reg [sq 48 (.mv (.t 6)),
sq 4 (.mv (.t 48)),
sq 5 (.mv (kI 0))])
 .ret))))))⟩
theorem a39_ok:afn Tryz.prog 39=some a39.er:=by kernel_rfl
theorem F39_ok{x0 x1 r}(h:F39 x0 x1=some r):CallD Tryz.prog 39 [.agg [dI x0.Rev,dI x0.Floor,dI x0.NextUid,dM (x0.Base.map eObject),dM (x0.Objects.map eObject),dM (x0.History.map eChange)],.c (dI x1)] [] (tupV [.c (.own 0 0 0 (r.1.length) none),.c (dI r.2)]) [some (.arr 0 23 (r.1.map eObject))]:=by
 refine callS a39_ok (by simp[a39]) ?_
 rw[F39]at h
 simp only[a39,VW.down,Nat.reduceEqDiff,reduceCtorEq,Nat.reduceAdd,Nat.reduceLeDiff,Nat.reduceLT,Nat.reduceBEq,Nat.reduceSub,EE.down]
 obtain⟨o1,ho,h⟩:=bi h
 refine cutS (fun s=>s=⟨[(1,.one (.c (dI x1))),(2,.one (.c (.pt 0 0))),(15,.one (.c (dB o1)))],[some (.box [dI x0.Rev,dI x0.Floor,dI x0.NextUid,dM (x0.Base.map eObject),dM (x0.Objects.map eObject),dM (x0.History.map eChange)])]⟩) ?_ ?_
 ·have h:=ho
  clear ho
  refine ww ?_
  refine guardSh h (fun g2 h=>?_) (fun g2 h=>?_)
  ·refine ww ?_
   cases h
   exact eM [some 0] rfl
  refine ww ?_
  cases h
  exact eM [some 0] rfl
 rintro _ rfl
 clear ho
 refine ww ?_
 refine condBh h (fun c3 h=>?_) (fun c3 h=>?_)
 ·refine ww ?_
  cases h
  exact eF [none]
 refine ww ?_
 refine condSh h (fun c4 h=>?_) (fun c4 h=>?_)
 ·refine ww ?_
  cases h
  exact eF [none]
 refine ww ?_
 refine t_bslice (enc:=eObject) (ys:=([]:List Object)) rfl rfl (by simp[A1.cells]) (by first|rfl|(simp only[List.drop_zero,take_mapL];rfl)|(simp only[lit,List.map_cons,List.map_nil,List.drop_zero,take_mapL,EE.down];done)|(simp only[lit,List.map_cons,List.map_nil,List.drop_zero,take_mapL,EE.down];rfl)) (ww ?_)
 obtain⟨a5,ha5,h⟩:=bi h
 refine t_app (enc:=eObject) (xs:=([]:List Object)) rfl rfl (by first|rfl|simp only[List.length_set]|exact(clrL_len (slI_len (by assumption))).symm) rfl (rows_frz (enc:=eObject) (fun _=>rfl)) ha5 (ww ?_)
 obtain⟨o6,ho,h⟩:=bi h
 refine cutS (fun s=>s=⟨[(6,.one (.c (.own 0 0 0 (o6.length) none)))],[some (.arr 0 23 (o6.map eObject))]⟩) ?_ ?_
 ·have h:=ho
  clear ho
  refine ww ?_
  refine bL (fun j s=>∃(o6_0:List Object) (o6_1:Int),s=⟨[(1,.one (.c (dI x1))),(2,.one (.c (.pt 0 0))),(6,.one (.c (.own 1 0 0 (o6_0.length) none))),(7,.one (.c (dI o6_1)))],[some (.box [dI x0.Rev,dI x0.Floor,dI x0.NextUid,dM (x0.Base.map eObject),dM (x0.Objects.map eObject),dM (x0.History.map eChange)]),some (.arr 0 23 (o6_0.map eObject))]⟩∧F39_l6 x0 x1 j o6_0 o6_1=some o6) 1099511627776 [some 0,some 1] ⟨a5,0,rfl,h⟩ ?_
  rintro j _ ⟨o6_0,o6_1,rfl,h⟩
  cases j with
  |zero=>cases(show(none:Option _)=some _ from h)
  |succ j=>
   rw[F39_l6]at h
   refine ww ?_
   obtain⟨o7,ho,h⟩:=bi h
   refine cutS (fun s=>s=⟨[(1,.one (.c (dI x1))),(2,.one (.c (.pt 0 0))),(6,.one (.c (.own 1 0 0 (o6_0.length) none))),(7,.one (.c (dI o6_1))),(38,.one (.c (dB o7)))],[some (.box [dI x0.Rev,dI x0.Floor,dI x0.NextUid,dM (x0.Base.map eObject),dM (x0.Objects.map eObject),dM (x0.History.map eChange)]),some (.arr 0 23 (o6_0.map eObject))]⟩) ?_ ?_
   ·have h:=ho
    clear ho
    refine ww ?_
    refine guardSh h (fun g8 h=>?_) (fun g8 h=>?_)
    ·refine ww ?_
     obtain⟨y9,hy9,h⟩:=bi h
     refine t_idxF (enc:=eChange) (xs:=x0.History) rfl rfl hy9 rfl (ww ?_)
     cases h
     exact eM [some 0,some 1] rfl
    ·refine ww ?_
     cases h
     exact eM [some 0,some 1] rfl
   ·rintro _ rfl
    clear ho
    refine ww ?_
    refine condBh h (fun c10 h=>?_) (fun c10 h=>?_)
    ·refine ww ?_
     obtain⟨y11,hy11,h⟩:=bi h
     refine t_idxF (enc:=eChange) (xs:=x0.History) rfl rfl hy11 rfl (ww ?_)
     obtain⟨t12,ht12,h⟩:=bi h
     refine callX_gen (as1:=[.c (dM (o6_0.map eObject)),.agg [dI y11.Rev,dI y11.Kind,dS y11.Object.Meta.Kind,dS y11.Object.Meta.Namespace,dS y11.Object.Meta.Name,dI y11.Object.Meta.Uid,dI y11.Object.Meta.Version,dI y11.Object.Meta.Generation,dI y11.Object.Meta.Created,dB y11.Object.Meta.Deleting,dI y11.Object.Meta.DeleteAt,dM (y11.Object.Meta.Labels.map eLabel),dM (y11.Object.Meta.Owners.map eOwner),dM (y11.Object.Meta.Finalizers.map eS),dM (y11.Object.Meta.Managers.map eManager),dI y11.Object.Spec.Kind,dI y11.Object.Spec.N,dS y11.Object.Spec.S,dM (y11.Object.Spec.List_.map eTValue),dM (y11.Object.Spec.Fields.map eTField),dI y11.Object.Status.Kind,dI y11.Object.Status.N,dS y11.Object.Status.S,dM (y11.Object.Status.List_.map eTValue),dM (y11.Object.Status.Fields.map eTField)]]) [(1,.arr 1 23 [])] [some 0,none] [] (F41_ok ht12) ⟨?_,rfl,?_⟩ ?_ ?_ ?_ ?_ ?_ ?_ ?_ ?_
     ·simp only[ZZ.down,Nat.reduceEqDiff,reduceCtorEq,Nat.reduceAdd,Nat.reduceLeDiff,Nat.reduceLT,Nat.reduceBNe,EE.down]
     ·simp only[ZZ.down,Nat.reduceEqDiff,reduceCtorEq,Nat.reduceAdd,Nat.reduceLeDiff,Nat.reduceLT,Nat.reduceBNe,EE.down]
     ·simp only[ZZ.down,Nat.reduceEqDiff,reduceCtorEq,Nat.reduceAdd,Nat.reduceLeDiff,Nat.reduceLT,Nat.reduceBNe,EE.down]
     ·rfl
     ·rfl
     ·simp[liveAll,A1.live,C.live]
     ·rfl
     ·decide
     ·exact trivial
     refine ww ?_
     exact eL' j [some 0,some 2] ⟨t12,(IntKind.i64.wrap (o6_1+1)),rfl,h⟩ (Nat.lt_succ_self _)
    ·refine ww ?_
     cases h
     exact eM [some 1] rfl
 rintro _ rfl
 clear ho
 refine ww ?_
 cases h
 exact eF [some 0]
def F15_l4(x0:TStore)(x1:Watcher)(x2:Int):Nat→(List Object)→Int→(List Event)→Int→Option ((Int×(List Event)×Int) ⊕ (Int×(List Event)))
 |0,_,_,_,_=>none
 |k+1,o4_0,o4_1,o4_2,o4_3=>(if o4_3<(x0.History.length:Int)then(((rdI x0.History o4_3).bind fun y7=>(F40 x1.Filter o4_0 y7).bind fun t8=>(F41 o4_0 y7).bind fun t9=>(if t8=0 then some (Sum.inr ((t9,o4_1,o4_2)))else(apI o4_2 ([(⟨t8,y7.Rev,y7.Object⟩:Event)])).bind fun a11=>(if x2≤(a11.length:Int)then((some ((y7.Rev,a11,0))).map Sum.inl).map Sum.inl else some (Sum.inr ((t9,y7.Rev,a11))))):Option (((Int×(List Event)×Int) ⊕ (Int×(List Event))) ⊕ ((List Object)×Int×(List Event)))).bind fun o6=>match o6 with|Sum.inl f=>some f|Sum.inr po6=>F15_l4 x0 x1 x2 k po6.1 po6.2.1 po6.2.2 ((IntKind.i64.wrap (o4_3+1))))else some (Sum.inr ((o4_1,o4_2))))
def F15(x0:TStore)(x1:Watcher)(x2:Int):Option (Int×(List Event)×Int):=(F36 x0 x1.Filter x1.Rev).bind fun t1=>(if¬(t1=0)then some ((x1.Rev,[],t1))else(F39 x0 x1.Rev).bind fun t3=>((F15_l4 x0 x1 x2 1099511627776 t3.1 x1.Rev ([]) ((IntKind.i64.wrap (x1.Rev-x0.Floor))):Option ((Int×(List Event)×Int) ⊕ (Int×(List Event)))).bind fun o4=>match o4 with|Sum.inl f=>some f|Sum.inr po4=>(((if po4.1<x0.Rev then(apI po4.2 ([(⟨4,x0.Rev,(⟨(⟨(⟨#[]⟩:ByteArray),(⟨#[]⟩:ByteArray),(⟨#[]⟩:ByteArray),0,0,0,0,false,0,[],[],[],[]⟩:Meta),(⟨0,0,(⟨#[]⟩:ByteArray),[],[]⟩:TValue),(⟨0,0,(⟨#[]⟩:ByteArray),[],[]⟩:TValue)⟩:Object)⟩:Event)])).bind fun a15=>some a15 else some po4.2)).bind fun o13=>some ((x0.Rev,o13,0)))))
def a15:AFn:=⟨97,[(.cell 6 (some 4)),(.tmp 7),(.tmp 8)],
 (.seq (.reg [sq 3 (.box (.t 0)),
sq 4 (.box (.t 1)),
sq 6 (.zbox [dS ⟨#[]⟩,dS ⟨#[]⟩,dN,dI 0]),
sq 7 (.mv kN),
sq 8 (.mv (kI 0))])
 (.seq (.reg [sq 17 (.load (some 6) (.t 3)),
sq 18 (.fieldA 0 (.t 4)),
sq 19 (.load (some 3) (.t 18)),
sq 20 (.fieldA 3 (.t 4)),
sq 21 (.load none (.t 20)),
sq 22 (.call 36 [(.t 17),(.t 19),(.t 21)]),
sq 9 (.mv (.t 22))])
 (.seq (.seq (.reg [sq 23 (.mv (.t 9)),
sq 24 (.bin .neq (.t 23) (kI 0))])
 (.cond (.t 24)
 (.seq (.reg [sq 25 (.load (some 4) (.t 4)),
sq 26 (.mv (.t 9)),
su (.store 4 (.t 6) (.t 25)),
sq 7 (.mv kN),
sq 8 (.mv (.t 26))])
 .ret)
 .skip))
 (.seq (.reg [sq 28 (.load (some 6) (.t 3)),
sq 29 (.fieldA 3 (.t 4)),
sq 30 (.load none (.t 29)),
sq 31 (.call 39 [(.t 28),(.t 30)]),
sq 27 (.mv (.t 31)),
sq 32 (.ext (.t 27) 0),
sq 33 (.ext (.t 27) 1),
sq 10 (.mv (.t 32)),
sq 11 (.mv (.t 33))])
 (.seq (.reg [sq 34 (.fieldA 3 (.t 4)),
sq 35 (.load none (.t 34)),
sq 12 (.mv (.t 35))])
 (.seq (.reg [sq 13 (.mv kN)])
 (.seq (.seq (.reg [sq 36 (.fieldA 3 (.t 4)),
sq 37 (.load none (.t 36)),
sq 38 (.fieldA 1 (.t 3)),
sq 39 (.load none (.t 38)),
sq 40 (.bin .sub (.t 37) (.t 39)),
sq 14 (.mv (.t 40))])
 (.sem (.block 0 (.loop (.seq (.seq (.reg [sq 41 (.mv (.t 14)),
sq 42 (.fieldA 5 (.t 3)),
sq 43 (.load none (.t 42)),
sq 44 (.len (.t 43)),
sq 45 (.bin .lss (.t 41) (.t 44))])
 (.cond (.t 45)
 .skip
 (.exit 0)))
 (.seq (.sem (.block 1 (.seq (.reg [sq 48 (.fieldA 5 (.t 3)),
sq 49 (.load none (.t 48)),
sq 50 (.mv (.t 14)),
sq 51 (.indexA 25 (.t 49) (.t 50)),
sq 52 (.load (some 25) (.t 51)),
sq 15 (.zbox [dI 0,dI 0,dS ⟨#[]⟩,dS ⟨#[]⟩,dS ⟨#[]⟩,dI 0,dI 0,dI 0,dI 0,dB false,dI 0,dN,dN,dN,dN,dI 0,dI 0,dS ⟨#[]⟩,dN,dN,dI 0,dI 0,dS ⟨#[]⟩,dN,dN]),
su (.store 25 (.t 15) (.t 52))])
 (.seq (.reg [sq 53 (.fieldA 0 (.t 4)),
sq 54 (.load (some 3) (.t 53)),
sq 55 (.mv (.t 10)),
sq 56 (.load (some 25) (.t 15)),
sq 57 (.call 40 [(.t 54),(.t 55),(.t 56)]),
sq 16 (.mv (.t 57))])
 (.seq (.reg [sq 58 (.mv (.t 10)),
sq 59 (.load (some 25) (.t 15)),
sq 60 (.call 41 [(.t 58),(.t 59)]),
sq 10 (.mv (.t 60))])
 (.seq (.seq (.reg [sq 61 (.mv (.t 16)),
sq 62 (.bin .eql (.t 61) (kI 0))])
 (.cond (.t 62)
 (.exit 1)
 .skip))
 (.seq (.reg [sq 63 (.mv (.t 13)),
sq 64 (.mv (.t 16)),
sq 65 (.fieldA 0 (.t 15)),
sq 66 (.load none (.t 65)),
sq 67 (.fieldA 2 (.t 15)),
sq 68 (.load (some 23) (.t 67)),
sq 69 (.build [dI 0,dI 0,dS ⟨#[]⟩,dS ⟨#[]⟩,dS ⟨#[]⟩,dI 0,dI 0,dI 0,dI 0,dB false,dI 0,dN,dN,dN,dN,dI 0,dI 0,dS ⟨#[]⟩,dN,dN,dI 0,dI 0,dS ⟨#[]⟩,dN,dN] [(0,1,(.t 64)),(1,1,(.t 66)),(2,23,(.t 68))]),
sq 70 (.bslice 25 [(.t 69)]),
sq 71 (.app 25 368 (.t 63) (.t 70)),
sq 13 (.mv (.t 71))])
 (.seq (.reg [sq 72 (.fieldA 0 (.t 15)),
sq 73 (.load none (.t 72)),
sq 12 (.mv (.t 73))])
 (.seq (.reg [sq 74 (.mv (.t 13)),
sq 75 (.len (.t 74)),
sq 76 (.mv (.t 2)),
sq 77 (.bin .geq (.t 75) (.t 76))])
 (.cond (.t 77)
 (.seq (.reg [sq 78 (.mv (.t 12)),
sq 79 (.fieldA 3 (.t 4)),
⟨none,none,.store 1 (.t 79) (.t 78),[],(.lone [4])⟩])
 (.seq (.reg [sq 80 (.load (some 4) (.t 4)),
sq 81 (.mv (.t 13)),
su (.store 4 (.t 6) (.t 80)),
sq 7 (.mv (.t 81)),
sq 8 (.mv (kI 0))])
 .ret))
 .skip))))))))))
 (.reg [sq 46 (.mv (.t 14)),
sq 47 (.bin .add (.t 46) (kI 1)),
sq 14 (.mv (.t 47))])))))))
 (.seq (.sem (.seq (.reg [sq 82 (.fieldA 0 (.t 3)),
sq 83 (.load none (.t 82)),
sq 84 (.mv (.t 12)),
sq 85 (.bin .gtr (.t 83) (.t 84))])
 (.cond (.t 85)
 (.reg [sq 86 (.mv (.t 13)),
sq 87 (.fieldA 0 (.t 3)),
sq 88 (.load none (.t 87)),
sq 89 (.build [dI 0,dI 0,dS ⟨#[]⟩,dS ⟨#[]⟩,dS ⟨#[]⟩,dI 0,dI 0,dI 0,dI 0,dB false,dI 0,dN,dN,dN,dN,dI 0,dI 0,dS ⟨#[]⟩,dN,dN,dI 0,dI 0,dS ⟨#[]⟩,dN,dN] [(0,1,(kI 4)),(1,1,(.t 88))]),
sq 90 (.bslice 25 [(.t 89)]),
sq 91 (.app 25 368 (.t 86) (.t 90)),
sq 13 (.mv (.t 91))])
 .skip)))
 (.seq (.reg [sq 92 (.fieldA 0 (.t 3)),
sq 93 (.load none (.t 92)),
sq 94 (.fieldA 3 (.t 4)),
⟨none,none,.store 1 (.t 94) (.t 93),[],(.lone [3,92,4])⟩])
 (.seq (.reg [sq 95 (.load (some 4) (.t 4)),
sq 96 (.mv (.t 13)),
su (.store 4 (.t 6) (.t 95)),
sq 7 (.mv (.t 96)),
sq 8 (.mv (kI 0))])
 .ret))))))))))⟩
theorem a15_ok:afn Tryz.prog 15=some a15.er:=by kernel_rfl
theorem F15_ok{x0 x1 x2 r}(h:F15 x0 x1 x2=some r):CallD Tryz.prog 15 [.agg [dI x0.Rev,dI x0.Floor,dI x0.NextUid,dM (x0.Base.map eObject),dM (x0.Objects.map eObject),dM (x0.History.map eChange)],.agg [dS x1.Filter.Kind,dS x1.Filter.Namespace,dM (x1.Filter.Selector.map eRequirement),dI x1.Rev],.c (dI x2)] [] (tupV [.agg [dS x1.Filter.Kind,dS x1.Filter.Namespace,dM (x1.Filter.Selector.map eRequirement),dI r.1],.c (.own 0 0 0 (r.2.1.length) none),.c (dI r.2.2)]) [some (.arr 0 25 (r.2.1.map eEvent))]:=by
 refine callS a15_ok (by simp[a15]) ?_
 rw[F15]at h
 simp only[a15,VW.down,Nat.reduceEqDiff,reduceCtorEq,Nat.reduceAdd,Nat.reduceLeDiff,Nat.reduceLT,Nat.reduceBEq,Nat.reduceSub,EE.down]
 obtain⟨t1,ht1,h⟩:=bi h
 refine cN [] (F36_ok ht1) trivial (ww ?_)
 refine condSh h (fun c2 h=>?_) (fun c2 h=>?_)
 ·refine ww ?_
  cases h
  exact eF [none]
 refine ww ?_
 obtain⟨t3,ht3,h⟩:=bi h
 refine cN [] (F39_ok ht3) trivial (ww ?_)
 obtain⟨o4,ho,h⟩:=bi h
 refine cutS (fun s=>∃po4,o4=Sum.inr po4∧s=⟨[(3,.one (.c (.pt 0 0))),(4,.one (.c (.pt 1 0))),(6,.one (.c (.pt 2 0))),(12,.one (.c (dI po4.1))),(13,.one (.c (.own 3 0 0 (po4.2.length) none)))],[some (.box [dI x0.Rev,dI x0.Floor,dI x0.NextUid,dM (x0.Base.map eObject),dM (x0.Objects.map eObject),dM (x0.History.map eChange)]),some (.box [dS x1.Filter.Kind,dS x1.Filter.Namespace,dM (x1.Filter.Selector.map eRequirement),dI x1.Rev]),some (.box [dS ((⟨#[]⟩:ByteArray)),dS ((⟨#[]⟩:ByteArray)),dN,dI 0]),some (.arr 0 25 (po4.2.map eEvent))]⟩) ?_ ?_
 ·have h0o4:=h
  have h:=ho
  clear ho
  refine ww ?_
  refine bL (fun j s=>∃(o4_0:List Object) (o4_1:Int) (o4_2:List Event) (o4_3:Int),s=⟨[(2,.one (.c (dI x2))),(3,.one (.c (.pt 0 0))),(4,.one (.c (.pt 1 0))),(6,.one (.c (.pt 2 0))),(10,.one (.c (.own 3 0 0 (o4_0.length) none))),(12,.one (.c (dI o4_1))),(13,.one (.c (.own 4 0 0 (o4_2.length) none))),(14,.one (.c (dI o4_3)))],[some (.box [dI x0.Rev,dI x0.Floor,dI x0.NextUid,dM (x0.Base.map eObject),dM (x0.Objects.map eObject),dM (x0.History.map eChange)]),some (.box [dS x1.Filter.Kind,dS x1.Filter.Namespace,dM (x1.Filter.Selector.map eRequirement),dI x1.Rev]),some (.box [dS ((⟨#[]⟩:ByteArray)),dS ((⟨#[]⟩:ByteArray)),dN,dI 0]),some (.arr 0 23 (o4_0.map eObject)),some (.arr 0 25 (o4_2.map eEvent))]⟩∧F15_l4 x0 x1 x2 j o4_0 o4_1 o4_2 o4_3=some o4) 1099511627776 [some 0,some 1,some 2,some 3,none] ⟨t3.1,x1.Rev,[],(IntKind.i64.wrap (x1.Rev-x0.Floor)),rfl,h⟩ ?_
  rintro j _ ⟨o4_0,o4_1,o4_2,o4_3,rfl,h⟩
  cases j with
  |zero=>cases(show(none:Option _)=some _ from h)
  |succ j=>
   rw[F15_l4]at h
   refine ww ?_
   refine condSh h (fun c5 h=>?_) (fun c5 h=>?_)
   ·refine ww ?_
    obtain⟨o6,ho,h⟩:=bi h
    refine cutS (fun s=>∃po6,o6=Sum.inr po6∧s=⟨[(2,.one (.c (dI x2))),(3,.one (.c (.pt 0 0))),(4,.one (.c (.pt 1 0))),(6,.one (.c (.pt 2 0))),(10,.one (.c (.own 3 0 0 (po6.1.length) none))),(12,.one (.c (dI po6.2.1))),(13,.one (.c (.own 4 0 0 (po6.2.2.length) none))),(14,.one (.c (dI o4_3)))],[some (.box [dI x0.Rev,dI x0.Floor,dI x0.NextUid,dM (x0.Base.map eObject),dM (x0.Objects.map eObject),dM (x0.History.map eChange)]),some (.box [dS x1.Filter.Kind,dS x1.Filter.Namespace,dM (x1.Filter.Selector.map eRequirement),dI x1.Rev]),some (.box [dS ((⟨#[]⟩:ByteArray)),dS ((⟨#[]⟩:ByteArray)),dN,dI 0]),some (.arr 0 23 (po6.1.map eObject)),some (.arr 0 25 (po6.2.2.map eEvent))]⟩) ?_ ?_
    ·have h0o6:=h
     have h:=ho
     clear ho
     refine ww ?_
     obtain⟨y7,hy7,h⟩:=bi h
     refine t_idxF (enc:=eChange) (xs:=x0.History) rfl rfl hy7 rfl (ww ?_)
     obtain⟨t8,ht8,h⟩:=bi h
     refine callX_bor (F40_ok ht8) (by simp only[borAs,bors,hp,List.getElem?_cons_zero,List.getElem?_cons_succ,Option.join_some,List.drop_zero,bor_full',true_and,Nat.zero_add,List.length_map,Nat.le_refl,nrm,List.length_cons,List.length_nil,Nat.reduceAdd,Nat.reduceLeDiff,List.take_succ_cons,List.take_zero,List.take_nil,List.map_cons,List.map_nil,List.length_set,EE.down]) rfl ?_
     refine ww ?_
     obtain⟨t9,ht9,h⟩:=bi h
     refine callX_gen (as1:=[.c (dM (o4_0.map eObject)),.agg [dI y7.Rev,dI y7.Kind,dS y7.Object.Meta.Kind,dS y7.Object.Meta.Namespace,dS y7.Object.Meta.Name,dI y7.Object.Meta.Uid,dI y7.Object.Meta.Version,dI y7.Object.Meta.Generation,dI y7.Object.Meta.Created,dB y7.Object.Meta.Deleting,dI y7.Object.Meta.DeleteAt,dM (y7.Object.Meta.Labels.map eLabel),dM (y7.Object.Meta.Owners.map eOwner),dM (y7.Object.Meta.Finalizers.map eS),dM (y7.Object.Meta.Managers.map eManager),dI y7.Object.Spec.Kind,dI y7.Object.Spec.N,dS y7.Object.Spec.S,dM (y7.Object.Spec.List_.map eTValue),dM (y7.Object.Spec.Fields.map eTField),dI y7.Object.Status.Kind,dI y7.Object.Status.N,dS y7.Object.Status.S,dM (y7.Object.Status.List_.map eTValue),dM (y7.Object.Status.Fields.map eTField)]]) [(3,.arr 1 23 [])] [some 0,some 1,some 2,none,some 4,some 5] [] (F41_ok ht9) ⟨?_,rfl,?_⟩ ?_ ?_ ?_ ?_ ?_ ?_ ?_ ?_
     ·simp only[ZZ.down,Nat.reduceEqDiff,reduceCtorEq,Nat.reduceAdd,Nat.reduceLeDiff,Nat.reduceLT,Nat.reduceBNe,EE.down]
     ·simp only[ZZ.down,Nat.reduceEqDiff,reduceCtorEq,Nat.reduceAdd,Nat.reduceLeDiff,Nat.reduceLT,Nat.reduceBNe,EE.down]
     ·simp only[ZZ.down,Nat.reduceEqDiff,reduceCtorEq,Nat.reduceAdd,Nat.reduceLeDiff,Nat.reduceLT,Nat.reduceBNe,EE.down]
     ·rfl
     ·rfl
     ·simp[liveAll,A1.live,C.live]
     ·rfl
     ·decide
     ·exact trivial
     refine ww ?_
     refine condSh h (fun c10 h=>?_) (fun c10 h=>?_)
     ·refine ww ?_
      cases h
      exact eM [some 0,some 1,some 2,some 6,some 4] ⟨_,rfl,rfl⟩
     ·refine ww ?_
      refine t_bslice (enc:=eEvent) (ys:=[(⟨t8,y7.Rev,y7.Object⟩:Event)]) rfl rfl (by simp[A1.cells]) (by first|rfl|(simp only[List.drop_zero,take_mapL];rfl)|(simp only[lit,List.map_cons,List.map_nil,List.drop_zero,take_mapL,EE.down];done)|(simp only[lit,List.map_cons,List.map_nil,List.drop_zero,take_mapL,EE.down];rfl)) (ww ?_)
      obtain⟨a11,ha11,h⟩:=bi h
      refine t_app (enc:=eEvent) (xs:=o4_2) rfl rfl (by first|rfl|simp only[List.length_set]|exact(clrL_len (slI_len (by assumption))).symm) rfl (rows_full (enc:=eEvent) (by first|rfl|simp only[List.length_set]|exact(clrL_len (slI_len (by assumption))).symm) rfl) ha11 (ww ?_)
      refine condSh h (fun c12 h=>?_) (fun c12 h=>?_)
      ·refine ww ?_
       obtain⟨fh0o6,hfh0o6,rfl⟩:=Option.map_eq_some_iff.1 h
       have h:=hfh0o6.trans h0o6
       obtain⟨fh0o4,hfh0o4,rfl⟩:=Option.map_eq_some_iff.1 h
       have h:=hfh0o4.trans h0o4
       cases h
       exact eF [some 4]
      ·refine ww ?_
       cases h
       exact eM [some 0,some 1,some 2,some 6,some 4] ⟨_,rfl,rfl⟩
    ·rintro _ ⟨po6,rfl,rfl⟩
     clear ho
     dsimp only at h
     refine ww ?_
     exact eL' j [some 0,some 1,some 2,some 3,some 4] ⟨po6.1,po6.2.1,po6.2.2,(IntKind.i64.wrap (o4_3+1)),rfl,h⟩ (Nat.lt_succ_self _)
   ·refine ww ?_
    cases h
    exact eM [some 0,some 1,some 2,some 4] ⟨_,rfl,rfl⟩
 rintro _ ⟨po4,rfl,rfl⟩
 clear ho
 dsimp only at h
 refine ww ?_
 obtain⟨o13,ho,h⟩:=bi h
 refine cutS (fun s=>s=⟨[(3,.one (.c (.pt 0 0))),(4,.one (.c (.pt 1 0))),(6,.one (.c (.pt 2 0))),(13,.one (.c (.own 3 0 0 (o13.length) none)))],[some (.box [dI x0.Rev,dI x0.Floor,dI x0.NextUid,dM (x0.Base.map eObject),dM (x0.Objects.map eObject),dM (x0.History.map eChange)]),some (.box [dS x1.Filter.Kind,dS x1.Filter.Namespace,dM (x1.Filter.Selector.map eRequirement),dI x1.Rev]),some (.box [dS ((⟨#[]⟩:ByteArray)),dS ((⟨#[]⟩:ByteArray)),dN,dI 0]),some (.arr 0 25 (o13.map eEvent))]⟩) ?_ ?_
 ·have h:=ho
  clear ho
  refine ww ?_
  refine condSh h (fun c14 h=>?_) (fun c14 h=>?_)
  ·refine ww ?_
   refine t_bslice (enc:=eEvent) (ys:=[(⟨4,x0.Rev,(⟨(⟨(⟨#[]⟩:ByteArray),(⟨#[]⟩:ByteArray),(⟨#[]⟩:ByteArray),0,0,0,0,false,0,[],[],[],[]⟩:Meta),(⟨0,0,(⟨#[]⟩:ByteArray),[],[]⟩:TValue),(⟨0,0,(⟨#[]⟩:ByteArray),[],[]⟩:TValue)⟩:Object)⟩:Event)]) rfl rfl (by simp[A1.cells]) (by first|rfl|(simp only[List.drop_zero,take_mapL];rfl)|(simp only[lit,List.map_cons,List.map_nil,List.drop_zero,take_mapL,EE.down];done)|(simp only[lit,List.map_cons,List.map_nil,List.drop_zero,take_mapL,EE.down];rfl)) (ww ?_)
   obtain⟨a15,ha15,h⟩:=bi h
   refine t_app (enc:=eEvent) (xs:=po4.2) rfl rfl (by first|rfl|simp only[List.length_set]|exact(clrL_len (slI_len (by assumption))).symm) rfl (rows_full (enc:=eEvent) (by first|rfl|simp only[List.length_set]|exact(clrL_len (slI_len (by assumption))).symm) rfl) ha15 (ww ?_)
   cases h
   exact eM [some 0,some 1,some 2,some 3] rfl
  refine ww ?_
  cases h
  exact eM [some 0,some 1,some 2,some 3] rfl
 rintro _ rfl
 clear ho
 refine ww ?_
 cases h
 exact eF [some 3]
def F3_l12(x1:Watcher):List TOp→Nat→Option ((Bool) ⊕ (Unit))
 |[],o12_0=>some (Sum.inr (()))
 |xo12::xs,o12_0=>(F16 x1.Filter xo12.O).bind fun t14=>(F17 x1.Filter xo12.O).bind fun t15=>(if(((t14==t15)!=true))=true then(some false).map Sum.inl else F3_l12 x1 xs (o12_0+1))
def F3(x0:(List TOp))(x1:Watcher)(x2:Int):Option (Bool):=(((F8 x0).bind fun t2=>(if(nb t2)=true then some true else(F9 x1.Filter).bind fun t4=>some (nb t4))).bind fun o1=>(if o1=true then(F10).bind fun t6=>some t6 else(F11 x0).bind fun t7=>(F12 ((⟨(t7).Rev,(t7).Floor,(t7).NextUid,(t7).Base,(t7).Objects,(t7).History⟩:TStore)) x1.Filter x1.Rev).bind fun t8=>(F13 ((⟨(t7).Rev,(t7).Floor,(t7).NextUid,(t7).Base,(t7).Objects,(t7).History⟩:TStore)) x1.Filter x1.Rev).bind fun t9=>(F14 ((⟨(t7).Rev,(t7).Floor,(t7).NextUid,(t7).Base,(t7).Objects,(t7).History⟩:TStore)) x1 x2).bind fun t10=>(F15 ((⟨(t7).Rev,(t7).Floor,(t7).NextUid,(t7).Base,(t7).Objects,(t7).History⟩:TStore)) x1 x2).bind fun t11=>(((ck (0≤x0.length∧x0.length≤4294967290)).bind fun u17=>F3_l12 x1 x0 0:Option ((Bool) ⊕ (Unit))).bind fun o12=>match o12 with|Sum.inl f=>some f|Sum.inr po12=>(((F10).bind fun t19=>(if t19=true then(if t8.2.2.2.2=t9.2 then(if t10.2.2.2=t11.2.2 then(F18 ((⟨(⟨t8.1,t8.2.1,t8.2.2.1⟩:Filter),t8.2.2.2.1⟩:Watcher)) ((⟨(⟨(t9.1).Filter.Kind,(t9.1).Filter.Namespace,(t9.1).Filter.Selector⟩:Filter),(t9.1).Rev⟩:Watcher))).bind fun t23=>(if t23=true then(F18 ((⟨(⟨x1.Filter.Kind,x1.Filter.Namespace,t10.1⟩:Filter),t10.2.1⟩:Watcher)) ((⟨x1.Filter,t11.1⟩:Watcher))).bind fun t25=>(if t25=true then(F19 t10.2.2.1 t11.2.1).bind fun t27=>some t27 else some false)else some false)else some false)else some false)else some false)).bind fun o18=>some o18))))
def a3:AFn:=⟨114,[(.tmp 6)],
 (.seq (.reg [sq 4 (.box (.t 1)),
sq 6 (.mv (kB false))])
 (.seq (.seq (.sem (.reg [sq 19 (.mv (.t 0)),
sq 20 (.call 8 [(.t 19)]),
sq 21 (.not (.t 20)),
sq 22 (.mv (.t 21)),
zg 23 22 false (.fieldA 0 (.t 4)),
zg 24 22 false (.load (some 3) (.t 23)),
zg 25 22 false (.call 9 [(.t 24)]),
zg 26 22 false (.not (.t 25)),
sq 27 (.pick (.t 22) (kB true) (.t 26))]))
 (.cond (.t 27)
 (.seq (.reg [sq 28 (.call 10 []),
sq 6 (.mv (.t 28))])
 .ret)
 .skip))
 (.seq (.reg [sq 29 (.mv (.t 0)),
sq 30 (.call 11 [(.t 29)]),
sq 7 (.zbox [dI 0,dI 0,dI 0,dN,dN,dN]),
su (.store 6 (.t 7) (.t 30))])
 (.seq (.reg [sq 32 (.load (some 6) (.t 7)),
sq 33 (.fieldA 0 (.t 4)),
sq 34 (.load (some 3) (.t 33)),
sq 35 (.fieldA 3 (.t 4)),
sq 36 (.load none (.t 35)),
sq 37 (.call 12 [(.t 32),(.t 34),(.t 36)]),
sq 31 (.mv (.t 37)),
sq 38 (.ext (.t 31) 0),
sq 39 (.ext (.t 31) 1),
sq 8 (.zbox [dS ⟨#[]⟩,dS ⟨#[]⟩,dN,dI 0]),
su (.store 4 (.t 8) (.t 38)),
sq 9 (.mv (.t 39))])
 (.seq (.reg [sq 41 (.load (some 6) (.t 7)),
sq 42 (.fieldA 0 (.t 4)),
sq 43 (.load (some 3) (.t 42)),
sq 44 (.fieldA 3 (.t 4)),
sq 45 (.load none (.t 44)),
sq 46 (.call 13 [(.t 41),(.t 43),(.t 45)]),
sq 40 (.mv (.t 46)),
sq 47 (.ext (.t 40) 0),
sq 48 (.ext (.t 40) 1),
sq 10 (.zbox [dS ⟨#[]⟩,dS ⟨#[]⟩,dN,dI 0]),
su (.store 4 (.t 10) (.t 47)),
sq 11 (.mv (.t 48))])
 (.seq (.reg [sq 50 (.load (some 6) (.t 7)),
sq 51 (.load (some 4) (.t 4)),
sq 52 (.mv (.t 2)),
sq 53 (.call 14 [(.t 50),(.t 51),(.t 52)]),
sq 49 (.mv (.t 53)),
sq 54 (.ext (.t 49) 0),
sq 55 (.ext (.t 49) 1),
sq 56 (.ext (.t 49) 2),
sq 12 (.zbox [dS ⟨#[]⟩,dS ⟨#[]⟩,dN,dI 0]),
su (.store 4 (.t 12) (.t 54)),
sq 13 (.mv (.t 55)),
sq 14 (.mv (.t 56))])
 (.seq (.reg [sq 58 (.load (some 6) (.t 7)),
sq 59 (.load (some 4) (.t 4)),
sq 60 (.mv (.t 2)),
sq 61 (.call 15 [(.t 58),(.t 59),(.t 60)]),
sq 57 (.mv (.t 61)),
sq 62 (.ext (.t 57) 0),
sq 63 (.ext (.t 57) 1),
sq 64 (.ext (.t 57) 2),
sq 15 (.zbox [dS ⟨#[]⟩,dS ⟨#[]⟩,dN,dI 0]),
su (.store 4 (.t 15) (.t 62)),
sq 16 (.mv (.t 63)),
sq 17 (.mv (.t 64))])
 (.seq (.seq (.reg [sq 18 (.mv (kI 0))])
 (.sem (.block 0 (.loop (.seq (.seq (.reg [sq 65 (.mv (.t 18)),
sq 66 (.mv (.t 0)),
sq 67 (.len (.t 66)),
sq 68 (.bin .lss (.t 65) (.t 67))])
 (.cond (.t 68)
 .skip
 (.exit 0)))
 (.seq (.block 1 (.seq (.regd [sq 71 (.fieldA 0 (.t 4)),
sd 72 (.load (some 3) (.t 71)) [0],
sq 73 (.mv (.t 0)),
sq 74 (.mv (.t 18)),
sd 75 (.indexA 28 (.t 73) (.t 74)) [2,3],
sd 76 (.fieldA 1 (.t 75)) [2,3,4],
sd 77 (.load (some 23) (.t 76)) [2,3,4,5],
zn 78 (.call 16 [(.t 72),(.t 77)]) [0,1,2,3,4,5,6] [0,1,2,3,4,5,6],
sq 79 (.fieldA 0 (.t 4)),
sd 80 (.load (some 3) (.t 79)) [8],
sq 81 (.mv (.t 0)),
sq 82 (.mv (.t 18)),
sd 83 (.indexA 28 (.t 81) (.t 82)) [10,11],
sd 84 (.fieldA 1 (.t 83)) [10,11,12],
sd 85 (.load (some 23) (.t 84)) [10,11,12,13],
zl 86 (.call 17 [(.t 80),(.t 85)]) [0,1,2,3,4,5,6,7,8,9,10,11,12,13,14] [],
sd 87 (.beq true (.t 78) (.t 86)) [0,1,2,3,4,5,6,7,8,9,10,11,12,13,14,15]])
 (.cond (.t 87)
 (.seq (.reg [sq 6 (.mv (kB false))])
 .ret)
 .skip)))
 (.reg [sq 69 (.mv (.t 18)),
sq 70 (.bin .add (.t 69) (kI 1)),
sq 18 (.mv (.t 70))])))))))
 (.seq (.sem (.reg [sq 88 (.call 10 []),
sq 89 (.mv (.t 88)),
zg 90 89 true (.mv (.t 9)),
zg 91 89 true (.mv (.t 11)),
zg 92 89 true (.bin .eql (.t 90) (.t 91)),
sq 93 (.pick (.t 89) (.t 92) (kB false)),
sq 94 (.mv (.t 93)),
zg 95 94 true (.mv (.t 14)),
zg 96 94 true (.mv (.t 17)),
zg 97 94 true (.bin .eql (.t 95) (.t 96)),
sq 98 (.pick (.t 94) (.t 97) (kB false)),
sq 99 (.mv (.t 98)),
zg 100 99 true (.load (some 4) (.t 8)),
zg 101 99 true (.load (some 4) (.t 10)),
zg 102 99 true (.call 18 [(.t 100),(.t 101)]),
sq 103 (.pick (.t 99) (.t 102) (kB false)),
sq 104 (.mv (.t 103)),
zg 105 104 true (.load (some 4) (.t 12)),
zg 106 104 true (.load (some 4) (.t 15)),
zg 107 104 true (.call 18 [(.t 105),(.t 106)]),
sq 108 (.pick (.t 104) (.t 107) (kB false)),
sq 109 (.mv (.t 108)),
zg 110 109 true (.mv (.t 13)),
zg 111 109 true (.mv (.t 16)),
zg 112 109 true (.call 19 [(.t 110),(.t 111)]),
sq 113 (.pick (.t 109) (.t 112) (kB false)),
sq 6 (.mv (.t 113))]))
 .ret)))))))))⟩
theorem a3_ok:afn Tryz.prog 3=some a3.er:=by kernel_rfl
theorem F3_ok{x0 x1 x2 r}(h:F3 x0 x1 x2=some r):CallD Tryz.prog 3 [.c (dM (x0.map eTOp)),.agg [dS x1.Filter.Kind,dS x1.Filter.Namespace,dM (x1.Filter.Selector.map eRequirement),dI x1.Rev],.c (dI x2)] [] (tupV [.c (dB r)]) []:=by
 refine callS a3_ok (by simp[a3]) ?_
 rw[F3]at h
 simp only[a3,VW.down,Nat.reduceEqDiff,reduceCtorEq,Nat.reduceAdd,Nat.reduceLeDiff,Nat.reduceLT,Nat.reduceBEq,Nat.reduceSub,EE.down]
 obtain⟨o1,ho,h⟩:=bi h
 refine cutS (fun s=>s=⟨[(0,.one (.c (dM (x0.map eTOp)))),(2,.one (.c (dI x2))),(4,.one (.c (.pt 0 0))),(27,.one (.c (dB o1)))],[some (.box [dS x1.Filter.Kind,dS x1.Filter.Namespace,dM (x1.Filter.Selector.map eRequirement),dI x1.Rev])]⟩) ?_ ?_
 ·have h:=ho
  clear ho
  refine ww ?_
  obtain⟨t2,ht2,h⟩:=bi h
  refine cN [] (F8_ok ht2) trivial (ww ?_)
  refine guardSBh h (fun g3 h=>?_) (fun g3 h=>?_)
  ·refine ww ?_
   cases h
   exact eM [some 0] rfl
  refine ww ?_
  obtain⟨t4,ht4,h⟩:=bi h
  refine cN [] (F9_ok ht4) trivial (ww ?_)
  cases h
  exact eM [some 0] rfl
 rintro _ rfl
 clear ho
 refine ww ?_
 refine condBh h (fun c5 h=>?_) (fun c5 h=>?_)
 ·refine ww ?_
  obtain⟨t6,ht6,h⟩:=bi h
  refine cN [] (F10_ok ht6) trivial (ww ?_)
  cases h
  exact eF []
 refine ww ?_
 obtain⟨t7,ht7,h⟩:=bi h
 refine cN [] (F11_ok ht7) trivial (ww ?_)
 obtain⟨t8,ht8,h⟩:=bi h
 refine cN [] (F12_ok ht8) trivial (ww ?_)
 obtain⟨t9,ht9,h⟩:=bi h
 refine cN [] (F13_ok ht9) trivial (ww ?_)
 obtain⟨t10,ht10,h⟩:=bi h
 refine cN [] (F14_ok ht10) trivial (ww ?_)
 obtain⟨t11,ht11,h⟩:=bi h
 refine cN [] (F15_ok ht11) trivial (ww ?_)
 obtain⟨o12,ho,h⟩:=bi h
 refine cutS (fun s=>∃po12,o12=Sum.inr po12∧s=⟨[(8,.one (.c (.pt 0 0))),(9,.one (.c (dI t8.2.2.2.2))),(10,.one (.c (.pt 2 0))),(11,.one (.c (dI t9.2))),(12,.one (.c (.pt 3 0))),(13,.one (.c (.own 5 0 0 (t10.2.2.1.length) none))),(14,.one (.c (dI t10.2.2.2))),(15,.one (.c (.pt 6 0))),(16,.one (.c (.own 7 0 0 (t11.2.1.length) none))),(17,.one (.c (dI t11.2.2)))],[some (.box [dS t8.1,dS t8.2.1,.own 1 0 0 (t8.2.2.1.length) none,dI t8.2.2.2.1]),some (.arr 0 3 (t8.2.2.1.map eRequirement)),some (.box [dS ((t9.1).Filter.Kind),dS ((t9.1).Filter.Namespace),dM (((t9.1).Filter.Selector).map eRequirement),dI ((t9.1).Rev)]),some (.box [dS x1.Filter.Kind,dS x1.Filter.Namespace,.own 4 0 0 (t10.1.length) none,dI t10.2.1]),some (.arr 0 3 (t10.1.map eRequirement)),some (.arr 0 25 (t10.2.2.1.map eEvent)),some (.box [dS x1.Filter.Kind,dS x1.Filter.Namespace,dM (x1.Filter.Selector.map eRequirement),dI t11.1]),some (.arr 0 25 (t11.2.1.map eEvent))]⟩) ?_ ?_
 ·have h0o12:=h
  have h:=ho
  clear ho
  obtain⟨_,hk,h⟩:=bi h
  have hk:=ck_some hk
  refine ww ?_
  refine bL (fun j s=>∃(o12_0:Nat),(o12_0≤x0.length∧j=x0.length-o12_0)∧s=⟨[(0,.one (.c (dM (x0.map eTOp)))),(4,.one (.c (.pt 0 0))),(8,.one (.c (.pt 1 0))),(9,.one (.c (dI t8.2.2.2.2))),(10,.one (.c (.pt 3 0))),(11,.one (.c (dI t9.2))),(12,.one (.c (.pt 4 0))),(13,.one (.c (.own 6 0 0 (t10.2.2.1.length) none))),(14,.one (.c (dI t10.2.2.2))),(15,.one (.c (.pt 7 0))),(16,.one (.c (.own 8 0 0 (t11.2.1.length) none))),(17,.one (.c (dI t11.2.2))),(18,.one (.c (dI ((o12_0:Int)))))],[some (.box [dS x1.Filter.Kind,dS x1.Filter.Namespace,dM (x1.Filter.Selector.map eRequirement),dI x1.Rev]),some (.box [dS t8.1,dS t8.2.1,.own 2 0 0 (t8.2.2.1.length) none,dI t8.2.2.2.1]),some (.arr 0 3 (t8.2.2.1.map eRequirement)),some (.box [dS ((t9.1).Filter.Kind),dS ((t9.1).Filter.Namespace),dM (((t9.1).Filter.Selector).map eRequirement),dI ((t9.1).Rev)]),some (.box [dS x1.Filter.Kind,dS x1.Filter.Namespace,.own 5 0 0 (t10.1.length) none,dI t10.2.1]),some (.arr 0 3 (t10.1.map eRequirement)),some (.arr 0 25 (t10.2.2.1.map eEvent)),some (.box [dS x1.Filter.Kind,dS x1.Filter.Namespace,dM (x1.Filter.Selector.map eRequirement),dI t11.1]),some (.arr 0 25 (t11.2.1.map eEvent))]⟩∧F3_l12 x1 (x0.drop o12_0) o12_0=some o12) (x0.length-0) [some 0,some 3,some 2,some 4,some 7,some 5,some 6,some 9,some 8] ⟨0,⟨hk.1,rfl⟩,rfl,h⟩ ?_
  rintro _ _ ⟨o12_0,⟨hi,rfl⟩,rfl,h⟩
  refine ww ?_
  refine condS (fun c13=>?_) (fun c13=>?_)
  ·obtain⟨xo12,hxo12,hd⟩:=countY (show(o12_0:Int)<(x0.length:Int)from c13)
   rw[hd,F3_l12]at h
   refine ww ?_
   refine t_idxF (enc:=eTOp) (xs:=x0) rfl rfl hxo12 rfl (ww ?_)
   obtain⟨t14,ht14,h⟩:=bi h
   refine cN [] (F16_ok ht14) trivial (ww ?_)
   refine t_idxF (enc:=eTOp) (xs:=x0) rfl rfl hxo12 rfl (ww ?_)
   obtain⟨t15,ht15,h⟩:=bi h
   refine cN [] (F17_ok ht15) trivial (ww ?_)
   refine condBh h (fun c16 h=>?_) (fun c16 h=>?_)
   ·refine ww ?_
    obtain⟨fh0o12,hfh0o12,rfl⟩:=Option.map_eq_some_iff.1 h
    have h:=hfh0o12.trans h0o12
    cases h
    exact eF []
   refine ww ?_
   rw[wrapN (by omega)]
   exact eL' (x0.length-(o12_0+1)) [some 0,some 1,some 2,some 3,some 4,some 5,some 6,some 7,some 8] ⟨o12_0+1,⟨by omega,rfl⟩,rfl,h⟩ (by omega)
  rw[countN (show¬((o12_0:Int)<(x0.length:Int))from c13),F3_l12]at h
  refine ww ?_
  cases h
  exact eM [some 1,some 2,some 3,some 4,some 5,some 6,some 7,some 8] ⟨_,rfl,rfl⟩
 rintro _ ⟨po12,rfl,rfl⟩
 clear ho
 dsimp only at h
 refine ww ?_
 obtain⟨o18,ho,h⟩:=bi h
 refine cutS (fun s=>s=⟨[(6,.one (.c (dB o18)))],[]⟩) ?_ ?_
 ·have h:=ho
  clear ho
  refine ww ?_
  obtain⟨t19,ht19,h⟩:=bi h
  refine cN [] (F10_ok ht19) trivial (ww ?_)
  refine guardSBh h (fun g20 h=>?_) (fun g20 h=>?_)
  ·refine ww ?_
   refine guardSh h (fun g21 h=>?_) (fun g21 h=>?_)
   ·refine ww ?_
    refine guardSh h (fun g22 h=>?_) (fun g22 h=>?_)
    ·refine ww ?_
     obtain⟨t23,ht23,h⟩:=bi h
     refine callX_bor (F18_ok ht23) (by simp only[borAs,bors,hp,List.getElem?_cons_zero,List.getElem?_cons_succ,Option.join_some,List.drop_zero,bor_full',true_and,Nat.zero_add,List.length_map,Nat.le_refl,nrm,List.length_cons,List.length_nil,Nat.reduceAdd,Nat.reduceLeDiff,List.take_succ_cons,List.take_zero,List.take_nil,List.map_cons,List.map_nil,List.length_set,EE.down]) rfl ?_
     refine ww ?_
     refine guardSBh h (fun g24 h=>?_) (fun g24 h=>?_)
     ·refine ww ?_
      obtain⟨t25,ht25,h⟩:=bi h
      refine callX_bor (F18_ok ht25) (by simp only[borAs,bors,hp,List.getElem?_cons_zero,List.getElem?_cons_succ,Option.join_some,List.drop_zero,bor_full',true_and,Nat.zero_add,List.length_map,Nat.le_refl,nrm,List.length_cons,List.length_nil,Nat.reduceAdd,Nat.reduceLeDiff,List.take_succ_cons,List.take_zero,List.take_nil,List.map_cons,List.map_nil,List.length_set,EE.down]) rfl ?_
      refine ww ?_
      refine guardSBh h (fun g26 h=>?_) (fun g26 h=>?_)
      ·refine ww ?_
       obtain⟨t27,ht27,h⟩:=bi h
       refine callX_bor (F19_ok ht27) (by simp only[borAs,bors,hp,List.getElem?_cons_zero,List.getElem?_cons_succ,Option.join_some,List.drop_zero,bor_full',true_and,Nat.zero_add,List.length_map,Nat.le_refl,nrm,List.length_cons,List.length_nil,Nat.reduceAdd,Nat.reduceLeDiff,List.take_succ_cons,List.take_zero,List.take_nil,List.map_cons,List.map_nil,List.length_set,EE.down]) rfl ?_
       refine ww ?_
       cases h
       exact eM [] rfl
      refine ww ?_
      cases h
      exact eM [] rfl
     refine ww ?_
     cases h
     exact eM [] rfl
    refine ww ?_
    cases h
    exact eM [] rfl
   refine ww ?_
   cases h
   exact eM [] rfl
  refine ww ?_
  cases h
  exact eM [] rfl
 rintro _ rfl
 clear ho
 refine ww ?_
 cases h
 exact eF []
end Go.Proofs.YtondgcmdhkhkkaaGreat
