/- Each Go function as a function over typed data, and its walk. -/
import Derived.Test.YtbopaemngpbdgaaGreatSX
import Derived.Test.YtbopaemngpbdgaaGreatSX4
import Derived.Test.YtbopaemngpbdgaaGreatSX7
import Derived.Test.YtbopaemngpbdgaaGreatSX8
import Derived.Test.YtbopaemngpbdgaaGreatSX9
namespace Go.Proofs.YtbopaemngpbdgaaGreat
open Go Go.Fw Go.Shelf
set_option maxRecDepth 100000
set_option maxHeartbeats 4000000
set_option linter.unusedSimpArgs false
set_option linter.unusedVariables false
def F72(x0:ByteArray)(x1:ByteArray):Option (Int):=(F101 x0 x1).bind fun t1=>some t1
def a72:AFn:=⟨8,[(.tmp 4)],
 (.seq (.reg [sq 4 (.mv (kI 0))])
 (.seq (.reg [sq 5 (.mv (.t 0)),
sq 6 (.mv (.t 1)),
sq 7 (.call 101 [(.t 5),(.t 6)]),
sq 4 (.mv (.t 7))])
 .ret))⟩
theorem a72_ok:afn Tryz.prog 72=some a72.er:=by kernel_rfl
theorem F72_ok{x0 x1 r}(h:F72 x0 x1=some r):CallD Tryz.prog 72 [.c (dS x0),.c (dS x1)] [] (tupV [.c (dI r)]) []:=by
 refine callS a72_ok (by simp[a72]) ?_
 rw[F72]at h
 simp only[a72,VW.down,Nat.reduceEqDiff,reduceCtorEq,Nat.reduceAdd,Nat.reduceLeDiff,Nat.reduceLT,Nat.reduceBEq,Nat.reduceSub,EE.down]
 obtain⟨t1,ht1,h⟩:=bi h
 refine cN [] (F101_ok ht1) trivial (ww ?_)
 cases h
 exact eF []
def F56(x0:Object):Option (ByteArray):=(F93 x0.Meta).bind fun t1=>some t1
def a56:AFn:=⟨6,[(.tmp 2)],
 (.seq (.reg [sq 1 (.box (.t 0)),
sq 2 (.mv (kS ⟨#[]⟩))])
 (.seq (.reg [sq 3 (.fieldA 0 (.t 1)),
sq 4 (.load (some 13) (.t 3)),
sq 5 (.call 93 [(.t 4)]),
sq 2 (.mv (.t 5))])
 .ret))⟩
theorem a56_ok:afn Tryz.prog 56=some a56.er:=by kernel_rfl
theorem F56_ok{x0 r}(h:F56 x0=some r):CallD Tryz.prog 56 [.agg [dS x0.Meta.Kind,dS x0.Meta.Namespace,dS x0.Meta.Name,dI x0.Meta.Uid,dI x0.Meta.Version,dI x0.Meta.Generation,dI x0.Meta.Created,dB x0.Meta.Deleting,dI x0.Meta.DeleteAt,dM (x0.Meta.Labels.map eLabel),dM (x0.Meta.Owners.map eOwner),dM (x0.Meta.Finalizers.map eS),dM (x0.Meta.Managers.map eManager),dI x0.Spec.Kind,dI x0.Spec.N,dS x0.Spec.S,dM (x0.Spec.List_.map eTValue),dM (x0.Spec.Fields.map eTField),dI x0.Status.Kind,dI x0.Status.N,dS x0.Status.S,dM (x0.Status.List_.map eTValue),dM (x0.Status.Fields.map eTField)]] [] (tupV [.c (dS r)]) []:=by
 refine callS a56_ok (by simp[a56]) ?_
 rw[F56]at h
 simp only[a56,VW.down,Nat.reduceEqDiff,reduceCtorEq,Nat.reduceAdd,Nat.reduceLeDiff,Nat.reduceLT,Nat.reduceBEq,Nat.reduceSub,EE.down]
 obtain⟨t1,ht1,h⟩:=bi h
 refine cN [] (F93_ok ht1) trivial (ww ?_)
 cases h
 exact eF []
def F11(x0:Object):Option (ByteArray):=(F37 x0.Meta).bind fun t1=>some t1
def a11:AFn:=⟨6,[(.tmp 2)],
 (.seq (.reg [sq 1 (.box (.t 0)),
sq 2 (.mv (kS ⟨#[]⟩))])
 (.seq (.reg [sq 3 (.fieldA 0 (.t 1)),
sq 4 (.load (some 13) (.t 3)),
sq 5 (.call 37 [(.t 4)]),
sq 2 (.mv (.t 5))])
 .ret))⟩
theorem a11_ok:afn Tryz.prog 11=some a11.er:=by kernel_rfl
theorem F11_ok{x0 r}(h:F11 x0=some r):CallD Tryz.prog 11 [.agg [dS x0.Meta.Kind,dS x0.Meta.Namespace,dS x0.Meta.Name,dI x0.Meta.Uid,dI x0.Meta.Version,dI x0.Meta.Generation,dI x0.Meta.Created,dB x0.Meta.Deleting,dI x0.Meta.DeleteAt,dM (x0.Meta.Labels.map eLabel),dM (x0.Meta.Owners.map eOwner),dM (x0.Meta.Finalizers.map eS),dM (x0.Meta.Managers.map eManager),dI x0.Spec.Kind,dI x0.Spec.N,dS x0.Spec.S,dM (x0.Spec.List_.map eTValue),dM (x0.Spec.Fields.map eTField),dI x0.Status.Kind,dI x0.Status.N,dS x0.Status.S,dM (x0.Status.List_.map eTValue),dM (x0.Status.Fields.map eTField)]] [] (tupV [.c (dS r)]) []:=by
 refine callS a11_ok (by simp[a11]) ?_
 rw[F11]at h
 simp only[a11,VW.down,Nat.reduceEqDiff,reduceCtorEq,Nat.reduceAdd,Nat.reduceLeDiff,Nat.reduceLT,Nat.reduceBEq,Nat.reduceSub,EE.down]
 obtain⟨t1,ht1,h⟩:=bi h
 refine cN [] (F37_ok ht1) trivial (ww ?_)
 cases h
 exact eF []
def F89_l13(rc89:TValue→Int→Option (Bool))(x1:Int):List TValue→Nat→Option ((Bool) ⊕ (Unit))
 |[],o13_0=>some (Sum.inr (()))
 |xo13::xs,o13_0=>(rc89 xo13 ((IntKind.i64.wrap (x1-1)))).bind fun t15=>(if(nb t15)=true then(some false).map Sum.inl else F89_l13 rc89 x1 xs (o13_0+1))
def F89_l18(rc89:TValue→Int→Option (Bool))(x0:TValue)(x1:Int):List TField→Nat→Option ((Bool) ⊕ (Unit))
 |[],o18_0=>some (Sum.inr (()))
 |xo18::xs,o18_0=>(((F121 xo18.Name).bind fun t21=>(if(nb t21)=true then some true else(if 0<(o18_0:Int)then(rdI x0.Fields ((IntKind.i64.wrap (((o18_0:Int))-1)))).bind fun y24=>(if((Op.bytesLess xo18.Name.toList y24.Name.toList||decide (xo18.Name=y24.Name)))=true then some true else(rc89 xo18.V ((IntKind.i64.wrap (x1-1)))).bind fun t26=>some (nb t26))else(rc89 xo18.V ((IntKind.i64.wrap (x1-1)))).bind fun t27=>some (nb t27)))).bind fun o20=>(if o20=true then(some false).map Sum.inl else F89_l18 rc89 x0 x1 xs (o18_0+1)))
def F89(rc89:TValue→Int→Option (Bool))(x0:TValue)(x1:Int):Option (Bool):=(((if x1=0 then some true else(F120 x0).bind fun t3=>(if(nb t3)=true then some true else(if 64<(x0.List_.length:Int)then some true else some (decide (64<(x0.Fields.length:Int))))))).bind fun o1=>(if o1=true then some false else(((if¬(x0.Kind=4)then(if 0<(x0.List_.length:Int)then some true else(if¬(x0.Kind=5)then some (decide (0<(x0.Fields.length:Int)))else some false))else(if¬(x0.Kind=5)then some (decide (0<(x0.Fields.length:Int)))else some false))).bind fun o7=>(if o7=true then some false else(((ck (0≤x0.List_.length∧x0.List_.length≤4294967290)).bind fun u17=>F89_l13 rc89 x1 x0.List_ 0:Option ((Bool) ⊕ (Unit))).bind fun o13=>match o13 with|Sum.inl f=>some f|Sum.inr po13=>(((ck (0≤x0.Fields.length∧x0.Fields.length≤4294967290)).bind fun u29=>F89_l18 rc89 x0 x1 x0.Fields 0:Option ((Bool) ⊕ (Unit))).bind fun o18=>match o18 with|Sum.inl f=>some f|Sum.inr po18=>some true))))))
def a89:AFn:=⟨109,[(.tmp 4)],
 (.seq (.reg [sq 2 (.box (.t 0)),
sq 4 (.mv (kB false))])
 (.seq (.seq (.sem (.reg [sq 7 (.mv (.t 1)),
sq 8 (.bin .eql (.t 7) (kI 0)),
sq 9 (.mv (.t 8)),
zg 10 9 false (.load (some 5) (.t 2)),
zg 11 9 false (.call 120 [(.t 10)]),
zg 12 9 false (.not (.t 11)),
sq 13 (.pick (.t 9) (kB true) (.t 12)),
sq 14 (.mv (.t 13)),
zg 15 14 false (.fieldA 3 (.t 2)),
zg 16 14 false (.load none (.t 15)),
zg 17 14 false (.len (.t 16)),
zg 18 14 false (.bin .gtr (.t 17) (kI 64)),
sq 19 (.pick (.t 14) (kB true) (.t 18)),
sq 20 (.mv (.t 19)),
zg 21 20 false (.fieldA 4 (.t 2)),
zg 22 20 false (.load none (.t 21)),
zg 23 20 false (.len (.t 22)),
zg 24 20 false (.bin .gtr (.t 23) (kI 64)),
sq 25 (.pick (.t 20) (kB true) (.t 24))]))
 (.cond (.t 25)
 (.seq (.reg [sq 4 (.mv (kB false))])
 .ret)
 .skip))
 (.seq (.seq (.sem (.reg [sq 26 (.fieldA 0 (.t 2)),
sq 27 (.load none (.t 26)),
sq 28 (.bin .neq (.t 27) (kI 4)),
sq 29 (.mv (.t 28)),
zg 30 29 true (.fieldA 3 (.t 2)),
zg 31 29 true (.load none (.t 30)),
zg 32 29 true (.len (.t 31)),
zg 33 29 true (.bin .gtr (.t 32) (kI 0)),
sq 34 (.pick (.t 29) (.t 33) (kB false)),
sq 35 (.mv (.t 34)),
zg 36 35 false (.fieldA 0 (.t 2)),
zg 37 35 false (.load none (.t 36)),
zg 38 35 false (.bin .neq (.t 37) (kI 5)),
zg 39 35 false (.mv (.t 38)),
zg 40 39 true (.fieldA 4 (.t 2)),
zg 41 39 true (.load none (.t 40)),
zg 42 39 true (.len (.t 41)),
zg 43 39 true (.bin .gtr (.t 42) (kI 0)),
zg 44 35 false (.pick (.t 39) (.t 43) (kB false)),
sq 45 (.pick (.t 35) (kB true) (.t 44))]))
 (.cond (.t 45)
 (.seq (.reg [sq 4 (.mv (kB false))])
 .ret)
 .skip))
 (.seq (.seq (.reg [sq 5 (.mv (kI 0))])
 (.sem (.block 0 (.loop (.seq (.seq (.reg [sq 46 (.mv (.t 5)),
sq 47 (.fieldA 3 (.t 2)),
sq 48 (.load none (.t 47)),
sq 49 (.len (.t 48)),
sq 50 (.bin .lss (.t 46) (.t 49))])
 (.cond (.t 50)
 .skip
 (.exit 0)))
 (.seq (.block 1 (.seq (.reg [sq 53 (.fieldA 3 (.t 2)),
sq 54 (.load none (.t 53)),
sq 55 (.mv (.t 5)),
sq 56 (.indexA 5 (.t 54) (.t 55)),
sq 57 (.load (some 5) (.t 56)),
sq 58 (.mv (.t 1)),
sq 59 (.bin .sub (.t 58) (kI 1)),
sq 60 (.call 89 [(.t 57),(.t 59)]),
sq 61 (.not (.t 60))])
 (.cond (.t 61)
 (.seq (.reg [sq 4 (.mv (kB false))])
 .ret)
 .skip)))
 (.reg [sq 51 (.mv (.t 5)),
sq 52 (.bin .add (.t 51) (kI 1)),
sq 5 (.mv (.t 52))])))))))
 (.seq (.seq (.reg [sq 6 (.mv (kI 0))])
 (.sem (.block 2 (.loop (.seq (.seq (.reg [sq 62 (.mv (.t 6)),
sq 63 (.fieldA 4 (.t 2)),
sq 64 (.load none (.t 63)),
sq 65 (.len (.t 64)),
sq 66 (.bin .lss (.t 62) (.t 65))])
 (.cond (.t 66)
 .skip
 (.exit 2)))
 (.seq (.block 3 (.seq (.sem (.regd [sq 69 (.fieldA 4 (.t 2)),
sd 70 (.load none (.t 69)) [0],
sq 71 (.mv (.t 6)),
sd 72 (.indexA 6 (.t 70) (.t 71)) [0,1,2],
sd 73 (.fieldA 0 (.t 72)) [0,1,2,3],
sd 74 (.load none (.t 73)) [0,1,2,3,4],
zl 75 (.call 121 [(.t 74)]) [0,1,2,3,4,5] [],
sd 76 (.not (.t 75)) [0,1,2,3,4,5,6],
sd 77 (.mv (.t 76)) [0,1,2,3,4,5,6,7],
⟨(some 78),(some (77,false)),.mv (.t 6),[0,1,2,3,4,5,6,7,8],(.new [])⟩,
⟨(some 79),(some (77,false)),.bin .gtr (.t 78) (kI 0),[0,1,2,3,4,5,6,7,8,9],(.new [])⟩,
⟨(some 80),(some (77,false)),.mv (.t 79),[0,1,2,3,4,5,6,7,8,9,10],(.new [])⟩,
⟨(some 81),(some (80,true)),.fieldA 4 (.t 2),[0,1,2,3,4,5,6,7,8,9,10,11],(.new [])⟩,
⟨(some 82),(some (80,true)),.load none (.t 81),[0,1,2,3,4,5,6,7,8,9,10,11,12],(.new [])⟩,
⟨(some 83),(some (80,true)),.mv (.t 6),[0,1,2,3,4,5,6,7,8,9,10,11],(.new [])⟩,
⟨(some 84),(some (80,true)),.indexA 6 (.t 82) (.t 83),[0,1,2,3,4,5,6,7,8,9,10,11,12,13,14],(.new [])⟩,
⟨(some 85),(some (80,true)),.fieldA 0 (.t 84),[0,1,2,3,4,5,6,7,8,9,10,11,12,13,14,15],(.new [])⟩,
⟨(some 86),(some (80,true)),.load none (.t 85),[0,1,2,3,4,5,6,7,8,9,10,11,12,13,14,15,16],(.new [])⟩,
⟨(some 87),(some (80,true)),.fieldA 4 (.t 2),[0,1,2,3,4,5,6,7,8,9,10,11],(.new [])⟩,
⟨(some 88),(some (80,true)),.load none (.t 87),[0,1,2,3,4,5,6,7,8,9,10,11,18],(.new [])⟩,
⟨(some 89),(some (80,true)),.mv (.t 6),[0,1,2,3,4,5,6,7,8,9,10,11],(.new [])⟩,
⟨(some 90),(some (80,true)),.bin .sub (.t 89) (kI 1),[0,1,2,3,4,5,6,7,8,9,10,11,20],(.new [])⟩,
⟨(some 91),(some (80,true)),.indexA 6 (.t 88) (.t 90),[0,1,2,3,4,5,6,7,8,9,10,11,18,19,20,21],(.new [])⟩,
⟨(some 92),(some (80,true)),.fieldA 0 (.t 91),[0,1,2,3,4,5,6,7,8,9,10,11,18,19,20,21,22],(.new [])⟩,
⟨(some 93),(some (80,true)),.load none (.t 92),[0,1,2,3,4,5,6,7,8,9,10,11,18,19,20,21,22,23],(.new [])⟩,
⟨(some 94),(some (80,true)),.bin .leq (.t 86) (.t 93),[0,1,2,3,4,5,6,7,8,9,10,11,12,13,14,15,16,17,18,19,20,21,22,23,24],(.new [])⟩,
⟨(some 95),(some (77,false)),.pick (.t 80) (.t 94) (kB false),[0,1,2,3,4,5,6,7,8,9,10,11,12,13,14,15,16,17,18,19,20,21,22,23,24,25],(.lone [])⟩,
zl 96 (.pick (.t 77) (kB true) (.t 95)) [0,1,2,3,4,5,6,7,8,9,10,11,12,13,14,15,16,17,18,19,20,21,22,23,24,25,26] [],
sd 97 (.mv (.t 96)) [0,1,2,3,4,5,6,7,8,9,10,11,12,13,14,15,16,17,18,19,20,21,22,23,24,25,26,27],
⟨(some 98),(some (97,false)),.fieldA 4 (.t 2),[0,1,2,3,4,5,6,7,8,9,10,11,12,13,14,15,16,17,18,19,20,21,22,23,24,25,26,27,28],(.new [])⟩,
⟨(some 99),(some (97,false)),.load none (.t 98),[0,1,2,3,4,5,6,7,8,9,10,11,12,13,14,15,16,17,18,19,20,21,22,23,24,25,26,27,28,29],(.new [])⟩,
⟨(some 100),(some (97,false)),.mv (.t 6),[0,1,2,3,4,5,6,7,8,9,10,11,12,13,14,15,16,17,18,19,20,21,22,23,24,25,26,27,28],(.new [])⟩,
⟨(some 101),(some (97,false)),.indexA 6 (.t 99) (.t 100),[0,1,2,3,4,5,6,7,8,9,10,11,12,13,14,15,16,17,18,19,20,21,22,23,24,25,26,27,28,29,30,31],(.new [])⟩,
⟨(some 102),(some (97,false)),.fieldA 1 (.t 101),[0,1,2,3,4,5,6,7,8,9,10,11,12,13,14,15,16,17,18,19,20,21,22,23,24,25,26,27,28,29,30,31,32],(.new [])⟩,
⟨(some 103),(some (97,false)),.load (some 5) (.t 102),[0,1,2,3,4,5,6,7,8,9,10,11,12,13,14,15,16,17,18,19,20,21,22,23,24,25,26,27,28,29,30,31,32,33],(.new [])⟩,
⟨(some 104),(some (97,false)),.mv (.t 1),[0,1,2,3,4,5,6,7,8,9,10,11,12,13,14,15,16,17,18,19,20,21,22,23,24,25,26,27,28],(.new [])⟩,
⟨(some 105),(some (97,false)),.bin .sub (.t 104) (kI 1),[0,1,2,3,4,5,6,7,8,9,10,11,12,13,14,15,16,17,18,19,20,21,22,23,24,25,26,27,28,35],(.new [])⟩,
⟨(some 106),(some (97,false)),.call 89 [(.t 103),(.t 105)],[0,1,2,3,4,5,6,7,8,9,10,11,12,13,14,15,16,17,18,19,20,21,22,23,24,25,26,27,28,29,30,31,32,33,34,35,36],(.lone [])⟩,
⟨(some 107),(some (97,false)),.not (.t 106),[0,1,2,3,4,5,6,7,8,9,10,11,12,13,14,15,16,17,18,19,20,21,22,23,24,25,26,27,28,29,30,31,32,33,34,35,36,37],(.new [])⟩,
zl 108 (.pick (.t 97) (kB true) (.t 107)) [0,1,2,3,4,5,6,7,8,9,10,11,12,13,14,15,16,17,18,19,20,21,22,23,24,25,26,27,28,29,30,31,32,33,34,35,36,37,38] []]))
 (.cond (.t 108)
 (.seq (.reg [sq 4 (.mv (kB false))])
 .ret)
 .skip)))
 (.reg [sq 67 (.mv (.t 6)),
sq 68 (.bin .add (.t 67) (kI 1)),
sq 6 (.mv (.t 68))])))))))
 (.seq (.reg [sq 4 (.mv (kB true))])
 .ret))))))⟩
theorem a89_ok:afn Tryz.prog 89=some a89.er:=by kernel_rfl
theorem F89_ok{rc89:TValue→Int→Option (Bool)}(ih89:∀{x0:TValue} {x1:Int} {r:Bool} (h:rc89 x0 x1=some r),CallD Tryz.prog 89 [.agg [dI x0.Kind,dI x0.N,dS x0.S,dM (x0.List_.map eTValue),dM (x0.Fields.map eTField)],.c (dI x1)] [] (tupV [.c (dB r)]) []){x0:TValue}{x1:Int}{r:Bool}(h:F89 rc89 x0 x1=some r):CallD Tryz.prog 89 [.agg [dI x0.Kind,dI x0.N,dS x0.S,dM (x0.List_.map eTValue),dM (x0.Fields.map eTField)],.c (dI x1)] [] (tupV [.c (dB r)]) []:=by
 refine callS a89_ok (by simp[a89]) ?_
 rw[F89]at h
 simp only[a89,VW.down,Nat.reduceEqDiff,reduceCtorEq,Nat.reduceAdd,Nat.reduceLeDiff,Nat.reduceLT,Nat.reduceBEq,Nat.reduceSub,EE.down]
 obtain⟨o1,ho,h⟩:=bi h
 refine cutS (fun s=>s=⟨[(1,.one (.c (dI x1))),(2,.one (.c (.pt 0 0))),(25,.one (.c (dB o1)))],[some (.box [dI x0.Kind,dI x0.N,dS x0.S,dM (x0.List_.map eTValue),dM (x0.Fields.map eTField)])]⟩) ?_ ?_
 ·have h:=ho
  clear ho
  refine ww ?_
  refine guardSh h (fun g2 h=>?_) (fun g2 h=>?_)
  ·refine ww ?_
   cases h
   exact eM [some 0] rfl
  refine ww ?_
  obtain⟨t3,ht3,h⟩:=bi h
  refine cN [] (F120_ok ht3) trivial (ww ?_)
  refine guardSBh h (fun g4 h=>?_) (fun g4 h=>?_)
  ·refine ww ?_
   cases h
   exact eM [some 0] rfl
  refine ww ?_
  refine guardSh h (fun g5 h=>?_) (fun g5 h=>?_)
  ·refine ww ?_
   cases h
   exact eM [some 0] rfl
  refine ww ?_
  cases h
  exact eM [some 0] rfl
 rintro _ rfl
 clear ho
 refine ww ?_
 refine condBh h (fun c6 h=>?_) (fun c6 h=>?_)
 ·refine ww ?_
  cases h
  exact eF []
 refine ww ?_
 obtain⟨o7,ho,h⟩:=bi h
 refine cutS (fun s=>s=⟨[(1,.one (.c (dI x1))),(2,.one (.c (.pt 0 0))),(45,.one (.c (dB o7)))],[some (.box [dI x0.Kind,dI x0.N,dS x0.S,dM (x0.List_.map eTValue),dM (x0.Fields.map eTField)])]⟩) ?_ ?_
 ·have h:=ho
  clear ho
  refine ww ?_
  refine guardSh h (fun g8 h=>?_) (fun g8 h=>?_)
  ·refine ww ?_
   refine guardSh h (fun g9 h=>?_) (fun g9 h=>?_)
   ·refine ww ?_
    cases h
    exact eM [some 0] rfl
   refine ww ?_
   refine guardSh h (fun g10 h=>?_) (fun g10 h=>?_)
   ·refine ww ?_
    cases h
    exact eM [some 0] rfl
   refine ww ?_
   cases h
   exact eM [some 0] rfl
  refine ww ?_
  refine guardSh h (fun g11 h=>?_) (fun g11 h=>?_)
  ·refine ww ?_
   cases h
   exact eM [some 0] rfl
  refine ww ?_
  cases h
  exact eM [some 0] rfl
 rintro _ rfl
 clear ho
 refine ww ?_
 refine condBh h (fun c12 h=>?_) (fun c12 h=>?_)
 ·refine ww ?_
  cases h
  exact eF []
 refine ww ?_
 obtain⟨o13,ho,h⟩:=bi h
 refine cutS (fun s=>∃po13,o13=Sum.inr po13∧s=⟨[(1,.one (.c (dI x1))),(2,.one (.c (.pt 0 0)))],[some (.box [dI x0.Kind,dI x0.N,dS x0.S,dM (x0.List_.map eTValue),dM (x0.Fields.map eTField)])]⟩) ?_ ?_
 ·have h0o13:=h
  have h:=ho
  clear ho
  obtain⟨_,hk,h⟩:=bi h
  have hk:=ck_some hk
  refine ww ?_
  refine bL (fun j s=>∃(o13_0:Nat),(o13_0≤x0.List_.length∧j=x0.List_.length-o13_0)∧s=⟨[(1,.one (.c (dI x1))),(2,.one (.c (.pt 0 0))),(5,.one (.c (dI ((o13_0:Int)))))],[some (.box [dI x0.Kind,dI x0.N,dS x0.S,dM (x0.List_.map eTValue),dM (x0.Fields.map eTField)])]⟩∧F89_l13 rc89 x1 (x0.List_.drop o13_0) o13_0=some o13) (x0.List_.length-0) [some 0] ⟨0,⟨hk.1,rfl⟩,rfl,h⟩ ?_
  rintro _ _ ⟨o13_0,⟨hi,rfl⟩,rfl,h⟩
  refine ww ?_
  refine condS (fun c14=>?_) (fun c14=>?_)
  ·obtain⟨xo13,hxo13,hd⟩:=countY (show(o13_0:Int)<(x0.List_.length:Int)from c14)
   rw[hd,F89_l13]at h
   refine ww ?_
   refine t_idxF (enc:=eTValue) (xs:=x0.List_) rfl rfl hxo13 (by rw[eTValue_u];rfl) (ww ?_)
   obtain⟨t15,ht15,h⟩:=bi h
   refine cN [] (ih89 ht15) trivial (ww ?_)
   refine condBh h (fun c16 h=>?_) (fun c16 h=>?_)
   ·refine ww ?_
    obtain⟨fh0o13,hfh0o13,rfl⟩:=Option.map_eq_some_iff.1 h
    have h:=hfh0o13.trans h0o13
    cases h
    exact eF []
   refine ww ?_
   rw[wrapN (by omega)]
   exact eL' (x0.List_.length-(o13_0+1)) [some 0] ⟨o13_0+1,⟨by omega,rfl⟩,rfl,h⟩ (by omega)
  rw[countN (show¬((o13_0:Int)<(x0.List_.length:Int))from c14),F89_l13]at h
  refine ww ?_
  cases h
  exact eM [some 0] ⟨_,rfl,rfl⟩
 rintro _ ⟨po13,rfl,rfl⟩
 clear ho
 dsimp only at h
 refine ww ?_
 obtain⟨o18,ho,h⟩:=bi h
 refine cutS (fun s=>∃po18,o18=Sum.inr po18∧s=⟨[],[]⟩) ?_ ?_
 ·have h0o18:=h
  have h:=ho
  clear ho
  obtain⟨_,hk,h⟩:=bi h
  have hk:=ck_some hk
  refine ww ?_
  refine bL (fun j s=>∃(o18_0:Nat),(o18_0≤x0.Fields.length∧j=x0.Fields.length-o18_0)∧s=⟨[(1,.one (.c (dI x1))),(2,.one (.c (.pt 0 0))),(6,.one (.c (dI ((o18_0:Int)))))],[some (.box [dI x0.Kind,dI x0.N,dS x0.S,dM (x0.List_.map eTValue),dM (x0.Fields.map eTField)])]⟩∧F89_l18 rc89 x0 x1 (x0.Fields.drop o18_0) o18_0=some o18) (x0.Fields.length-0) [some 0] ⟨0,⟨hk.1,rfl⟩,rfl,h⟩ ?_
  rintro _ _ ⟨o18_0,⟨hi,rfl⟩,rfl,h⟩
  refine ww ?_
  refine condS (fun c19=>?_) (fun c19=>?_)
  ·obtain⟨xo18,hxo18,hd⟩:=countY (show(o18_0:Int)<(x0.Fields.length:Int)from c19)
   rw[hd,F89_l18]at h
   refine ww ?_
   obtain⟨o20,ho,h⟩:=bi h
   refine cutS (fun s=>s=⟨[(1,.one (.c (dI x1))),(2,.one (.c (.pt 0 0))),(6,.one (.c (dI ((o18_0:Int))))),(108,.one (.c (dB o20)))],[some (.box [dI x0.Kind,dI x0.N,dS x0.S,dM (x0.List_.map eTValue),dM (x0.Fields.map eTField)])]⟩) ?_ ?_
   ·have h:=ho
    clear ho
    refine ww ?_
    refine t_idxF (enc:=eTField) (xs:=x0.Fields) rfl rfl hxo18 (by rw[eTField_u];rfl) (ww ?_)
    obtain⟨t21,ht21,h⟩:=bi h
    refine cN [] (F121_ok ht21) trivial (ww ?_)
    refine guardDBh h (fun g22 h=>?_) (fun g22 h=>?_)
    ·refine ww ?_
     cases h
     exact eM [some 0] rfl
    refine ww ?_
    refine guardDh h (fun g23 h=>?_) (fun g23 h=>?_)
    ·refine ww ?_
     refine t_idxF (enc:=eTField) (xs:=x0.Fields) rfl rfl hxo18 (by rw[eTField_u];rfl) (ww ?_)
     obtain⟨y24,hy24,h⟩:=bi h
     refine t_idxF (enc:=eTField) (xs:=x0.Fields) rfl rfl hy24 (by rw[eTField_u];rfl) (ww ?_)
     refine guardDBh h (fun g25 h=>?_) (fun g25 h=>?_)
     ·refine ww ?_
      cases h
      exact eM [some 0] rfl
     refine ww ?_
     refine t_idxF (enc:=eTField) (xs:=x0.Fields) rfl rfl hxo18 (by rw[eTField_u];rfl) (ww ?_)
     obtain⟨t26,ht26,h⟩:=bi h
     refine cN [] (ih89 ht26) trivial (ww ?_)
     cases h
     exact eM [some 0] rfl
    refine ww ?_
    refine t_idxF (enc:=eTField) (xs:=x0.Fields) rfl rfl hxo18 (by rw[eTField_u];rfl) (ww ?_)
    obtain⟨t27,ht27,h⟩:=bi h
    refine cN [] (ih89 ht27) trivial (ww ?_)
    cases h
    exact eM [some 0] rfl
   rintro _ rfl
   clear ho
   refine ww ?_
   refine condBh h (fun c28 h=>?_) (fun c28 h=>?_)
   ·refine ww ?_
    obtain⟨fh0o18,hfh0o18,rfl⟩:=Option.map_eq_some_iff.1 h
    have h:=hfh0o18.trans h0o18
    cases h
    exact eF []
   refine ww ?_
   rw[wrapN (by omega)]
   exact eL' (x0.Fields.length-(o18_0+1)) [some 0] ⟨o18_0+1,⟨by omega,rfl⟩,rfl,h⟩ (by omega)
  rw[countN (show¬((o18_0:Int)<(x0.Fields.length:Int))from c19),F89_l18]at h
  refine ww ?_
  cases h
  exact eM [] ⟨_,rfl,rfl⟩
 rintro _ ⟨po18,rfl,rfl⟩
 clear ho
 dsimp only at h
 refine ww ?_
 cases h
 exact eF []
def F89k:Nat→TValue→Int→Option (Bool)
 |0=>fun _ _=>none
 |k+1=>F89 (F89k k)
theorem F89k_ok(k:Nat){x0:TValue}{x1:Int}{r:Bool}(h:F89k k x0 x1=some r):CallD Tryz.prog 89 [.agg [dI x0.Kind,dI x0.N,dS x0.S,dM (x0.List_.map eTValue),dM (x0.Fields.map eTField)],.c (dI x1)] [] (tupV [.c (dB r)]) []:=by
 induction k generalizing x0 x1 r with
 |zero=>cases(show(none:Option (Bool))=some _ from h)
 |succ k ih=>exact F89_ok (fun h=>ih h) h
end Go.Proofs.YtbopaemngpbdgaaGreat
