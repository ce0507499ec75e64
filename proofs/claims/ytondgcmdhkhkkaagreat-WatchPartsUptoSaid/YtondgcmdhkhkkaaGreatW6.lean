/- Each Go function as a function over typed data, and its walk. -/
import Derived.Test.YtondgcmdhkhkkaaGreatW0
import Derived.Test.YtondgcmdhkhkkaaGreatW1
import Derived.Test.YtondgcmdhkhkkaaGreatW3
import Derived.Test.YtondgcmdhkhkkaaGreatW4
import Derived.Test.YtondgcmdhkhkkaaGreatW5
namespace Go.Proofs.YtondgcmdhkhkkaaGreat
open Go Go.Fw Go.Shelf
set_option maxRecDepth 100000
set_option maxHeartbeats 4000000
set_option linter.unusedSimpArgs false
set_option linter.unusedVariables false
def F8_l1(x0:(List TOp)):Nat→Int→Int→Option (Int)
 |0,_,_=>none
 |k+1,o1_0,o1_1=>(((if o1_1<(x0.length:Int)then some (decide (o1_1≤40))else some false)).bind fun o2=>(if o2=true then(rdI x0 o1_1).bind fun y5=>(F29 y5.O).bind fun t6=>F8_l1 x0 k ((IntKind.i64.wrap (o1_0+t6))) ((IntKind.i64.wrap (o1_1+1)))else some o1_0))
def F8(x0:(List TOp)):Option (Bool):=((F8_l1 x0 1099511627776 0 0).bind fun o1=>(((if(x0.length:Int)≤40 then some (decide (o1≤1500))else some false)).bind fun o7=>some o7))
def a8:AFn:=⟨30,[(.tmp 2)],
 (.seq (.reg [sq 2 (.mv (kB false))])
 (.seq (.reg [sq 3 (.mv (kI 0))])
 (.seq (.seq (.reg [sq 4 (.mv (kI 0))])
 (.sem (.block 0 (.loop (.seq (.seq (.sem (.reg [sq 5 (.mv (.t 4)),
sq 6 (.mv (.t 0)),
sq 7 (.len (.t 6)),
sq 8 (.bin .lss (.t 5) (.t 7)),
sq 9 (.mv (.t 8)),
zg 10 9 true (.mv (.t 4)),
zg 11 9 true (.bin .leq (.t 10) (kI 40)),
zl 12 (.pick (.t 9) (.t 11) (kB false)) [] [6]]))
 (.cond (.t 12)
 .skip
 (.exit 0)))
 (.seq (.block 1 (.reg [sq 15 (.mv (.t 3)),
sq 16 (.mv (.t 0)),
sq 17 (.mv (.t 4)),
sq 18 (.indexA 28 (.t 16) (.t 17)),
sq 19 (.fieldA 1 (.t 18)),
sq 20 (.load (some 23) (.t 19)),
sq 21 (.call 29 [(.t 20)]),
sq 22 (.bin .add (.t 15) (.t 21)),
sq 3 (.mv (.t 22))]))
 (.reg [sq 13 (.mv (.t 4)),
sq 14 (.bin .add (.t 13) (kI 1)),
sq 4 (.mv (.t 14))])))))))
 (.seq (.sem (.reg [sq 23 (.mv (.t 0)),
sq 24 (.len (.t 23)),
sq 25 (.bin .leq (.t 24) (kI 40)),
sq 26 (.mv (.t 25)),
zg 27 26 true (.mv (.t 3)),
zg 28 26 true (.bin .leq (.t 27) (kI 1500)),
sq 29 (.pick (.t 26) (.t 28) (kB false)),
sq 2 (.mv (.t 29))]))
 .ret))))⟩
theorem a8_ok:afn Tryz.prog 8=some a8.er:=by kernel_rfl
theorem F8_ok{x0 r}(h:F8 x0=some r):CallD Tryz.prog 8 [.c (dM (x0.map eTOp))] [] (tupV [.c (dB r)]) []:=by
 refine callS a8_ok (by simp[a8]) ?_
 rw[F8]at h
 simp only[a8,VW.down,Nat.reduceEqDiff,reduceCtorEq,Nat.reduceAdd,Nat.reduceLeDiff,Nat.reduceLT,Nat.reduceBEq,Nat.reduceSub,EE.down]
 obtain⟨o1,ho,h⟩:=bi h
 refine cutS (fun s=>s=⟨[(0,.one (.c (dM (x0.map eTOp)))),(3,.one (.c (dI o1)))],[]⟩) ?_ ?_
 ·have h:=ho
  clear ho
  refine ww ?_
  refine bL (fun j s=>∃(o1_0:Int) (o1_1:Int),s=⟨[(0,.one (.c (dM (x0.map eTOp)))),(3,.one (.c (dI o1_0))),(4,.one (.c (dI o1_1)))],[]⟩∧F8_l1 x0 j o1_0 o1_1=some o1) 1099511627776 [] ⟨0,0,rfl,h⟩ ?_
  rintro j _ ⟨o1_0,o1_1,rfl,h⟩
  cases j with
  |zero=>cases(show(none:Option _)=some _ from h)
  |succ j=>
   rw[F8_l1]at h
   refine ww ?_
   obtain⟨o2,ho,h⟩:=bi h
   refine cutS (fun s=>s=⟨[(0,.one (.c (dM (x0.map eTOp)))),(3,.one (.c (dI o1_0))),(4,.one (.c (dI o1_1))),(12,.one (.c (dB o2)))],[]⟩) ?_ ?_
   ·have h:=ho
    clear ho
    refine ww ?_
    refine guardSh h (fun g3 h=>?_) (fun g3 h=>?_)
    ·refine ww ?_
     cases h
     exact eM [] rfl
    ·refine ww ?_
     cases h
     exact eM [] rfl
   ·rintro _ rfl
    clear ho
    refine ww ?_
    refine condBh h (fun c4 h=>?_) (fun c4 h=>?_)
    ·refine ww ?_
     obtain⟨y5,hy5,h⟩:=bi h
     refine t_idxF (enc:=eTOp) (xs:=x0) rfl rfl hy5 rfl (ww ?_)
     obtain⟨t6,ht6,h⟩:=bi h
     refine cN [] (F29_ok ht6) trivial (ww ?_)
     exact eL' j [] ⟨(IntKind.i64.wrap (o1_0+t6)),(IntKind.i64.wrap (o1_1+1)),rfl,h⟩ (Nat.lt_succ_self _)
    ·refine ww ?_
     cases h
     exact eM [] rfl
 rintro _ rfl
 clear ho
 refine ww ?_
 obtain⟨o7,ho,h⟩:=bi h
 refine cutS (fun s=>s=⟨[(2,.one (.c (dB o7)))],[]⟩) ?_ ?_
 ·have h:=ho
  clear ho
  refine ww ?_
  refine guardSh h (fun g8 h=>?_) (fun g8 h=>?_)
  ·refine ww ?_
   cases h
   exact eM [] rfl
  refine ww ?_
  cases h
  exact eM [] rfl
 rintro _ rfl
 clear ho
 refine ww ?_
 cases h
 exact eF []
def F106(x0:ByteArray)(x1:ByteArray):Option (Int):=(F127 x0 x1).bind fun t1=>some t1
def a106:AFn:=⟨8,[(.tmp 4)],
 (.seq (.reg [sq 4 (.mv (kI 0))])
 (.seq (.reg [sq 5 (.mv (.t 0)),
sq 6 (.mv (.t 1)),
sq 7 (.call 127 [(.t 5),(.t 6)]),
sq 4 (.mv (.t 7))])
 .ret))⟩
theorem a106_ok:afn Tryz.prog 106=some a106.er:=by kernel_rfl
theorem F106_ok{x0 x1 r}(h:F106 x0 x1=some r):CallD Tryz.prog 106 [.c (dS x0),.c (dS x1)] [] (tupV [.c (dI r)]) []:=by
 refine callS a106_ok (by simp[a106]) ?_
 rw[F106]at h
 simp only[a106,VW.down,Nat.reduceEqDiff,reduceCtorEq,Nat.reduceAdd,Nat.reduceLeDiff,Nat.reduceLT,Nat.reduceBEq,Nat.reduceSub,EE.down]
 obtain⟨t1,ht1,h⟩:=bi h
 refine cN [] (F127_ok ht1) trivial (ww ?_)
 cases h
 exact eF []
def F115(x0:Object)(x1:ByteArray):Option (Int):=(F24 x0.Meta).bind fun t1=>(F106 t1 x1).bind fun t2=>some t2
def a115:AFn:=⟨10,[(.tmp 4)],
 (.seq (.reg [sq 2 (.box (.t 0)),
sq 4 (.mv (kI 0))])
 (.seq (.reg [sq 5 (.fieldA 0 (.t 2)),
sq 6 (.load (some 13) (.t 5)),
sq 7 (.call 24 [(.t 6)]),
sq 8 (.mv (.t 1)),
sq 9 (.call 106 [(.t 7),(.t 8)]),
sq 4 (.mv (.t 9))])
 .ret))⟩
theorem a115_ok:afn Tryz.prog 115=some a115.er:=by kernel_rfl
theorem F115_ok{x0 x1 r}(h:F115 x0 x1=some r):CallD Tryz.prog 115 [.agg [dS x0.Meta.Kind,dS x0.Meta.Namespace,dS x0.Meta.Name,dI x0.Meta.Uid,dI x0.Meta.Version,dI x0.Meta.Generation,dI x0.Meta.Created,dB x0.Meta.Deleting,dI x0.Meta.DeleteAt,dM (x0.Meta.Labels.map eLabel),dM (x0.Meta.Owners.map eOwner),dM (x0.Meta.Finalizers.map eS),dM (x0.Meta.Managers.map eManager),dI x0.Spec.Kind,dI x0.Spec.N,dS x0.Spec.S,dM (x0.Spec.List_.map eTValue),dM (x0.Spec.Fields.map eTField),dI x0.Status.Kind,dI x0.Status.N,dS x0.Status.S,dM (x0.Status.List_.map eTValue),dM (x0.Status.Fields.map eTField)],.c (dS x1)] [] (tupV [.c (dI r)]) []:=by
 refine callS a115_ok (by simp[a115]) ?_
 rw[F115]at h
 simp only[a115,VW.down,Nat.reduceEqDiff,reduceCtorEq,Nat.reduceAdd,Nat.reduceLeDiff,Nat.reduceLT,Nat.reduceBEq,Nat.reduceSub,EE.down]
 obtain⟨t1,ht1,h⟩:=bi h
 refine cN [] (F24_ok ht1) trivial (ww ?_)
 obtain⟨t2,ht2,h⟩:=bi h
 refine cN [] (F106_ok ht2) trivial (ww ?_)
 cases h
 exact eF []
def F137_l16(rc29:TValue→Int→Option (Bool))(x1:Int):List TValue→Nat→Option ((Bool) ⊕ (Unit))
 |[],o16_0=>some (Sum.inr (()))
 |xo16::xs,o16_0=>(rc29 xo16 ((IntKind.i64.wrap (x1-1)))).bind fun t18=>(if(nb t18)=true then(some false).map Sum.inl else F137_l16 rc29 x1 xs (o16_0+1))
def F137_l21(rc29:TValue→Int→Option (Bool))(x0:TValue)(x1:Int):List TField→Nat→Option ((Bool) ⊕ (Unit))
 |[],o21_0=>some (Sum.inr (()))
 |xo21::xs,o21_0=>(((F144 xo21.Name).bind fun t24=>(if(nb t24)=true then some true else(if 0<(o21_0:Int)then(rdI x0.Fields ((IntKind.i64.wrap (((o21_0:Int))-1)))).bind fun y27=>(if(nb (Op.bytesLess y27.Name.toList xo21.Name.toList))=true then some true else(rc29 xo21.V ((IntKind.i64.wrap (x1-1)))).bind fun t29=>some (nb t29))else(rc29 xo21.V ((IntKind.i64.wrap (x1-1)))).bind fun t30=>some (nb t30)))).bind fun o23=>(if o23=true then(some false).map Sum.inl else F137_l21 rc29 x0 x1 xs (o21_0+1)))
def F137(rc29:TValue→Int→Option (Bool))(x0:TValue)(x1:Int):Option (Bool):=(((if x1=0 then some true else(F143 x0).bind fun t3=>(if(nb t3)=true then some true else(if¬(x0.Kind=4)then(if 0<(x0.List_.length:Int)then some true else(if¬(x0.Kind=5)then(if 0<(x0.Fields.length:Int)then some true else(if 64<(x0.List_.length:Int)then some true else some (decide (64<(x0.Fields.length:Int)))))else(if 64<(x0.List_.length:Int)then some true else some (decide (64<(x0.Fields.length:Int))))))else(if¬(x0.Kind=5)then(if 0<(x0.Fields.length:Int)then some true else(if 64<(x0.List_.length:Int)then some true else some (decide (64<(x0.Fields.length:Int)))))else(if 64<(x0.List_.length:Int)then some true else some (decide (64<(x0.Fields.length:Int))))))))).bind fun o1=>(if o1=true then some false else(((ck (0≤x0.List_.length∧x0.List_.length≤4294967290)).bind fun u20=>F137_l16 rc29 x1 x0.List_ 0:Option ((Bool) ⊕ (Unit))).bind fun o16=>match o16 with|Sum.inl f=>some f|Sum.inr po16=>(((ck (0≤x0.Fields.length∧x0.Fields.length≤4294967290)).bind fun u32=>F137_l21 rc29 x0 x1 x0.Fields 0:Option ((Bool) ⊕ (Unit))).bind fun o21=>match o21 with|Sum.inl f=>some f|Sum.inr po21=>some true))))
def a137:AFn:=⟨100,[(.tmp 4)],
 (.seq (.reg [sq 2 (.box (.t 0)),
sq 4 (.mv (kB false))])
 (.seq (.seq (.sem (.reg [sq 9 (.mv (.t 1)),
sq 10 (.bin .eql (.t 9) (kI 0)),
sq 11 (.mv (.t 10)),
zg 12 11 false (.load (some 5) (.t 2)),
zg 13 11 false (.call 143 [(.t 12)]),
zg 14 11 false (.not (.t 13)),
sq 15 (.pick (.t 11) (kB true) (.t 14)),
sq 16 (.mv (.t 15)),
zg 17 16 false (.fieldA 0 (.t 2)),
zg 18 16 false (.load none (.t 17)),
zg 19 16 false (.bin .neq (.t 18) (kI 4)),
zg 20 16 false (.mv (.t 19)),
zg 21 20 true (.fieldA 3 (.t 2)),
zg 22 20 true (.load none (.t 21)),
zg 23 20 true (.len (.t 22)),
zg 24 20 true (.bin .gtr (.t 23) (kI 0)),
zg 25 16 false (.pick (.t 20) (.t 24) (kB false)),
sq 26 (.pick (.t 16) (kB true) (.t 25)),
sq 27 (.mv (.t 26)),
zg 28 27 false (.fieldA 0 (.t 2)),
zg 29 27 false (.load none (.t 28)),
zg 30 27 false (.bin .neq (.t 29) (kI 5)),
zg 31 27 false (.mv (.t 30)),
zg 32 31 true (.fieldA 4 (.t 2)),
zg 33 31 true (.load none (.t 32)),
zg 34 31 true (.len (.t 33)),
zg 35 31 true (.bin .gtr (.t 34) (kI 0)),
zg 36 27 false (.pick (.t 31) (.t 35) (kB false)),
sq 37 (.pick (.t 27) (kB true) (.t 36)),
sq 38 (.mv (.t 37)),
zg 39 38 false (.fieldA 3 (.t 2)),
zg 40 38 false (.load none (.t 39)),
zg 41 38 false (.len (.t 40)),
zg 42 38 false (.bin .gtr (.t 41) (kI 64)),
sq 43 (.pick (.t 38) (kB true) (.t 42)),
sq 44 (.mv (.t 43)),
zg 45 44 false (.fieldA 4 (.t 2)),
zg 46 44 false (.load none (.t 45)),
zg 47 44 false (.len (.t 46)),
zg 48 44 false (.bin .gtr (.t 47) (kI 64)),
sq 49 (.pick (.t 44) (kB true) (.t 48))]))
 (.cond (.t 49)
 (.seq (.reg [sq 4 (.mv (kB false))])
 .ret)
 .skip))
 (.seq (.seq (.reg [sq 50 (.fieldA 3 (.t 2)),
sq 51 (.load none (.t 50)),
sq 52 (.len (.t 51)),
sq 53 (.mv (kI 0))])
 (.sem (.block 0 (.loop (.seq (.reg [sq 54 (.bin .lss (.t 53) (.t 52))])
 (.seq (.cond (.t 54)
 .skip
 (.exit 0))
 (.seq (.block 1 (.seq (.reg [sq 55 (.indexA 5 (.t 51) (.t 53)),
sq 56 (.load (some 5) (.t 55)),
sq 6 (.zbox [dI 0,dI 0,dS ⟨#[]⟩,dN,dN]),
su (.store 5 (.t 6) (.t 56))])
 (.seq (.reg [sq 57 (.load (some 5) (.t 6)),
sq 58 (.mv (.t 1)),
sq 59 (.bin .sub (.t 58) (kI 1)),
sq 60 (.call 137 [(.t 57),(.t 59)]),
sq 61 (.not (.t 60))])
 (.cond (.t 61)
 (.seq (.reg [sq 4 (.mv (kB false))])
 .ret)
 .skip))))
 (.reg [sq 62 (.bin .add (.t 53) (kI 1)),
sq 53 (.mv (.t 62))]))))))))
 (.seq (.seq (.reg [sq 63 (.fieldA 4 (.t 2)),
sq 64 (.load none (.t 63)),
sq 65 (.len (.t 64)),
sq 66 (.mv (kI 0))])
 (.sem (.block 2 (.loop (.seq (.reg [sq 67 (.bin .lss (.t 66) (.t 65))])
 (.seq (.cond (.t 67)
 .skip
 (.exit 2))
 (.seq (.block 3 (.seq (.reg [sq 68 (.mv (.t 66)),
sq 69 (.indexA 6 (.t 64) (.t 66)),
sq 70 (.load (some 6) (.t 69)),
sq 8 (.zbox [dS ⟨#[]⟩,dI 0,dI 0,dS ⟨#[]⟩,dN,dN]),
sq 7 (.mv (.t 68)),
su (.store 6 (.t 8) (.t 70))])
 (.seq (.sem (.regd [sq 71 (.fieldA 0 (.t 8)),
sd 72 (.load none (.t 71)) [0],
zl 73 (.call 144 [(.t 72)]) [0,1] [],
sd 74 (.not (.t 73)) [0,1,2],
sd 75 (.mv (.t 74)) [0,1,2,3],
⟨(some 76),(some (75,false)),.mv (.t 7),[0,1,2,3,4],(.new [])⟩,
⟨(some 77),(some (75,false)),.bin .gtr (.t 76) (kI 0),[0,1,2,3,4,5],(.new [])⟩,
⟨(some 78),(some (75,false)),.mv (.t 77),[0,1,2,3,4,5,6],(.new [])⟩,
⟨(some 79),(some (78,true)),.fieldA 4 (.t 2),[0,1,2,3,4,5,6,7],(.new [])⟩,
⟨(some 80),(some (78,true)),.load none (.t 79),[0,1,2,3,4,5,6,7,8],(.new [])⟩,
⟨(some 81),(some (78,true)),.mv (.t 7),[0,1,2,3,4,5,6,7],(.new [])⟩,
⟨(some 82),(some (78,true)),.bin .sub (.t 81) (kI 1),[0,1,2,3,4,5,6,7,10],(.new [])⟩,
⟨(some 83),(some (78,true)),.indexA 6 (.t 80) (.t 82),[0,1,2,3,4,5,6,7,8,9,10,11],(.new [])⟩,
⟨(some 84),(some (78,true)),.fieldA 0 (.t 83),[0,1,2,3,4,5,6,7,8,9,10,11,12],(.new [])⟩,
⟨(some 85),(some (78,true)),.load none (.t 84),[0,1,2,3,4,5,6,7,8,9,10,11,12,13],(.new [])⟩,
⟨(some 86),(some (78,true)),.fieldA 0 (.t 8),[0,1,2,3,4,5,6,7],(.new [])⟩,
⟨(some 87),(some (78,true)),.load none (.t 86),[0,1,2,3,4,5,6,7,15],(.new [])⟩,
⟨(some 88),(some (78,true)),.bin .geq (.t 85) (.t 87),[0,1,2,3,4,5,6,7,8,9,10,11,12,13,14,15,16],(.new [])⟩,
⟨(some 89),(some (75,false)),.pick (.t 78) (.t 88) (kB false),[0,1,2,3,4,5,6,7,8,9,10,11,12,13,14,15,16,17],(.lone [])⟩,
zl 90 (.pick (.t 75) (kB true) (.t 89)) [0,1,2,3,4,5,6,7,8,9,10,11,12,13,14,15,16,17,18] [],
sd 91 (.mv (.t 90)) [0,1,2,3,4,5,6,7,8,9,10,11,12,13,14,15,16,17,18,19],
⟨(some 92),(some (91,false)),.fieldA 1 (.t 8),[0,1,2,3,4,5,6,7,8,9,10,11,12,13,14,15,16,17,18,19,20],(.new [])⟩,
⟨(some 93),(some (91,false)),.load (some 5) (.t 92),[0,1,2,3,4,5,6,7,8,9,10,11,12,13,14,15,16,17,18,19,20,21],(.new [])⟩,
⟨(some 94),(some (91,false)),.mv (.t 1),[0,1,2,3,4,5,6,7,8,9,10,11,12,13,14,15,16,17,18,19,20],(.new [])⟩,
⟨(some 95),(some (91,false)),.bin .sub (.t 94) (kI 1),[0,1,2,3,4,5,6,7,8,9,10,11,12,13,14,15,16,17,18,19,20,23],(.new [])⟩,
⟨(some 96),(some (91,false)),.call 137 [(.t 93),(.t 95)],[0,1,2,3,4,5,6,7,8,9,10,11,12,13,14,15,16,17,18,19,20,21,22,23,24],(.lone [])⟩,
⟨(some 97),(some (91,false)),.not (.t 96),[0,1,2,3,4,5,6,7,8,9,10,11,12,13,14,15,16,17,18,19,20,21,22,23,24,25],(.new [])⟩,
zl 98 (.pick (.t 91) (kB true) (.t 97)) [0,1,2,3,4,5,6,7,8,9,10,11,12,13,14,15,16,17,18,19,20,21,22,23,24,25,26] []]))
 (.cond (.t 98)
 (.seq (.reg [sq 4 (.mv (kB false))])
 .ret)
 .skip))))
 (.reg [sq 99 (.bin .add (.t 66) (kI 1)),
sq 66 (.mv (.t 99))]))))))))
 (.seq (.reg [sq 4 (.mv (kB true))])
 .ret)))))⟩
theorem a137_ok:afn Tryz.prog 137=some a137.er:=by kernel_rfl
theorem F137_ok{rc29:TValue→Int→Option (Bool)}(ih29:∀{x0:TValue} {x1:Int} {r:Bool} (h:rc29 x0 x1=some r),CallD Tryz.prog 137 [.agg [dI x0.Kind,dI x0.N,dS x0.S,dM (x0.List_.map eTValue),dM (x0.Fields.map eTField)],.c (dI x1)] [] (tupV [.c (dB r)]) []){x0:TValue}{x1:Int}{r:Bool}(h:F137 rc29 x0 x1=some r):CallD Tryz.prog 137 [.agg [dI x0.Kind,dI x0.N,dS x0.S,dM (x0.List_.map eTValue),dM (x0.Fields.map eTField)],.c (dI x1)] [] (tupV [.c (dB r)]) []:=by
 refine callS a137_ok (by simp[a137]) ?_
 rw[F137]at h
 simp only[a137,VW.down,Nat.reduceEqDiff,reduceCtorEq,Nat.reduceAdd,Nat.reduceLeDiff,Nat.reduceLT,Nat.reduceBEq,Nat.reduceSub,EE.down]
 obtain⟨o1,ho,h⟩:=bi h
 refine cutS (fun s=>s=⟨[(1,.one (.c (dI x1))),(2,.one (.c (.pt 0 0))),(49,.one (.c (dB o1)))],[some (.box [dI x0.Kind,dI x0.N,dS x0.S,dM (x0.List_.map eTValue),dM (x0.Fields.map eTField)])]⟩) ?_ ?_
 ·have h:=ho
  clear ho
  refine ww ?_
  refine guardSh h (fun g2 h=>?_) (fun g2 h=>?_)
  ·refine ww ?_
   cases h
   exact eM [some 0] rfl
  refine ww ?_
  obtain⟨t3,ht3,h⟩:=bi h
  refine cN [] (F143_ok ht3) trivial (ww ?_)
  refine guardSBh h (fun g4 h=>?_) (fun g4 h=>?_)
  ·refine ww ?_
   cases h
   exact eM [some 0] rfl
  refine ww ?_
  refine guardSh h (fun g5 h=>?_) (fun g5 h=>?_)
  ·refine ww ?_
   refine guardSh h (fun g6 h=>?_) (fun g6 h=>?_)
   ·refine ww ?_
    cases h
    exact eM [some 0] rfl
   refine ww ?_
   refine guardSh h (fun g7 h=>?_) (fun g7 h=>?_)
   ·refine ww ?_
    refine guardSh h (fun g8 h=>?_) (fun g8 h=>?_)
    ·refine ww ?_
     cases h
     exact eM [some 0] rfl
    refine ww ?_
    refine guardSh h (fun g9 h=>?_) (fun g9 h=>?_)
    ·refine ww ?_
     cases h
     exact eM [some 0] rfl
    refine ww ?_
    cases h
    exact eM [some 0] rfl
   refine ww ?_
   refine guardSh h (fun g10 h=>?_) (fun g10 h=>?_)
   ·refine ww ?_
    cases h
    exact eM [some 0] rfl
   refine ww ?_
   cases h
   exact eM [some 0] rfl
  refine ww ?_
  refine guardSh h (fun g11 h=>?_) (fun g11 h=>?_)
  ·refine ww ?_
   refine guardSh h (fun g12 h=>?_) (fun g12 h=>?_)
   ·refine ww ?_
    cases h
    exact eM [some 0] rfl
   refine ww ?_
   refine guardSh h (fun g13 h=>?_) (fun g13 h=>?_)
   ·refine ww ?_
    cases h
    exact eM [some 0] rfl
   refine ww ?_
   cases h
   exact eM [some 0] rfl
  refine ww ?_
  refine guardSh h (fun g14 h=>?_) (fun g14 h=>?_)
  ·refine ww ?_
   cases h
   exact eM [some 0] rfl
  refine ww ?_
  cases h
  exact eM [some 0] rfl
 rintro _ rfl
 clear ho
 refine ww ?_
 refine condBh h (fun c15 h=>?_) (fun c15 h=>?_)
 ·refine ww ?_
  cases h
  exact eF []
 refine ww ?_
 obtain⟨o16,ho,h⟩:=bi h
 refine cutS (fun s=>∃po16,o16=Sum.inr po16∧s=⟨[(1,.one (.c (dI x1))),(2,.one (.c (.pt 0 0)))],[some (.box [dI x0.Kind,dI x0.N,dS x0.S,dM (x0.List_.map eTValue),dM (x0.Fields.map eTField)])]⟩) ?_ ?_
 ·have h0o16:=h
  have h:=ho
  clear ho
  obtain⟨_,hk,h⟩:=bi h
  have hk:=ck_some hk
  refine ww ?_
  refine bL (fun j s=>∃(o16_0:Nat),(o16_0≤x0.List_.length∧j=x0.List_.length-o16_0)∧s=⟨[(1,.one (.c (dI x1))),(2,.one (.c (.pt 0 0))),(51,.one (.c (dM (x0.List_.map eTValue)))),(52,.one (.c (dI ((x0.List_.length:Int))))),(53,.one (.c (dI ((o16_0:Int)))))],[some (.box [dI x0.Kind,dI x0.N,dS x0.S,dM (x0.List_.map eTValue),dM (x0.Fields.map eTField)])]⟩∧F137_l16 rc29 x1 (x0.List_.drop o16_0) o16_0=some o16) (x0.List_.length-0) [some 0] ⟨0,⟨hk.1,rfl⟩,rfl,h⟩ ?_
  rintro _ _ ⟨o16_0,⟨hi,rfl⟩,rfl,h⟩
  refine ww ?_
  refine condS (fun c17=>?_) (fun c17=>?_)
  ·obtain⟨xo16,hxo16,hd⟩:=countY (show(o16_0:Int)<(x0.List_.length:Int)from c17)
   rw[hd,F137_l16]at h
   refine ww ?_
   refine t_idxF (enc:=eTValue) (xs:=x0.List_) rfl rfl hxo16 (by rw[eTValue_u];rfl) (ww ?_)
   obtain⟨t18,ht18,h⟩:=bi h
   refine cN [] (ih29 ht18) trivial (ww ?_)
   refine condBh h (fun c19 h=>?_) (fun c19 h=>?_)
   ·refine ww ?_
    obtain⟨fh0o16,hfh0o16,rfl⟩:=Option.map_eq_some_iff.1 h
    have h:=hfh0o16.trans h0o16
    cases h
    exact eF []
   refine ww ?_
   rw[wrapN (by omega)]
   exact eL' (x0.List_.length-(o16_0+1)) [some 0] ⟨o16_0+1,⟨by omega,rfl⟩,rfl,h⟩ (by omega)
  rw[countN (show¬((o16_0:Int)<(x0.List_.length:Int))from c17),F137_l16]at h
  refine ww ?_
  cases h
  exact eM [some 0] ⟨_,rfl,rfl⟩
 rintro _ ⟨po16,rfl,rfl⟩
 clear ho
 dsimp only at h
 refine ww ?_
 obtain⟨o21,ho,h⟩:=bi h
 refine cutS (fun s=>∃po21,o21=Sum.inr po21∧s=⟨[],[]⟩) ?_ ?_
 ·have h0o21:=h
  have h:=ho
  clear ho
  obtain⟨_,hk,h⟩:=bi h
  have hk:=ck_some hk
  refine ww ?_
  refine bL (fun j s=>∃(o21_0:Nat),(o21_0≤x0.Fields.length∧j=x0.Fields.length-o21_0)∧s=⟨[(1,.one (.c (dI x1))),(2,.one (.c (.pt 0 0))),(64,.one (.c (dM (x0.Fields.map eTField)))),(65,.one (.c (dI ((x0.Fields.length:Int))))),(66,.one (.c (dI ((o21_0:Int)))))],[some (.box [dI x0.Kind,dI x0.N,dS x0.S,dM (x0.List_.map eTValue),dM (x0.Fields.map eTField)])]⟩∧F137_l21 rc29 x0 x1 (x0.Fields.drop o21_0) o21_0=some o21) (x0.Fields.length-0) [some 0] ⟨0,⟨hk.1,rfl⟩,rfl,h⟩ ?_
  rintro _ _ ⟨o21_0,⟨hi,rfl⟩,rfl,h⟩
  refine ww ?_
  refine condS (fun c22=>?_) (fun c22=>?_)
  ·obtain⟨xo21,hxo21,hd⟩:=countY (show(o21_0:Int)<(x0.Fields.length:Int)from c22)
   rw[hd,F137_l21]at h
   refine ww ?_
   refine t_idxF (enc:=eTField) (xs:=x0.Fields) rfl rfl hxo21 (by rw[eTField_u];rfl) (ww ?_)
   obtain⟨o23,ho,h⟩:=bi h
   refine cutS (fun s=>s=⟨[(1,.one (.c (dI x1))),(2,.one (.c (.pt 0 0))),(64,.one (.c (dM (x0.Fields.map eTField)))),(65,.one (.c (dI ((x0.Fields.length:Int))))),(66,.one (.c (dI ((o21_0:Int))))),(98,.one (.c (dB o23)))],[some (.box [dI x0.Kind,dI x0.N,dS x0.S,dM (x0.List_.map eTValue),dM (x0.Fields.map eTField)])]⟩) ?_ ?_
   ·have h:=ho
    clear ho
    refine ww ?_
    obtain⟨t24,ht24,h⟩:=bi h
    refine cN [] (F144_ok ht24) trivial (ww ?_)
    refine guardDBh h (fun g25 h=>?_) (fun g25 h=>?_)
    ·refine ww ?_
     cases h
     exact eM [some 0] rfl
    refine ww ?_
    refine guardDh h (fun g26 h=>?_) (fun g26 h=>?_)
    ·refine ww ?_
     obtain⟨y27,hy27,h⟩:=bi h
     refine t_idxF (enc:=eTField) (xs:=x0.Fields) rfl rfl hy27 (by rw[eTField_u];rfl) (ww ?_)
     refine guardDBh h (fun g28 h=>?_) (fun g28 h=>?_)
     ·refine ww ?_
      cases h
      exact eM [some 0] rfl
     refine ww ?_
     obtain⟨t29,ht29,h⟩:=bi h
     refine cN [] (ih29 ht29) trivial (ww ?_)
     cases h
     exact eM [some 0] rfl
    refine ww ?_
    obtain⟨t30,ht30,h⟩:=bi h
    refine cN [] (ih29 ht30) trivial (ww ?_)
    cases h
    exact eM [some 0] rfl
   rintro _ rfl
   clear ho
   refine ww ?_
   refine condBh h (fun c31 h=>?_) (fun c31 h=>?_)
   ·refine ww ?_
    obtain⟨fh0o21,hfh0o21,rfl⟩:=Option.map_eq_some_iff.1 h
    have h:=hfh0o21.trans h0o21
    cases h
    exact eF []
   refine ww ?_
   rw[wrapN (by omega)]
   exact eL' (x0.Fields.length-(o21_0+1)) [some 0] ⟨o21_0+1,⟨by omega,rfl⟩,rfl,h⟩ (by omega)
  rw[countN (show¬((o21_0:Int)<(x0.Fields.length:Int))from c22),F137_l21]at h
  refine ww ?_
  cases h
  exact eM [] ⟨_,rfl,rfl⟩
 rintro _ ⟨po21,rfl,rfl⟩
 clear ho
 dsimp only at h
 refine ww ?_
 cases h
 exact eF []
def F137k:Nat→TValue→Int→Option (Bool)
 |0=>fun _ _=>none
 |k+1=>F137 (F137k k)
theorem F137k_ok(k:Nat){x0:TValue}{x1:Int}{r:Bool}(h:F137k k x0 x1=some r):CallD Tryz.prog 137 [.agg [dI x0.Kind,dI x0.N,dS x0.S,dM (x0.List_.map eTValue),dM (x0.Fields.map eTField)],.c (dI x1)] [] (tupV [.c (dB r)]) []:=by
 induction k generalizing x0 x1 r with
 |zero=>cases(show(none:Option (Bool))=some _ from h)
 |succ k ih=>exact F137_ok (fun h=>ih h) h
def F117(x0:TValue):Option (Bool):=(((F137k 1099511627776 x0 12).bind fun t2=>(if t2=true then(F138k 1099511627776 x0).bind fun t4=>some (decide (t4≤600))else some false)).bind fun o1=>some o1)
def a117:AFn:=⟨10,[(.tmp 2)],
 (.seq (.reg [sq 1 (.box (.t 0)),
sq 2 (.mv (kB false))])
 (.seq (.sem (.reg [sq 3 (.load (some 5) (.t 1)),
sq 4 (.call 137 [(.t 3),(kI 12)]),
sq 5 (.mv (.t 4)),
zg 6 5 true (.load (some 5) (.t 1)),
zg 7 5 true (.call 138 [(.t 6)]),
zg 8 5 true (.bin .leq (.t 7) (kI 600)),
sq 9 (.pick (.t 5) (.t 8) (kB false)),
sq 2 (.mv (.t 9))]))
 .ret))⟩
theorem a117_ok:afn Tryz.prog 117=some a117.er:=by kernel_rfl
theorem F117_ok{x0 r}(h:F117 x0=some r):CallD Tryz.prog 117 [.agg [dI x0.Kind,dI x0.N,dS x0.S,dM (x0.List_.map eTValue),dM (x0.Fields.map eTField)]] [] (tupV [.c (dB r)]) []:=by
 refine callS a117_ok (by simp[a117]) ?_
 rw[F117]at h
 simp only[a117,VW.down,Nat.reduceEqDiff,reduceCtorEq,Nat.reduceAdd,Nat.reduceLeDiff,Nat.reduceLT,Nat.reduceBEq,Nat.reduceSub,EE.down]
 obtain⟨o1,ho,h⟩:=bi h
 refine cutS (fun s=>s=⟨[(2,.one (.c (dB o1)))],[]⟩) ?_ ?_
 ·have h:=ho
  clear ho
  refine ww ?_
  obtain⟨t2,ht2,h⟩:=bi h
  refine cN [] (F137k_ok 1099511627776 ht2) trivial (ww ?_)
  refine guardSBh h (fun g3 h=>?_) (fun g3 h=>?_)
  ·refine ww ?_
   obtain⟨t4,ht4,h⟩:=bi h
   refine cN [] (F138k_ok 1099511627776 ht4) trivial (ww ?_)
   cases h
   exact eM [] rfl
  refine ww ?_
  cases h
  exact eM [] rfl
 rintro _ rfl
 clear ho
 refine ww ?_
 cases h
 exact eF []
def F109(rc50:TValue→TValue→Option (Int))(x0:TField)(x1:TField):Option (Int):=(F106 x0.Name x1.Name).bind fun t1=>(rc50 x0.V x1.V).bind fun t2=>(F104 ([t1,t2])).bind fun t3=>some t3
def a109:AFn:=⟨17,[(.tmp 4)],
 (.seq (.reg [sq 2 (.box (.t 0)),
sq 3 (.box (.t 1)),
sq 4 (.mv (kI 0))])
 (.seq (.regd [sq 5 (.fieldA 0 (.t 2)),
sd 6 (.load none (.t 5)) [0],
sq 7 (.fieldA 0 (.t 3)),
sd 8 (.load none (.t 7)) [2],
zn 9 (.call 106 [(.t 6),(.t 8)]) [0,1,2,3] [0,1,2,3],
sq 10 (.fieldA 1 (.t 2)),
sd 11 (.load (some 5) (.t 10)) [5],
sq 12 (.fieldA 1 (.t 3)),
sd 13 (.load (some 5) (.t 12)) [7],
zl 14 (.call 82 [(.t 11),(.t 13)]) [0,1,2,3,4,5,6,7,8] [],
zl 15 (.bslice 1 [(.t 9),(.t 14)]) [0,1,2,3,4,5,6,7,8,9] [],
zl 16 (.call 104 [(.t 15)]) [0,1,2,3,4,5,6,7,8,9,10] [],
sd 4 (.mv (.t 16)) [0,1,2,3,4,5,6,7,8,9,10,11]])
 .ret))⟩
theorem a109_ok:afn Tryz.prog 109=some a109.er:=by kernel_rfl
theorem F109_ok{rc50:TValue→TValue→Option (Int)}(ih50:∀{x0:TValue} {x1:TValue} {r:Int} (h:rc50 x0 x1=some r),CallD Tryz.prog 82 [.agg [dI x0.Kind,dI x0.N,dS x0.S,dM (x0.List_.map eTValue),dM (x0.Fields.map eTField)],.agg [dI x1.Kind,dI x1.N,dS x1.S,dM (x1.List_.map eTValue),dM (x1.Fields.map eTField)]] [] (tupV [.c (dI r)]) []){x0:TField}{x1:TField}{r:Int}(h:F109 rc50 x0 x1=some r):CallD Tryz.prog 109 [.agg [dS x0.Name,dI x0.V.Kind,dI x0.V.N,dS x0.V.S,dM (x0.V.List_.map eTValue),dM (x0.V.Fields.map eTField)],.agg [dS x1.Name,dI x1.V.Kind,dI x1.V.N,dS x1.V.S,dM (x1.V.List_.map eTValue),dM (x1.V.Fields.map eTField)]] [] (tupV [.c (dI r)]) []:=by
 refine callS a109_ok (by simp[a109]) ?_
 rw[F109]at h
 simp only[a109,VW.down,Nat.reduceEqDiff,reduceCtorEq,Nat.reduceAdd,Nat.reduceLeDiff,Nat.reduceLT,Nat.reduceBEq,Nat.reduceSub,EE.down]
 obtain⟨t1,ht1,h⟩:=bi h
 refine cN [] (F106_ok ht1) trivial (ww ?_)
 obtain⟨t2,ht2,h⟩:=bi h
 refine cN [] (ih50 ht2) trivial (ww ?_)
 refine t_bslice (enc:=eI) (ys:=[t1,t2]) rfl rfl (by simp[A1.cells]) (by first|rfl|(simp only[List.drop_zero,take_mapL];rfl)|(simp only[lit,List.map_cons,List.map_nil,List.drop_zero,take_mapL,EE.down];done)|(simp only[lit,List.map_cons,List.map_nil,List.drop_zero,take_mapL,EE.down];rfl)) (ww ?_)
 obtain⟨t3,ht3,h⟩:=bi h
 refine callX_bor (F104_ok ht3) (by simp only[borAs,bors,hp,List.getElem?_cons_zero,List.getElem?_cons_succ,Option.join_some,List.drop_zero,bor_full',true_and,Nat.zero_add,List.length_map,Nat.le_refl,nrm,List.length_cons,List.length_nil,Nat.reduceAdd,Nat.reduceLeDiff,List.take_succ_cons,List.take_zero,List.take_nil,List.map_cons,List.map_nil,List.length_set,EE.down]) rfl ?_
 refine ww ?_
 cases h
 exact eF []
end Go.Proofs.YtondgcmdhkhkkaaGreat
