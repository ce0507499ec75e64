/- Each Go function as a function over typed data, and its walk. -/
import Derived.Test.YtondgcmdhkhkkaaGreatAX
import Derived.Test.YtondgcmdhkhkkaaGreatAX6
import Derived.Test.YtondgcmdhkhkkaaGreatAX7
import Derived.Test.YtondgcmdhkhkkaaGreatAX8
import Derived.Test.YtondgcmdhkhkkaaGreatAX9
namespace Go.Proofs.YtondgcmdhkhkkaaGreat
open Go Go.Fw Go.Shelf
set_option maxRecDepth 100000
set_option maxHeartbeats 4000000
set_option linter.unusedSimpArgs false
set_option linter.unusedVariables false
def F8_l1(x0:(List TOp)):Nat→Int→Int→Option (Int)
 |0,_,_=>none
 |k+1,o1_0,o1_1=>(((if o1_1<(x0.length:Int)then some (decide (o1_1≤40))else some false)).bind fun o2=>(if o2=true then(rdI x0 o1_1).bind fun y5=>(F29 y5.O).bind fun t6=>F8_l1 x0 k ((IntKind.i64.wrap (o1_0+t6))) ((IntKind.i64.wrap (o1_1+1)))else some o1_0))
def F8(x0:(List TOp)):Option (Bool):=((F8_l1 x0 1099511627776 0 0).bind fun o1=>(((if(x0.length:Int)≤40 then some (decide (o1≤1500))else some false)).bind fun o7=>some o7))
def a8:AFn:=⟨30,[(.tmp 2)],
 (.seq (.reg [sq 2 (.mv (kB false))])
 (.seq (.reg [sq 3 (.mv (kI 0))])
 (.seq (.seq (.reg [sq 4 (.mv (kI 0))])
 (.sem (.block 0 (.loop (.seq (.seq (.sem (.reg [sq 5 (.mv (.t 4)),
sq 6 (.mv (.t 0)),
sq 7 (.len (.t 6)),
sq 8 (.bin .lss (.t 5) (.t 7)),
sq 9 (.mv (.t 8)),
zg 10 9 true (.mv (.t 4)),
zg 11 9 true (.bin .leq (.t 10) (kI 40)),
zl 12 (.pick (.t 9) (.t 11) (kB false)) [] [6]]))
 (.cond (.t 12)
 .skip
 (.exit 0)))
 (.seq (.block 1 (.reg [sq 15 (.mv (.t 3)),
sq 16 (.mv (.t 0)),
sq 17 (.mv (.t 4)),
sq 18 (.indexA 28 (.t 16) (.t 17)),
sq 19 (.fieldA 1 (.t 18)),
sq 20 (.load (some 23) (.t 19)),
sq 21 (.call 29 [(.t 20)]),
sq 22 (.bin .add (.t 15) (.t 21)),
sq 3 (.mv (.t 22))]))
 (.reg [sq 13 (.mv (.t 4)),
sq 14 (.bin .add (.t 13) (kI 1)),
sq 4 (.mv (.t 14))])))))))
 (.seq (.sem (.reg [sq 23 (.mv (.t 0)),
sq 24 (.len (.t 23)),
sq 25 (.bin .leq (.t 24) (kI 40)),
sq 26 (.mv (.t 25)),
zg 27 26 true (.mv (.t 3)),
zg 28 26 true (.bin .leq (.t 27) (kI 1500)),
sq 29 (.pick (.t 26) (.t 28) (kB false)),
sq 2 (.mv (.t 29))]))
 .ret))))⟩
theorem a8_ok:afn Tryz.prog 8=some a8.er:=by kernel_rfl
theorem F8_ok{x0 r}(h:F8 x0=some r):CallD Tryz.prog 8 [.c (dM (x0.map eTOp))] [] (tupV [.c (dB r)]) []:=by
 refine callS a8_ok (by simp[a8]) ?_
 rw[F8]at h
 simp only[a8,VW.down,Nat.reduceEqDiff,reduceCtorEq,Nat.reduceAdd,Nat.reduceLeDiff,Nat.reduceLT,Nat.reduceBEq,Nat.reduceSub,EE.down]
 obtain⟨o1,ho,h⟩:=bi h
 refine cutS (fun s=>s=⟨[(0,.one (.c (dM (x0.map eTOp)))),(3,.one (.c (dI o1)))],[]⟩) ?_ ?_
 ·have h:=ho
  clear ho
  refine ww ?_
  refine bL (fun j s=>∃(o1_0:Int) (o1_1:Int),s=⟨[(0,.one (.c (dM (x0.map eTOp)))),(3,.one (.c (dI o1_0))),(4,.one (.c (dI o1_1)))],[]⟩∧F8_l1 x0 j o1_0 o1_1=some o1) 1099511627776 [] ⟨0,0,rfl,h⟩ ?_
  rintro j _ ⟨o1_0,o1_1,rfl,h⟩
  cases j with
  |zero=>cases(show(none:Option _)=some _ from h)
  |succ j=>
   rw[F8_l1]at h
   refine ww ?_
   obtain⟨o2,ho,h⟩:=bi h
   refine cutS (fun s=>s=⟨[(0,.one (.c (dM (x0.map eTOp)))),(3,.one (.c (dI o1_0))),(4,.one (.c (dI o1_1))),(12,.one (.c (dB o2)))],[]⟩) ?_ ?_
   ·have h:=ho
    clear ho
    refine ww ?_
    refine guardSh h (fun g3 h=>?_) (fun g3 h=>?_)
    ·refine ww ?_
     cases h
     exact eM [] rfl
    ·refine ww ?_
     cases h
     exact eM [] rfl
   ·rintro _ rfl
    clear ho
    refine ww ?_
    refine condBh h (fun c4 h=>?_) (fun c4 h=>?_)
    ·refine ww ?_
     obtain⟨y5,hy5,h⟩:=bi h
     refine t_idxF (enc:=eTOp) (xs:=x0) rfl rfl hy5 rfl (ww ?_)
     obtain⟨t6,ht6,h⟩:=bi h
     refine cN [] (F29_ok ht6) trivial (ww ?_)
     exact eL' j [] ⟨(IntKind.i64.wrap (o1_0+t6)),(IntKind.i64.wrap (o1_1+1)),rfl,h⟩ (Nat.lt_succ_self _)
    ·refine ww ?_
     cases h
     exact eM [] rfl
 rintro _ rfl
 clear ho
 refine ww ?_
 obtain⟨o7,ho,h⟩:=bi h
 refine cutS (fun s=>s=⟨[(2,.one (.c (dB o7)))],[]⟩) ?_ ?_
 ·have h:=ho
  clear ho
  refine ww ?_
  refine guardSh h (fun g8 h=>?_) (fun g8 h=>?_)
  ·refine ww ?_
   cases h
   exact eM [] rfl
  refine ww ?_
  cases h
  exact eM [] rfl
 rintro _ rfl
 clear ho
 refine ww ?_
 cases h
 exact eF []
def F51_l2(x1:(List Manager)):List Manager→Nat→Option ((Bool) ⊕ (Unit))
 |[],o2_0=>some (Sum.inr (()))
 |xo2::xs,o2_0=>(rdI x1 ((o2_0:Int))).bind fun y4=>(F50 xo2 y4).bind fun t5=>(if(nb t5)=true then(some false).map Sum.inl else F51_l2 x1 xs (o2_0+1))
def F51(x0:(List Manager))(x1:(List Manager)):Option (Bool):=(if¬((x0.length:Int)=(x1.length:Int))then some false else(((ck (0≤x0.length∧x0.length≤4294967290)).bind fun u7=>F51_l2 x1 x0 0:Option ((Bool) ⊕ (Unit))).bind fun o2=>match o2 with|Sum.inl f=>some f|Sum.inr po2=>some true))
def a51:AFn:=⟨32,[(.tmp 6)],
 (.seq (.reg [sq 6 (.mv (kB false))])
 (.seq (.seq (.reg [sq 10 (.mv (.t 0)),
sq 11 (.len (.t 10)),
sq 12 (.mv (.t 1)),
sq 13 (.len (.t 12)),
sq 14 (.bin .neq (.t 11) (.t 13))])
 (.cond (.t 14)
 (.seq (.reg [sq 6 (.mv (kB false))])
 .ret)
 .skip))
 (.seq (.seq (.reg [sq 15 (.mv (.t 0)),
sq 16 (.len (.t 15)),
sq 17 (.mv (kI 0))])
 (.sem (.block 0 (.loop (.seq (.reg [sq 18 (.bin .lss (.t 17) (.t 16))])
 (.seq (.cond (.t 18)
 .skip
 (.exit 0))
 (.seq (.block 1 (.seq (.reg [sq 19 (.mv (.t 17)),
sq 20 (.indexA 2 (.t 15) (.t 17)),
sq 21 (.load (some 2) (.t 20)),
sq 8 (.zbox [dS ⟨#[]⟩,dN]),
sq 7 (.mv (.t 19)),
su (.store 2 (.t 8) (.t 21))])
 (.seq (.reg [sq 22 (.mv (.t 1)),
sq 23 (.mv (.t 7)),
sq 24 (.indexA 2 (.t 22) (.t 23)),
sq 25 (.load (some 2) (.t 24)),
sq 9 (.zbox [dS ⟨#[]⟩,dN]),
su (.store 2 (.t 9) (.t 25))])
 (.seq (.reg [sq 26 (.mv (.t 2)),
sq 27 (.load (some 2) (.t 8)),
sq 28 (.load (some 2) (.t 9)),
sq 29 (.callv (.t 26) [(.t 27),(.t 28)]),
sq 30 (.not (.t 29))])
 (.cond (.t 30)
 (.seq (.reg [sq 6 (.mv (kB false))])
 .ret)
 .skip)))))
 (.reg [sq 31 (.bin .add (.t 17) (kI 1)),
sq 17 (.mv (.t 31))]))))))))
 (.seq (.reg [sq 6 (.mv (kB true))])
 .ret))))⟩
theorem a51_ok:afn Tryz.prog 51=some a51.er:=by kernel_rfl
theorem F51_ok{x0 x1 r}(h:F51 x0 x1=some r):CallD Tryz.prog 51 [.c (dM (x0.map eManager)),.c (dM (x1.map eManager)),.c (.fn 50 [])] [] (tupV [.c (dB r)]) []:=by
 refine callS a51_ok (by simp[a51]) ?_
 rw[F51]at h
 simp only[a51,VW.down,Nat.reduceEqDiff,reduceCtorEq,Nat.reduceAdd,Nat.reduceLeDiff,Nat.reduceLT,Nat.reduceBEq,Nat.reduceSub,EE.down]
 refine condSh h (fun c1 h=>?_) (fun c1 h=>?_)
 ·refine ww ?_
  cases h
  exact eF []
 refine ww ?_
 obtain⟨o2,ho,h⟩:=bi h
 refine cutS (fun s=>∃po2,o2=Sum.inr po2∧s=⟨[],[]⟩) ?_ ?_
 ·have h0o2:=h
  have h:=ho
  clear ho
  obtain⟨_,hk,h⟩:=bi h
  have hk:=ck_some hk
  refine ww ?_
  refine bL (fun j s=>∃(o2_0:Nat),(o2_0≤x0.length∧j=x0.length-o2_0)∧s=⟨[(1,.one (.c (dM (x1.map eManager)))),(2,.one (.c (.fn 50 []))),(15,.one (.c (dM (x0.map eManager)))),(16,.one (.c (dI ((x0.length:Int))))),(17,.one (.c (dI ((o2_0:Int)))))],[]⟩∧F51_l2 x1 (x0.drop o2_0) o2_0=some o2) (x0.length-0) [] ⟨0,⟨hk.1,rfl⟩,rfl,h⟩ ?_
  rintro _ _ ⟨o2_0,⟨hi,rfl⟩,rfl,h⟩
  refine ww ?_
  refine condS (fun c3=>?_) (fun c3=>?_)
  ·obtain⟨xo2,hxo2,hd⟩:=countY (show(o2_0:Int)<(x0.length:Int)from c3)
   rw[hd,F51_l2]at h
   refine ww ?_
   refine t_idxF (enc:=eManager) (xs:=x0) rfl rfl hxo2 rfl (ww ?_)
   obtain⟨y4,hy4,h⟩:=bi h
   refine t_idxF (enc:=eManager) (xs:=x1) rfl rfl hy4 rfl (ww ?_)
   obtain⟨t5,ht5,h⟩:=bi h
   refine cN [] (F50_ok ht5) trivial (ww ?_)
   refine condBh h (fun c6 h=>?_) (fun c6 h=>?_)
   ·refine ww ?_
    obtain⟨fh0o2,hfh0o2,rfl⟩:=Option.map_eq_some_iff.1 h
    have h:=hfh0o2.trans h0o2
    cases h
    exact eF []
   refine ww ?_
   rw[wrapN (by omega)]
   exact eL' (x0.length-(o2_0+1)) [] ⟨o2_0+1,⟨by omega,rfl⟩,rfl,h⟩ (by omega)
  rw[countN (show¬((o2_0:Int)<(x0.length:Int))from c3),F51_l2]at h
  refine ww ?_
  cases h
  exact eM [] ⟨_,rfl,rfl⟩
 rintro _ ⟨po2,rfl,rfl⟩
 clear ho
 dsimp only at h
 refine ww ?_
 cases h
 exact eF []
def F55(x0:Object):Option (ByteArray):=(F75 x0.Meta).bind fun t1=>some t1
def a55:AFn:=⟨6,[(.tmp 2)],
 (.seq (.reg [sq 1 (.box (.t 0)),
sq 2 (.mv (kS ⟨#[]⟩))])
 (.seq (.reg [sq 3 (.fieldA 0 (.t 1)),
sq 4 (.load (some 13) (.t 3)),
sq 5 (.call 75 [(.t 4)]),
sq 2 (.mv (.t 5))])
 .ret))⟩
theorem a55_ok:afn Tryz.prog 55=some a55.er:=by kernel_rfl
theorem F55_ok{x0 r}(h:F55 x0=some r):CallD Tryz.prog 55 [.agg [dS x0.Meta.Kind,dS x0.Meta.Namespace,dS x0.Meta.Name,dI x0.Meta.Uid,dI x0.Meta.Version,dI x0.Meta.Generation,dI x0.Meta.Created,dB x0.Meta.Deleting,dI x0.Meta.DeleteAt,dM (x0.Meta.Labels.map eLabel),dM (x0.Meta.Owners.map eOwner),dM (x0.Meta.Finalizers.map eS),dM (x0.Meta.Managers.map eManager),dI x0.Spec.Kind,dI x0.Spec.N,dS x0.Spec.S,dM (x0.Spec.List_.map eTValue),dM (x0.Spec.Fields.map eTField),dI x0.Status.Kind,dI x0.Status.N,dS x0.Status.S,dM (x0.Status.List_.map eTValue),dM (x0.Status.Fields.map eTField)]] [] (tupV [.c (dS r)]) []:=by
 refine callS a55_ok (by simp[a55]) ?_
 rw[F55]at h
 simp only[a55,VW.down,Nat.reduceEqDiff,reduceCtorEq,Nat.reduceAdd,Nat.reduceLeDiff,Nat.reduceLT,Nat.reduceBEq,Nat.reduceSub,EE.down]
 obtain⟨t1,ht1,h⟩:=bi h
 refine cN [] (F75_ok ht1) trivial (ww ?_)
 cases h
 exact eF []
def F96_l12(x0:Requirement):List ByteArray→Nat→Option ((Bool) ⊕ (Unit))
 |[],o12_0=>some (Sum.inr (()))
 |xo12::xs,o12_0=>(((F119 xo12).bind fun t15=>(if(nb t15)=true then some true else(if 0<(o12_0:Int)then(rdI x0.Values ((IntKind.i64.wrap (((o12_0:Int))-1)))).bind fun y18=>some (nb (Op.bytesLess y18.toList xo12.toList))else some false))).bind fun o14=>(if o14=true then(some false).map Sum.inl else F96_l12 x0 xs (o12_0+1)))
def F96(x0:Requirement):Option (Bool):=(F118 x0.Key).bind fun t1=>(if(nb t1)=true then some false else(((if x0.Op=3 then some true else some (decide (x0.Op=4)))).bind fun o3=>(if o3=true then some (decide ((x0.Values.length:Int)=0))else(((if¬(x0.Op=1)then(if¬(x0.Op=2)then some true else(if(x0.Values.length:Int)<1 then some true else some (decide (64<(x0.Values.length:Int)))))else(if(x0.Values.length:Int)<1 then some true else some (decide (64<(x0.Values.length:Int)))))).bind fun o6=>(if o6=true then some false else(((ck (0≤x0.Values.length∧x0.Values.length≤4294967290)).bind fun u20=>F96_l12 x0 x0.Values 0:Option ((Bool) ⊕ (Unit))).bind fun o12=>match o12 with|Sum.inl f=>some f|Sum.inr po12=>some true))))))
def a96:AFn:=⟨72,[(.tmp 2)],
 (.seq (.reg [sq 1 (.box (.t 0)),
sq 2 (.mv (kB false))])
 (.seq (.seq (.reg [sq 4 (.fieldA 0 (.t 1)),
sq 5 (.load none (.t 4)),
sq 6 (.call 118 [(.t 5)]),
sq 7 (.not (.t 6))])
 (.cond (.t 7)
 (.seq (.reg [sq 2 (.mv (kB false))])
 .ret)
 .skip))
 (.seq (.seq (.sem (.reg [sq 8 (.fieldA 1 (.t 1)),
sq 9 (.load none (.t 8)),
sq 10 (.bin .eql (.t 9) (kI 3)),
sq 11 (.mv (.t 10)),
zg 12 11 false (.fieldA 1 (.t 1)),
zg 13 11 false (.load none (.t 12)),
zg 14 11 false (.bin .eql (.t 13) (kI 4)),
zl 15 (.pick (.t 11) (kB true) (.t 14)) [] [1,8,1,12]]))
 (.cond (.t 15)
 (.seq (.reg [sq 16 (.fieldA 2 (.t 1)),
sq 17 (.load none (.t 16)),
sq 18 (.len (.t 17)),
sq 19 (.bin .eql (.t 18) (kI 0)),
sq 2 (.mv (.t 19))])
 .ret)
 .skip))
 (.seq (.seq (.sem (.reg [sq 20 (.fieldA 1 (.t 1)),
sq 21 (.load none (.t 20)),
sq 22 (.bin .neq (.t 21) (kI 1)),
sq 23 (.mv (.t 22)),
zg 24 23 true (.fieldA 1 (.t 1)),
zg 25 23 true (.load none (.t 24)),
zg 26 23 true (.bin .neq (.t 25) (kI 2)),
sq 27 (.pick (.t 23) (.t 26) (kB false)),
sq 28 (.mv (.t 27)),
zg 29 28 false (.fieldA 2 (.t 1)),
zg 30 28 false (.load none (.t 29)),
zg 31 28 false (.len (.t 30)),
zg 32 28 false (.bin .lss (.t 31) (kI 1)),
sq 33 (.pick (.t 28) (kB true) (.t 32)),
sq 34 (.mv (.t 33)),
zg 35 34 false (.fieldA 2 (.t 1)),
zg 36 34 false (.load none (.t 35)),
zg 37 34 false (.len (.t 36)),
zg 38 34 false (.bin .gtr (.t 37) (kI 64)),
sq 39 (.pick (.t 34) (kB true) (.t 38))]))
 (.cond (.t 39)
 (.seq (.reg [sq 2 (.mv (kB false))])
 .ret)
 .skip))
 (.seq (.seq (.reg [sq 3 (.mv (kI 0))])
 (.sem (.block 0 (.loop (.seq (.seq (.reg [sq 40 (.mv (.t 3)),
sq 41 (.fieldA 2 (.t 1)),
sq 42 (.load none (.t 41)),
sq 43 (.len (.t 42)),
sq 44 (.bin .lss (.t 40) (.t 43))])
 (.cond (.t 44)
 .skip
 (.exit 0)))
 (.seq (.block 1 (.seq (.sem (.regd [sq 47 (.fieldA 2 (.t 1)),
sd 48 (.load none (.t 47)) [0],
sq 49 (.mv (.t 3)),
sd 50 (.indexA 1 (.t 48) (.t 49)) [0,1,2],
sd 51 (.load none (.t 50)) [0,1,2,3],
zl 52 (.call 119 [(.t 51)]) [0,1,2,3,4] [],
sd 53 (.not (.t 52)) [0,1,2,3,4,5],
sd 54 (.mv (.t 53)) [0,1,2,3,4,5,6],
⟨(some 55),(some (54,false)),.mv (.t 3),[0,1,2,3,4,5,6,7],(.new [])⟩,
⟨(some 56),(some (54,false)),.bin .gtr (.t 55) (kI 0),[0,1,2,3,4,5,6,7,8],(.new [])⟩,
⟨(some 57),(some (54,false)),.mv (.t 56),[0,1,2,3,4,5,6,7,8,9],(.new [])⟩,
⟨(some 58),(some (57,true)),.fieldA 2 (.t 1),[0,1,2,3,4,5,6,7,8,9,10],(.new [])⟩,
⟨(some 59),(some (57,true)),.load none (.t 58),[0,1,2,3,4,5,6,7,8,9,10,11],(.new [])⟩,
⟨(some 60),(some (57,true)),.mv (.t 3),[0,1,2,3,4,5,6,7,8,9,10],(.new [])⟩,
⟨(some 61),(some (57,true)),.bin .sub (.t 60) (kI 1),[0,1,2,3,4,5,6,7,8,9,10,13],(.new [])⟩,
⟨(some 62),(some (57,true)),.indexA 1 (.t 59) (.t 61),[0,1,2,3,4,5,6,7,8,9,10,11,12,13,14],(.new [])⟩,
⟨(some 63),(some (57,true)),.load none (.t 62),[0,1,2,3,4,5,6,7,8,9,10,11,12,13,14,15],(.new [])⟩,
⟨(some 64),(some (57,true)),.fieldA 2 (.t 1),[0,1,2,3,4,5,6,7,8,9,10],(.new [])⟩,
⟨(some 65),(some (57,true)),.load none (.t 64),[0,1,2,3,4,5,6,7,8,9,10,17],(.new [])⟩,
⟨(some 66),(some (57,true)),.mv (.t 3),[0,1,2,3,4,5,6,7,8,9,10],(.new [])⟩,
⟨(some 67),(some (57,true)),.indexA 1 (.t 65) (.t 66),[0,1,2,3,4,5,6,7,8,9,10,17,18,19],(.new [])⟩,
⟨(some 68),(some (57,true)),.load none (.t 67),[0,1,2,3,4,5,6,7,8,9,10,17,18,19,20],(.new [])⟩,
⟨(some 69),(some (57,true)),.bin .geq (.t 63) (.t 68),[0,1,2,3,4,5,6,7,8,9,10,11,12,13,14,15,16,17,18,19,20,21],(.new [])⟩,
⟨(some 70),(some (54,false)),.pick (.t 57) (.t 69) (kB false),[0,1,2,3,4,5,6,7,8,9,10,11,12,13,14,15,16,17,18,19,20,21,22],(.lone [])⟩,
zl 71 (.pick (.t 54) (kB true) (.t 70)) [0,1,2,3,4,5,6,7,8,9,10,11,12,13,14,15,16,17,18,19,20,21,22,23] []]))
 (.cond (.t 71)
 (.seq (.reg [sq 2 (.mv (kB false))])
 .ret)
 .skip)))
 (.reg [sq 45 (.mv (.t 3)),
sq 46 (.bin .add (.t 45) (kI 1)),
sq 3 (.mv (.t 46))])))))))
 (.seq (.reg [sq 2 (.mv (kB true))])
 .ret))))))⟩
theorem a96_ok:afn Tryz.prog 96=some a96.er:=by kernel_rfl
theorem F96_ok{x0 r}(h:F96 x0=some r):CallD Tryz.prog 96 [.agg [dS x0.Key,dI x0.Op,dM (x0.Values.map eS)]] [] (tupV [.c (dB r)]) []:=by
 refine callS a96_ok (by simp[a96]) ?_
 rw[F96]at h
 simp only[a96,VW.down,Nat.reduceEqDiff,reduceCtorEq,Nat.reduceAdd,Nat.reduceLeDiff,Nat.reduceLT,Nat.reduceBEq,Nat.reduceSub,EE.down]
 obtain⟨t1,ht1,h⟩:=bi h
 refine cN [] (F118_ok ht1) trivial (ww ?_)
 refine condBh h (fun c2 h=>?_) (fun c2 h=>?_)
 ·refine ww ?_
  cases h
  exact eF []
 refine ww ?_
 obtain⟨o3,ho,h⟩:=bi h
 refine cutS (fun s=>s=⟨[(1,.one (.c (.pt 0 0))),(15,.one (.c (dB o3)))],[some (.box [dS x0.Key,dI x0.Op,dM (x0.Values.map eS)])]⟩) ?_ ?_
 ·have h:=ho
  clear ho
  refine ww ?_
  refine guardSh h (fun g4 h=>?_) (fun g4 h=>?_)
  ·refine ww ?_
   cases h
   exact eM [some 0] rfl
  refine ww ?_
  cases h
  exact eM [some 0] rfl
 rintro _ rfl
 clear ho
 refine ww ?_
 refine condBh h (fun c5 h=>?_) (fun c5 h=>?_)
 ·refine ww ?_
  cases h
  exact eF []
 refine ww ?_
 obtain⟨o6,ho,h⟩:=bi h
 refine cutS (fun s=>s=⟨[(1,.one (.c (.pt 0 0))),(39,.one (.c (dB o6)))],[some (.box [dS x0.Key,dI x0.Op,dM (x0.Values.map eS)])]⟩) ?_ ?_
 ·have h:=ho
  clear ho
  refine ww ?_
  refine guardSh h (fun g7 h=>?_) (fun g7 h=>?_)
  ·refine ww ?_
   refine guardSh h (fun g8 h=>?_) (fun g8 h=>?_)
   ·refine ww ?_
    cases h
    exact eM [some 0] rfl
   refine ww ?_
   refine guardSh h (fun g9 h=>?_) (fun g9 h=>?_)
   ·refine ww ?_
    cases h
    exact eM [some 0] rfl
   refine ww ?_
   cases h
   exact eM [some 0] rfl
  refine ww ?_
  refine guardSh h (fun g10 h=>?_) (fun g10 h=>?_)
  ·refine ww ?_
   cases h
   exact eM [some 0] rfl
  refine ww ?_
  cases h
  exact eM [some 0] rfl
 rintro _ rfl
 clear ho
 refine ww ?_
 refine condBh h (fun c11 h=>?_) (fun c11 h=>?_)
 ·refine ww ?_
  cases h
  exact eF []
 refine ww ?_
 obtain⟨o12,ho,h⟩:=bi h
 refine cutS (fun s=>∃po12,o12=Sum.inr po12∧s=⟨[],[]⟩) ?_ ?_
 ·have h0o12:=h
  have h:=ho
  clear ho
  obtain⟨_,hk,h⟩:=bi h
  have hk:=ck_some hk
  refine ww ?_
  refine bL (fun j s=>∃(o12_0:Nat),(o12_0≤x0.Values.length∧j=x0.Values.length-o12_0)∧s=⟨[(1,.one (.c (.pt 0 0))),(3,.one (.c (dI ((o12_0:Int)))))],[some (.box [dS x0.Key,dI x0.Op,dM (x0.Values.map eS)])]⟩∧F96_l12 x0 (x0.Values.drop o12_0) o12_0=some o12) (x0.Values.length-0) [some 0] ⟨0,⟨hk.1,rfl⟩,rfl,h⟩ ?_
  rintro _ _ ⟨o12_0,⟨hi,rfl⟩,rfl,h⟩
  refine ww ?_
  refine condS (fun c13=>?_) (fun c13=>?_)
  ·obtain⟨xo12,hxo12,hd⟩:=countY (show(o12_0:Int)<(x0.Values.length:Int)from c13)
   rw[hd,F96_l12]at h
   refine ww ?_
   obtain⟨o14,ho,h⟩:=bi h
   refine cutS (fun s=>s=⟨[(1,.one (.c (.pt 0 0))),(3,.one (.c (dI ((o12_0:Int))))),(71,.one (.c (dB o14)))],[some (.box [dS x0.Key,dI x0.Op,dM (x0.Values.map eS)])]⟩) ?_ ?_
   ·have h:=ho
    clear ho
    refine ww ?_
    refine t_idxF (enc:=eS) (xs:=x0.Values) rfl rfl hxo12 rfl (ww ?_)
    obtain⟨t15,ht15,h⟩:=bi h
    refine cN [] (F119_ok ht15) trivial (ww ?_)
    refine guardDBh h (fun g16 h=>?_) (fun g16 h=>?_)
    ·refine ww ?_
     cases h
     exact eM [some 0] rfl
    refine ww ?_
    refine guardDh h (fun g17 h=>?_) (fun g17 h=>?_)
    ·refine ww ?_
     obtain⟨y18,hy18,h⟩:=bi h
     refine t_idxF (enc:=eS) (xs:=x0.Values) rfl rfl hy18 rfl (ww ?_)
     refine t_idxF (enc:=eS) (xs:=x0.Values) rfl rfl hxo12 rfl (ww ?_)
     cases h
     exact eM [some 0] rfl
    refine ww ?_
    cases h
    exact eM [some 0] rfl
   rintro _ rfl
   clear ho
   refine ww ?_
   refine condBh h (fun c19 h=>?_) (fun c19 h=>?_)
   ·refine ww ?_
    obtain⟨fh0o12,hfh0o12,rfl⟩:=Option.map_eq_some_iff.1 h
    have h:=hfh0o12.trans h0o12
    cases h
    exact eF []
   refine ww ?_
   rw[wrapN (by omega)]
   exact eL' (x0.Values.length-(o12_0+1)) [some 0] ⟨o12_0+1,⟨by omega,rfl⟩,rfl,h⟩ (by omega)
  rw[countN (show¬((o12_0:Int)<(x0.Values.length:Int))from c13),F96_l12]at h
  refine ww ?_
  cases h
  exact eM [] ⟨_,rfl,rfl⟩
 rintro _ ⟨po12,rfl,rfl⟩
 clear ho
 dsimp only at h
 refine ww ?_
 cases h
 exact eF []
def F81(x0:TValue)(x1:TValue):Option (Bool):=(F103k 1099511627776 x0 x1).bind fun t1=>some (decide (t1=0))
def a81:AFn:=⟨9,[(.tmp 4)],
 (.seq (.reg [sq 2 (.box (.t 0)),
sq 3 (.box (.t 1)),
sq 4 (.mv (kB false))])
 (.seq (.reg [sq 5 (.load (some 5) (.t 2)),
sq 6 (.load (some 5) (.t 3)),
sq 7 (.call 103 [(.t 5),(.t 6)]),
sq 8 (.bin .eql (.t 7) (kI 0)),
sq 4 (.mv (.t 8))])
 .ret))⟩
theorem a81_ok:afn Tryz.prog 81=some a81.er:=by kernel_rfl
theorem F81_ok{x0 x1 r}(h:F81 x0 x1=some r):CallD Tryz.prog 81 [.agg [dI x0.Kind,dI x0.N,dS x0.S,dM (x0.List_.map eTValue),dM (x0.Fields.map eTField)],.agg [dI x1.Kind,dI x1.N,dS x1.S,dM (x1.List_.map eTValue),dM (x1.Fields.map eTField)]] [] (tupV [.c (dB r)]) []:=by
 refine callS a81_ok (by simp[a81]) ?_
 rw[F81]at h
 simp only[a81,VW.down,Nat.reduceEqDiff,reduceCtorEq,Nat.reduceAdd,Nat.reduceLeDiff,Nat.reduceLT,Nat.reduceBEq,Nat.reduceSub,EE.down]
 obtain⟨t1,ht1,h⟩:=bi h
 refine cN [] (F103k_ok 1099511627776 ht1) trivial (ww ?_)
 cases h
 exact eF []
end Go.Proofs.YtondgcmdhkhkkaaGreat
