/- Each Go function as a function over typed data, and its walk. -/
import Derived.Test.YtondgcmdhkhkkaaGreatW0
import Derived.Test.YtondgcmdhkhkkaaGreatW1
import Derived.Test.YtondgcmdhkhkkaaGreatW2
import Derived.Test.YtondgcmdhkhkkaaGreatW3
namespace Go.Proofs.YtondgcmdhkhkkaaGreat
open Go Go.Fw Go.Shelf
set_option maxRecDepth 100000
set_option maxHeartbeats 4000000
set_option linter.unusedSimpArgs false
set_option linter.unusedVariables false
def F29_l1:List Manager→Nat→Int→Option (Int)
 |[],o1_1,o1_0=>some o1_0
 |xo1::xs,o1_1,o1_0=>F29_l1 xs (o1_1+1) ((IntKind.i64.wrap (o1_0+((xo1.Fields.length:Int)))))
def F29(x0:Object):Option (Int):=(((ck (0≤x0.Meta.Managers.length∧x0.Meta.Managers.length≤4294967290)).bind fun u3=>F29_l1 x0.Meta.Managers 0 ((IntKind.i64.wrap (((IntKind.i64.wrap (((IntKind.i64.wrap (((IntKind.i64.wrap (1+((x0.Meta.Labels.length:Int)))))+((x0.Meta.Owners.length:Int)))))+((x0.Meta.Finalizers.length:Int)))))+((x0.Meta.Managers.length:Int)))))).bind fun o1=>(F62k 1099511627776 x0.Spec).bind fun t4=>(F62k 1099511627776 x0.Status).bind fun t5=>some ((IntKind.i64.wrap (((IntKind.i64.wrap (o1+t4)))+t5))))
def a29:AFn:=⟨52,[(.tmp 2)],
 (.seq (.reg [sq 1 (.box (.t 0)),
sq 2 (.mv (kI 0))])
 (.seq (.reg [sq 5 (.fieldA 0 (.t 1)),
sq 6 (.fieldA 9 (.t 5)),
sq 7 (.load none (.t 6)),
sq 8 (.len (.t 7)),
sq 9 (.bin .add (kI 1) (.t 8)),
sq 10 (.fieldA 0 (.t 1)),
sq 11 (.fieldA 10 (.t 10)),
sq 12 (.load none (.t 11)),
sq 13 (.len (.t 12)),
sq 14 (.bin .add (.t 9) (.t 13)),
sq 15 (.fieldA 0 (.t 1)),
sq 16 (.fieldA 11 (.t 15)),
sq 17 (.load none (.t 16)),
sq 18 (.len (.t 17)),
sq 19 (.bin .add (.t 14) (.t 18)),
sq 20 (.fieldA 0 (.t 1)),
sq 21 (.fieldA 12 (.t 20)),
sq 22 (.load none (.t 21)),
sq 23 (.len (.t 22)),
sq 24 (.bin .add (.t 19) (.t 23)),
sq 3 (.mv (.t 24))])
 (.seq (.seq (.reg [sq 4 (.mv (kI 0))])
 (.sem (.block 0 (.loop (.seq (.seq (.reg [sq 25 (.mv (.t 4)),
sq 26 (.fieldA 0 (.t 1)),
sq 27 (.fieldA 12 (.t 26)),
sq 28 (.load none (.t 27)),
sq 29 (.len (.t 28)),
sq 30 (.bin .lss (.t 25) (.t 29))])
 (.cond (.t 30)
 .skip
 (.exit 0)))
 (.seq (.block 1 (.reg [sq 33 (.mv (.t 3)),
sq 34 (.fieldA 0 (.t 1)),
sq 35 (.fieldA 12 (.t 34)),
sq 36 (.load none (.t 35)),
sq 37 (.mv (.t 4)),
sq 38 (.indexA 2 (.t 36) (.t 37)),
sq 39 (.fieldA 1 (.t 38)),
sq 40 (.load none (.t 39)),
sq 41 (.len (.t 40)),
sq 42 (.bin .add (.t 33) (.t 41)),
sq 3 (.mv (.t 42))]))
 (.reg [sq 31 (.mv (.t 4)),
sq 32 (.bin .add (.t 31) (kI 1)),
sq 4 (.mv (.t 32))])))))))
 (.seq (.regd [sq 43 (.mv (.t 3)),
sq 44 (.fieldA 13 (.t 1)),
sd 45 (.load (some 5) (.t 44)) [1],
zn 46 (.call 62 [(.t 45)]) [1,2] [1,2],
sd 47 (.bin .add (.t 43) (.t 46)) [0,1,2,3],
sq 48 (.fieldA 18 (.t 1)),
sd 49 (.load (some 5) (.t 48)) [5],
zl 50 (.call 62 [(.t 49)]) [1,2,3,5,6] [],
sd 51 (.bin .add (.t 47) (.t 50)) [0,1,2,3,4,5,6,7],
sd 2 (.mv (.t 51)) [0,1,2,3,4,5,6,7,8]])
 .ret))))⟩
theorem a29_ok:afn Tryz.prog 29=some a29.er:=by kernel_rfl
theorem F29_ok{x0 r}(h:F29 x0=some r):CallD Tryz.prog 29 [.agg [dS x0.Meta.Kind,dS x0.Meta.Namespace,dS x0.Meta.Name,dI x0.Meta.Uid,dI x0.Meta.Version,dI x0.Meta.Generation,dI x0.Meta.Created,dB x0.Meta.Deleting,dI x0.Meta.DeleteAt,dM (x0.Meta.Labels.map eLabel),dM (x0.Meta.Owners.map eOwner),dM (x0.Meta.Finalizers.map eS),dM (x0.Meta.Managers.map eManager),dI x0.Spec.Kind,dI x0.Spec.N,dS x0.Spec.S,dM (x0.Spec.List_.map eTValue),dM (x0.Spec.Fields.map eTField),dI x0.Status.Kind,dI x0.Status.N,dS x0.Status.S,dM (x0.Status.List_.map eTValue),dM (x0.Status.Fields.map eTField)]] [] (tupV [.c (dI r)]) []:=by
 refine callS a29_ok (by simp[a29]) ?_
 rw[F29]at h
 simp only[a29,VW.down,Nat.reduceEqDiff,reduceCtorEq,Nat.reduceAdd,Nat.reduceLeDiff,Nat.reduceLT,Nat.reduceBEq,Nat.reduceSub,EE.down]
 obtain⟨o1,ho,h⟩:=bi h
 refine cutS (fun s=>s=⟨[(1,.one (.c (.pt 0 0))),(3,.one (.c (dI o1)))],[some (.box [dS x0.Meta.Kind,dS x0.Meta.Namespace,dS x0.Meta.Name,dI x0.Meta.Uid,dI x0.Meta.Version,dI x0.Meta.Generation,dI x0.Meta.Created,dB x0.Meta.Deleting,dI x0.Meta.DeleteAt,dM (x0.Meta.Labels.map eLabel),dM (x0.Meta.Owners.map eOwner),dM (x0.Meta.Finalizers.map eS),dM (x0.Meta.Managers.map eManager),dI x0.Spec.Kind,dI x0.Spec.N,dS x0.Spec.S,dM (x0.Spec.List_.map eTValue),dM (x0.Spec.Fields.map eTField),dI x0.Status.Kind,dI x0.Status.N,dS x0.Status.S,dM (x0.Status.List_.map eTValue),dM (x0.Status.Fields.map eTField)])]⟩) ?_ ?_
 ·have h:=ho
  clear ho
  obtain⟨_,hk,h⟩:=bi h
  have hk:=ck_some hk
  refine ww ?_
  refine bL (fun j s=>∃(o1_1:Nat) (o1_0:Int),(o1_1≤x0.Meta.Managers.length∧j=x0.Meta.Managers.length-o1_1)∧s=⟨[(1,.one (.c (.pt 0 0))),(3,.one (.c (dI o1_0))),(4,.one (.c (dI ((o1_1:Int)))))],[some (.box [dS x0.Meta.Kind,dS x0.Meta.Namespace,dS x0.Meta.Name,dI x0.Meta.Uid,dI x0.Meta.Version,dI x0.Meta.Generation,dI x0.Meta.Created,dB x0.Meta.Deleting,dI x0.Meta.DeleteAt,dM (x0.Meta.Labels.map eLabel),dM (x0.Meta.Owners.map eOwner),dM (x0.Meta.Finalizers.map eS),dM (x0.Meta.Managers.map eManager),dI x0.Spec.Kind,dI x0.Spec.N,dS x0.Spec.S,dM (x0.Spec.List_.map eTValue),dM (x0.Spec.Fields.map eTField),dI x0.Status.Kind,dI x0.Status.N,dS x0.Status.S,dM (x0.Status.List_.map eTValue),dM (x0.Status.Fields.map eTField)])]⟩∧F29_l1 (x0.Meta.Managers.drop o1_1) o1_1 o1_0=some o1) (x0.Meta.Managers.length-0) [some 0] ⟨0,(IntKind.i64.wrap (((IntKind.i64.wrap (((IntKind.i64.wrap (((IntKind.i64.wrap (1+((x0.Meta.Labels.length:Int)))))+((x0.Meta.Owners.length:Int)))))+((x0.Meta.Finalizers.length:Int)))))+((x0.Meta.Managers.length:Int)))),⟨hk.1,rfl⟩,rfl,h⟩ ?_
  rintro _ _ ⟨o1_1,o1_0,⟨hi,rfl⟩,rfl,h⟩
  refine ww ?_
  refine condS (fun c2=>?_) (fun c2=>?_)
  ·obtain⟨xo1,hxo1,hd⟩:=countY (show(o1_1:Int)<(x0.Meta.Managers.length:Int)from c2)
   rw[hd,F29_l1]at h
   refine ww ?_
   refine t_idxF (enc:=eManager) (xs:=x0.Meta.Managers) rfl rfl hxo1 rfl (ww ?_)
   rw[wrapN (by omega)]
   exact eL' (x0.Meta.Managers.length-(o1_1+1)) [some 0] ⟨o1_1+1,(IntKind.i64.wrap (o1_0+((xo1.Fields.length:Int)))),⟨by omega,rfl⟩,rfl,h⟩ (by omega)
  rw[countN (show¬((o1_1:Int)<(x0.Meta.Managers.length:Int))from c2),F29_l1]at h
  refine ww ?_
  cases h
  exact eM [some 0] rfl
 rintro _ rfl
 clear ho
 refine ww ?_
 obtain⟨t4,ht4,h⟩:=bi h
 refine cN [] (F62k_ok 1099511627776 ht4) trivial (ww ?_)
 obtain⟨t5,ht5,h⟩:=bi h
 refine cN [] (F62k_ok 1099511627776 ht5) trivial (ww ?_)
 cases h
 exact eF []
def F127(x0:ByteArray)(x1:ByteArray):Option (Int):=(cmpS x0 x1).bind fun t1=>some t1
def a127:AFn:=⟨8,[(.tmp 4)],
 (.seq (.reg [sq 4 (.mv (kI 0))])
 (.seq (.reg [sq 5 (.mv (.t 0)),
sq 6 (.mv (.t 1)),
sq 7 (.call 140 [(.t 5),(.t 6)]),
sq 4 (.mv (.t 7))])
 .ret))⟩
theorem a127_ok:afn Tryz.prog 127=some a127.er:=by kernel_rfl
theorem F127_ok{x0 x1 r}(h:F127 x0 x1=some r):CallD Tryz.prog 127 [.c (dS x0),.c (dS x1)] [] (tupV [.c (dI r)]) []:=by
 refine callS a127_ok (by simp[a127]) ?_
 rw[F127]at h
 simp only[a127,VW.down,Nat.reduceEqDiff,reduceCtorEq,Nat.reduceAdd,Nat.reduceLeDiff,Nat.reduceLT,Nat.reduceBEq,Nat.reduceSub,EE.down]
 obtain⟨t1,ht1,h⟩:=bi h
 refine cN [] (F140_ok ht1) trivial (ww ?_)
 cases h
 exact eF []
def F87_l8(x0:ByteArray):Nat→Int→Option ((Bool) ⊕ (Unit))
 |0,_=>none
 |k+1,o8_0=>(if o8_0<(x0.size:Int)then(byI x0 o8_0).bind fun y10=>(F113 y10).bind fun t11=>(if(nb t11)=true then(some false).map Sum.inl else F87_l8 x0 k ((IntKind.i64.wrap (o8_0+1))))else some (Sum.inr (())))
def F87(x0:ByteArray):Option (Bool):=(((if x0=(⟨#[]⟩:ByteArray)then some true else(if 40<(x0.size:Int)then some true else(byI x0 0).bind fun y4=>(if y4<97 then some true else(byI x0 0).bind fun y6=>some (decide (122<y6)))))).bind fun o1=>(if o1=true then some false else((F87_l8 x0 1099511627776 0:Option ((Bool) ⊕ (Unit))).bind fun o8=>match o8 with|Sum.inl f=>some f|Sum.inr po8=>some true)))
def a87:AFn:=⟨32,[(.tmp 2)],
 (.seq (.reg [sq 2 (.mv (kB false))])
 (.seq (.seq (.sem (.reg [sq 4 (.mv (.t 0)),
sq 5 (.bin .eql (.t 4) (kS ⟨#[]⟩)),
sq 6 (.mv (.t 5)),
zg 7 6 false (.mv (.t 0)),
zg 8 6 false (.slen (.t 7)),
zg 9 6 false (.bin .gtr (.t 8) (kI 40)),
sq 10 (.pick (.t 6) (kB true) (.t 9)),
sq 11 (.mv (.t 10)),
zg 12 11 false (.mv (.t 0)),
zg 13 11 false (.sidx (.t 12) (kI 0)),
zg 14 11 false (.bin .lss (.t 13) (.k (.c (.d (.v (.int .u8 97)))))),
sq 15 (.pick (.t 11) (kB true) (.t 14)),
sq 16 (.mv (.t 15)),
zg 17 16 false (.mv (.t 0)),
zg 18 16 false (.sidx (.t 17) (kI 0)),
zg 19 16 false (.bin .gtr (.t 18) (.k (.c (.d (.v (.int .u8 122)))))),
sq 20 (.pick (.t 16) (kB true) (.t 19))]))
 (.cond (.t 20)
 (.seq (.reg [sq 2 (.mv (kB false))])
 .ret)
 .skip))
 (.seq (.seq (.reg [sq 21 (.mv (.t 0)),
sq 22 (.slen (.t 21)),
sq 23 (.mv (kI 0))])
 (.sem (.block 0 (.loop (.seq (.reg [sq 24 (.bin .lss (.t 23) (.t 22))])
 (.seq (.cond (.t 24)
 .skip
 (.exit 0))
 (.seq (.block 1 (.seq (.reg [sq 25 (.mv (.t 23)),
sq 3 (.mv (.t 25))])
 (.seq (.reg [sq 26 (.mv (.t 0)),
sq 27 (.mv (.t 3)),
sq 28 (.sidx (.t 26) (.t 27)),
sq 29 (.call 113 [(.t 28)]),
sq 30 (.not (.t 29))])
 (.cond (.t 30)
 (.seq (.reg [sq 2 (.mv (kB false))])
 .ret)
 .skip))))
 (.reg [sq 31 (.bin .add (.t 23) (kI 1)),
sq 23 (.mv (.t 31))]))))))))
 (.seq (.reg [sq 2 (.mv (kB true))])
 .ret))))⟩
theorem a87_ok:afn Tryz.prog 87=some a87.er:=by kernel_rfl
theorem F87_ok{x0 r}(h:F87 x0=some r):CallD Tryz.prog 87 [.c (dS x0)] [] (tupV [.c (dB r)]) []:=by
 refine callS a87_ok (by simp[a87]) ?_
 rw[F87]at h
 simp only[a87,VW.down,Nat.reduceEqDiff,reduceCtorEq,Nat.reduceAdd,Nat.reduceLeDiff,Nat.reduceLT,Nat.reduceBEq,Nat.reduceSub,EE.down]
 obtain⟨o1,ho,h⟩:=bi h
 refine cutS (fun s=>s=⟨[(0,.one (.c (dS x0))),(20,.one (.c (dB o1)))],[]⟩) ?_ ?_
 ·have h:=ho
  clear ho
  refine ww ?_
  refine guardSh h (fun g2 h=>?_) (fun g2 h=>?_)
  ·refine ww ?_
   cases h
   exact eM [] rfl
  refine ww ?_
  refine guardSh h (fun g3 h=>?_) (fun g3 h=>?_)
  ·refine ww ?_
   cases h
   exact eM [] rfl
  refine ww ?_
  obtain⟨y4,hy4,h⟩:=bi h
  refine t_sidx rfl rfl hy4 (ww ?_)
  refine guardSh h (fun g5 h=>?_) (fun g5 h=>?_)
  ·refine ww ?_
   cases h
   exact eM [] rfl
  refine ww ?_
  obtain⟨y6,hy6,h⟩:=bi h
  refine t_sidx rfl rfl hy6 (ww ?_)
  cases h
  exact eM [] rfl
 rintro _ rfl
 clear ho
 refine ww ?_
 refine condBh h (fun c7 h=>?_) (fun c7 h=>?_)
 ·refine ww ?_
  cases h
  exact eF []
 refine ww ?_
 obtain⟨o8,ho,h⟩:=bi h
 refine cutS (fun s=>∃po8,o8=Sum.inr po8∧s=⟨[],[]⟩) ?_ ?_
 ·have h0o8:=h
  have h:=ho
  clear ho
  refine ww ?_
  refine bL (fun j s=>∃(o8_0:Int),s=⟨[(0,.one (.c (dS x0))),(22,.one (.c (dI ((x0.size:Int))))),(23,.one (.c (dI o8_0)))],[]⟩∧F87_l8 x0 j o8_0=some o8) 1099511627776 [] ⟨0,rfl,h⟩ ?_
  rintro j _ ⟨o8_0,rfl,h⟩
  cases j with
  |zero=>cases(show(none:Option _)=some _ from h)
  |succ j=>
   rw[F87_l8]at h
   refine ww ?_
   refine condSh h (fun c9 h=>?_) (fun c9 h=>?_)
   ·refine ww ?_
    obtain⟨y10,hy10,h⟩:=bi h
    refine t_sidx rfl rfl hy10 (ww ?_)
    obtain⟨t11,ht11,h⟩:=bi h
    refine cN [] (F113_ok ht11) trivial (ww ?_)
    refine condBh h (fun c12 h=>?_) (fun c12 h=>?_)
    ·refine ww ?_
     obtain⟨fh0o8,hfh0o8,rfl⟩:=Option.map_eq_some_iff.1 h
     have h:=hfh0o8.trans h0o8
     cases h
     exact eF []
    ·refine ww ?_
     exact eL' j [] ⟨(IntKind.i64.wrap (o8_0+1)),rfl,h⟩ (Nat.lt_succ_self _)
   ·refine ww ?_
    cases h
    exact eM [] ⟨_,rfl,rfl⟩
 rintro _ ⟨po8,rfl,rfl⟩
 clear ho
 dsimp only at h
 refine ww ?_
 cases h
 exact eF []
def F143(x0:TValue):Option (Bool):=(if x0.Kind=1 then(((if x0.S=(⟨#[]⟩:ByteArray)then(if x0.N=0 then some true else some (decide (x0.N=1)))else some false)).bind fun o2=>some o2)else(if x0.Kind=2 then(((if x0.S=(⟨#[]⟩:ByteArray)then(if(-1000000000000000)≤x0.N then some (decide (x0.N≤1000000000000000))else some false)else some false)).bind fun o6=>some o6)else(if x0.Kind=3 then(((if x0.N=0 then(F146 x0.S).bind fun t12=>some t12 else some false)).bind fun o10=>some o10)else(((if x0.Kind=0 then some (decide (x0.Kind=0))else(if x0.Kind=4 then some (decide (x0.Kind=4))else some (decide (x0.Kind=5))))).bind fun o13=>(if o13=true then(((if x0.N=0 then some (decide (x0.S=(⟨#[]⟩:ByteArray)))else some false)).bind fun o17=>some o17)else some false)))))
def a143:AFn:=⟨57,[(.tmp 2)],
 (.seq (.reg [sq 1 (.box (.t 0)),
sq 2 (.mv (kB false))])
 (.seq (.seq (.reg [sq 3 (.fieldA 0 (.t 1)),
sq 4 (.load none (.t 3))])
 (.block 0 (.seq (.reg [sq 6 (.bin .eql (.t 4) (kI 1)),
sq 5 (.mv (.t 6))])
 (.cond (.t 5)
 (.seq (.sem (.reg [sq 7 (.fieldA 2 (.t 1)),
sq 8 (.load none (.t 7)),
sq 9 (.bin .eql (.t 8) (kS ⟨#[]⟩)),
sq 10 (.mv (.t 9)),
zg 11 10 true (.fieldA 1 (.t 1)),
zg 12 10 true (.load none (.t 11)),
zg 13 10 true (.bin .eql (.t 12) (kI 0)),
zg 14 10 true (.mv (.t 13)),
zg 15 14 false (.fieldA 1 (.t 1)),
zg 16 14 false (.load none (.t 15)),
zg 17 14 false (.bin .eql (.t 16) (kI 1)),
zg 18 10 true (.pick (.t 14) (kB true) (.t 17)),
sq 19 (.pick (.t 10) (.t 18) (kB false)),
sq 2 (.mv (.t 19))]))
 .ret)
 (.seq (.reg [sq 21 (.bin .eql (.t 4) (kI 2)),
sq 20 (.mv (.t 21))])
 (.cond (.t 20)
 (.seq (.sem (.reg [sq 22 (.fieldA 2 (.t 1)),
sq 23 (.load none (.t 22)),
sq 24 (.bin .eql (.t 23) (kS ⟨#[]⟩)),
sq 25 (.mv (.t 24)),
zg 26 25 true (.fieldA 1 (.t 1)),
zg 27 25 true (.load none (.t 26)),
zg 28 25 true (.bin .geq (.t 27) (kI (-1000000000000000))),
sq 29 (.pick (.t 25) (.t 28) (kB false)),
sq 30 (.mv (.t 29)),
zg 31 30 true (.fieldA 1 (.t 1)),
zg 32 30 true (.load none (.t 31)),
zg 33 30 true (.bin .leq (.t 32) (kI 1000000000000000)),
sq 34 (.pick (.t 30) (.t 33) (kB false)),
sq 2 (.mv (.t 34))]))
 .ret)
 (.seq (.reg [sq 36 (.bin .eql (.t 4) (kI 3)),
sq 35 (.mv (.t 36))])
 (.cond (.t 35)
 (.seq (.sem (.reg [sq 37 (.fieldA 1 (.t 1)),
sq 38 (.load none (.t 37)),
sq 39 (.bin .eql (.t 38) (kI 0)),
sq 40 (.mv (.t 39)),
zg 41 40 true (.fieldA 2 (.t 1)),
zg 42 40 true (.load none (.t 41)),
zg 43 40 true (.call 146 [(.t 42)]),
sq 44 (.pick (.t 40) (.t 43) (kB false)),
sq 2 (.mv (.t 44))]))
 .ret)
 (.seq (.sem (.seq (.reg [sq 46 (.bin .eql (.t 4) (kI 0)),
sq 45 (.mv (.t 46))])
 (.cond (.t 45)
 .skip
 (.seq (.reg [sq 47 (.bin .eql (.t 4) (kI 4)),
sq 45 (.mv (.t 47))])
 (.cond (.t 45)
 .skip
 (.reg [sq 48 (.bin .eql (.t 4) (kI 5)),
sq 45 (.mv (.t 48))]))))))
 (.cond (.t 45)
 (.seq (.sem (.reg [sq 49 (.fieldA 1 (.t 1)),
sq 50 (.load none (.t 49)),
sq 51 (.bin .eql (.t 50) (kI 0)),
sq 52 (.mv (.t 51)),
zg 53 52 true (.fieldA 2 (.t 1)),
zg 54 52 true (.load none (.t 53)),
zg 55 52 true (.bin .eql (.t 54) (kS ⟨#[]⟩)),
sq 56 (.pick (.t 52) (.t 55) (kB false)),
sq 2 (.mv (.t 56))]))
 .ret)
 .skip))))))))))
 (.seq (.reg [sq 2 (.mv (kB false))])
 .ret)))⟩
theorem a143_ok:afn Tryz.prog 143=some a143.er:=by kernel_rfl
theorem F143_ok{x0 r}(h:F143 x0=some r):CallD Tryz.prog 143 [.agg [dI x0.Kind,dI x0.N,dS x0.S,dM (x0.List_.map eTValue),dM (x0.Fields.map eTField)]] [] (tupV [.c (dB r)]) []:=by
 refine callS a143_ok (by simp[a143]) ?_
 rw[F143]at h
 simp only[a143,VW.down,Nat.reduceEqDiff,reduceCtorEq,Nat.reduceAdd,Nat.reduceLeDiff,Nat.reduceLT,Nat.reduceBEq,Nat.reduceSub,EE.down]
 refine condSh h (fun c1 h=>?_) (fun c1 h=>?_)
 ·refine ww ?_
  obtain⟨o2,ho,h⟩:=bi h
  refine cutS (fun s=>s=⟨[(2,.one (.c (dB o2)))],[]⟩) ?_ ?_
  ·have h:=ho
   clear ho
   refine ww ?_
   refine guardSh h (fun g3 h=>?_) (fun g3 h=>?_)
   ·refine ww ?_
    refine guardSh h (fun g4 h=>?_) (fun g4 h=>?_)
    ·refine ww ?_
     cases h
     exact eM [] rfl
    refine ww ?_
    cases h
    exact eM [] rfl
   refine ww ?_
   cases h
   exact eM [] rfl
  rintro _ rfl
  clear ho
  refine ww ?_
  cases h
  exact eF []
 refine ww ?_
 refine condSh h (fun c5 h=>?_) (fun c5 h=>?_)
 ·refine ww ?_
  obtain⟨o6,ho,h⟩:=bi h
  refine cutS (fun s=>s=⟨[(2,.one (.c (dB o6)))],[]⟩) ?_ ?_
  ·have h:=ho
   clear ho
   refine ww ?_
   refine guardSh h (fun g7 h=>?_) (fun g7 h=>?_)
   ·refine ww ?_
    refine guardSh h (fun g8 h=>?_) (fun g8 h=>?_)
    ·refine ww ?_
     cases h
     exact eM [] rfl
    refine ww ?_
    cases h
    exact eM [] rfl
   refine ww ?_
   cases h
   exact eM [] rfl
  rintro _ rfl
  clear ho
  refine ww ?_
  cases h
  exact eF []
 refine ww ?_
 refine condSh h (fun c9 h=>?_) (fun c9 h=>?_)
 ·refine ww ?_
  obtain⟨o10,ho,h⟩:=bi h
  refine cutS (fun s=>s=⟨[(2,.one (.c (dB o10)))],[]⟩) ?_ ?_
  ·have h:=ho
   clear ho
   refine ww ?_
   refine guardSh h (fun g11 h=>?_) (fun g11 h=>?_)
   ·refine ww ?_
    obtain⟨t12,ht12,h⟩:=bi h
    refine cN [] (F146_ok ht12) trivial (ww ?_)
    cases h
    exact eM [] rfl
   refine ww ?_
   cases h
   exact eM [] rfl
  rintro _ rfl
  clear ho
  refine ww ?_
  cases h
  exact eF []
 refine ww ?_
 obtain⟨o13,ho,h⟩:=bi h
 refine cutS (fun s=>s=⟨[(1,.one (.c (.pt 0 0))),(45,.one (.c (dB o13)))],[some (.box [dI x0.Kind,dI x0.N,dS x0.S,dM (x0.List_.map eTValue),dM (x0.Fields.map eTField)])]⟩) ?_ ?_
 ·have h:=ho
  clear ho
  refine ww ?_
  refine condSh h (fun c14 h=>?_) (fun c14 h=>?_)
  ·refine ww ?_
   cases h
   exact eM [some 0] rfl
  refine ww ?_
  refine condSh h (fun c15 h=>?_) (fun c15 h=>?_)
  ·refine ww ?_
   cases h
   exact eM [some 0] rfl
  refine ww ?_
  cases h
  exact eM [some 0] rfl
 rintro _ rfl
 clear ho
 refine ww ?_
 refine condBh h (fun c16 h=>?_) (fun c16 h=>?_)
 ·refine ww ?_
  obtain⟨o17,ho,h⟩:=bi h
  refine cutS (fun s=>s=⟨[(2,.one (.c (dB o17)))],[]⟩) ?_ ?_
  ·have h:=ho
   clear ho
   refine ww ?_
   refine guardSh h (fun g18 h=>?_) (fun g18 h=>?_)
   ·refine ww ?_
    cases h
    exact eM [] rfl
   refine ww ?_
   cases h
   exact eM [] rfl
  rintro _ rfl
  clear ho
  refine ww ?_
  cases h
  exact eF []
 refine ww ?_
 cases h
 exact eF []
def F97_l2(rc34:TValue→Option ((List TValue)×(List TField))):List TValue→Nat→(List TValue)→Option ((List TValue))
 |[],o2_1,o2_0=>some o2_0
 |xo2::xs,o2_1,o2_0=>(rdI o2_0 ((o2_1:Int))).bind fun y4=>(rc34 y4).bind fun t5=>(rdI o2_0 ((o2_1:Int))).bind fun y6=>F97_l2 rc34 xs (o2_1+1) ((o2_0.set ((o2_1:Int)).toNat ((⟨y4.Kind,y4.N,y4.S,t5.1,t5.2⟩:TValue))))
def F97_l9(rc34:TValue→Option ((List TValue)×(List TField))):List TField→Nat→(List TField)→Option ((List TField))
 |[],o9_1,o9_0=>some o9_0
 |xo9::xs,o9_1,o9_0=>(rdI o9_0 ((o9_1:Int))).bind fun y11=>(rc34 y11.V).bind fun t12=>(rdI o9_0 ((o9_1:Int))).bind fun y13=>F97_l9 rc34 xs (o9_1+1) ((o9_0.set ((o9_1:Int)).toNat ((⟨y13.Name,(⟨y11.V.Kind,y11.V.N,y11.V.S,t12.1,t12.2⟩:TValue)⟩:TField))))
def F97(rc34:TValue→Option ((List TValue)×(List TField)))(x0:TValue):Option ((List TValue)×(List TField)):=(cloneI x0.List_).bind fun t1=>(((ck (0≤t1.length∧t1.length≤4294967290)).bind fun u7=>F97_l2 rc34 t1 0 t1).bind fun o2=>(cloneI x0.Fields).bind fun t8=>(((ck (0≤t8.length∧t8.length≤4294967290)).bind fun u14=>F97_l9 rc34 t8 0 t8).bind fun o9=>some ((o2,o9))))
def a97:AFn:=⟨48,[(.cell 2 (some 5))],
 (.seq (.reg [sq 1 (.box (.t 0)),
sq 2 (.zbox [dI 0,dI 0,dS ⟨#[]⟩,dN,dN])])
 (.seq (.reg [sq 7 (.fieldA 3 (.t 1)),
sq 8 (.load none (.t 7)),
sq 9 (.call 120 [(.t 8)]),
sq 10 (.fieldA 3 (.t 1)),
su (.store 1 (.t 10) (.t 9))])
 (.seq (.seq (.reg [sq 11 (.fieldA 3 (.t 1)),
sq 12 (.load none (.t 11)),
sq 13 (.len (.t 12)),
sq 14 (.mv (kI 0))])
 (.sem (.block 0 (.loop (.seq (.reg [sq 15 (.bin .lss (.t 14) (.t 13))])
 (.seq (.cond (.t 15)
 .skip
 (.exit 0))
 (.seq (.block 1 (.seq (.reg [sq 16 (.mv (.t 14)),
sq 17 (.indexA 5 (.t 12) (.t 14)),
sq 18 (.load (some 5) (.t 17)),
sq 4 (.zbox [dI 0,dI 0,dS ⟨#[]⟩,dN,dN]),
sq 3 (.mv (.t 16)),
su (.store 5 (.t 4) (.t 18))])
 (.regd [sq 19 (.fieldA 3 (.t 1)),
sd 20 (.load none (.t 19)) [0],
sq 21 (.mv (.t 3)),
sq 22 (.load (some 5) (.t 4)),
zl 23 (.call 97 [(.t 22)]) [3] [1,19],
sd 24 (.indexA 5 (.t 20) (.t 21)) [0,1,2,3,4],
⟨none,none,.store 5 (.t 24) (.t 23),[0,1,2,3,4,5],(.lone [])⟩])))
 (.reg [sq 25 (.bin .add (.t 14) (kI 1)),
sq 14 (.mv (.t 25))]))))))))
 (.seq (.reg [sq 26 (.fieldA 4 (.t 1)),
sq 27 (.load none (.t 26)),
sq 28 (.call 121 [(.t 27)]),
sq 29 (.fieldA 4 (.t 1)),
su (.store 1 (.t 29) (.t 28))])
 (.seq (.seq (.reg [sq 30 (.fieldA 4 (.t 1)),
sq 31 (.load none (.t 30)),
sq 32 (.len (.t 31)),
sq 33 (.mv (kI 0))])
 (.sem (.block 2 (.loop (.seq (.reg [sq 34 (.bin .lss (.t 33) (.t 32))])
 (.seq (.cond (.t 34)
 .skip
 (.exit 2))
 (.seq (.block 3 (.seq (.reg [sq 35 (.mv (.t 33)),
sq 36 (.indexA 6 (.t 31) (.t 33)),
sq 37 (.load (some 6) (.t 36)),
sq 6 (.zbox [dS ⟨#[]⟩,dI 0,dI 0,dS ⟨#[]⟩,dN,dN]),
sq 5 (.mv (.t 35)),
su (.store 6 (.t 6) (.t 37))])
 (.regd [sq 38 (.fieldA 4 (.t 1)),
sd 39 (.load none (.t 38)) [0],
sq 40 (.mv (.t 5)),
sq 41 (.fieldA 1 (.t 6)),
sd 42 (.load (some 5) (.t 41)) [3],
zl 43 (.call 97 [(.t 42)]) [3,4] [1,38],
sd 44 (.indexA 6 (.t 39) (.t 40)) [0,1,2,3,4,5],
sd 45 (.fieldA 1 (.t 44)) [0,1,2,3,4,5,6],
⟨none,none,.store 5 (.t 45) (.t 43),[0,1,2,3,4,5,6,7],(.lone [])⟩])))
 (.reg [sq 46 (.bin .add (.t 33) (kI 1)),
sq 33 (.mv (.t 46))]))))))))
 (.seq (.reg [sq 47 (.load (some 5) (.t 1)),
⟨none,none,.store 5 (.t 2) (.t 47),[],(.lone [1])⟩])
 .ret))))))⟩
theorem a97_ok:afn Tryz.prog 97=some a97.er:=by kernel_rfl
theorem F97_ok{rc34:TValue→Option ((List TValue)×(List TField))}(ih34:∀{x0:TValue} {r:(List TValue)×(List TField)} (h:rc34 x0=some r),CallD Tryz.prog 97 [.agg [dI x0.Kind,dI x0.N,dS x0.S,dM (x0.List_.map eTValue),dM (x0.Fields.map eTField)]] [] (tupV [.agg [dI x0.Kind,dI x0.N,dS x0.S,.own 0 0 0 (r.1.length) none,.own 1 0 0 (r.2.length) none]]) [some (.arr 0 5 (r.1.map eTValue)),some (.arr 0 6 (r.2.map eTField))]){x0:TValue}{r:(List TValue)×(List TField)}(h:F97 rc34 x0=some r):CallD Tryz.prog 97 [.agg [dI x0.Kind,dI x0.N,dS x0.S,dM (x0.List_.map eTValue),dM (x0.Fields.map eTField)]] [] (tupV [.agg [dI x0.Kind,dI x0.N,dS x0.S,.own 0 0 0 (r.1.length) none,.own 1 0 0 (r.2.length) none]]) [some (.arr 0 5 (r.1.map eTValue)),some (.arr 0 6 (r.2.map eTField))]:=by
 refine callS a97_ok (by simp[a97]) ?_
 rw[F97]at h
 simp only[a97,VW.down,Nat.reduceEqDiff,reduceCtorEq,Nat.reduceAdd,Nat.reduceLeDiff,Nat.reduceLT,Nat.reduceBEq,Nat.reduceSub,EE.down]
 obtain⟨t1,ht1,h⟩:=bi h
 refine cN [] (F120_ok ht1) trivial (ww ?_)
 obtain⟨o2,ho,h⟩:=bi h
 refine cutS (fun s=>s=⟨[(1,.one (.c (.pt 0 0))),(2,.one (.c (.pt 2 0)))],[some (.box [dI x0.Kind,dI x0.N,dS x0.S,.own 1 0 0 (o2.length) none,dM (x0.Fields.map eTField)]),some (.arr 0 5 (o2.map eTValue)),some (.box [dI 0,dI 0,dS ((⟨#[]⟩:ByteArray)),dN,dN])]⟩) ?_ ?_
 ·have h:=ho
  clear ho
  obtain⟨_,hk,h⟩:=bi h
  have hk:=ck_some hk
  refine ww ?_
  refine bL (fun j s=>∃(o2_1:Nat) (o2_0:List TValue),(o2_1≤t1.length∧j=t1.length-o2_1)∧s=⟨[(1,.one (.c (.pt 0 0))),(2,.one (.c (.pt 2 0))),(12,.one (.c (.own 1 0 0 (o2_0.length) none))),(13,.one (.c (dI ((t1.length:Int))))),(14,.one (.c (dI ((o2_1:Int)))))],[some (.box [dI x0.Kind,dI x0.N,dS x0.S,.own 1 0 0 (o2_0.length) none,dM (x0.Fields.map eTField)]),some (.arr 0 5 (o2_0.map eTValue)),some (.box [dI 0,dI 0,dS ((⟨#[]⟩:ByteArray)),dN,dN])]⟩∧F97_l2 rc34 (t1.drop o2_1) o2_1 o2_0=some o2) (t1.length-0) [some 0,some 2,some 1] ⟨0,t1,⟨hk.1,rfl⟩,rfl,h⟩ ?_
  rintro _ _ ⟨o2_1,o2_0,⟨hi,rfl⟩,rfl,h⟩
  refine ww ?_
  refine condS (fun c3=>?_) (fun c3=>?_)
  ·obtain⟨xo2,hxo2,hd⟩:=countY (show(o2_1:Int)<(t1.length:Int)from c3)
   rw[hd,F97_l2]at h
   refine ww ?_
   obtain⟨y4,hy4,h⟩:=bi h
   refine t_idxO (enc:=eTValue) (xs:=o2_0) rfl rfl rfl (by first|rfl|simp only[List.length_set]|exact(clrL_len (slI_len (by assumption))).symm) hy4 (ww ?_)
   refine LdRow.rd (rdI_some hy4).2.1 (ww ?_)
   obtain⟨t5,ht5,h⟩:=bi h
   refine cN [] (ih34 ht5) trivial (ww ?_)
   obtain⟨y6,hy6,h⟩:=bi h
   refine t_idxO (enc:=eTValue) (xs:=o2_0) rfl rfl rfl (by first|rfl|simp only[List.length_set]|exact(clrL_len (slI_len (by assumption))).symm) hy6 (ww ?_)
   refine StRow.rd (y':=(⟨y4.Kind,y4.N,y4.S,t5.1,t5.2⟩:TValue)) (rdI_some hy6).2.1 (by simp[EE.down]) (by first|rfl|(simp only[bor_full'];rfl)|(simp only[eTValue_u,bor_full'];rfl)) (ww ?_)
   rw[wrapN (by omega)]
   exact eL' (t1.length-(o2_1+1)) [some 0,some 1,some 2] ⟨o2_1+1,(o2_0.set ((o2_1:Int)).toNat ((⟨y4.Kind,y4.N,y4.S,t5.1,t5.2⟩:TValue))),⟨by omega,rfl⟩,rfl,h⟩ (by omega)
  rw[countN (show¬((o2_1:Int)<(t1.length:Int))from c3),F97_l2]at h
  refine ww ?_
  cases h
  exact eM [some 0,some 1,some 2] rfl
 rintro _ rfl
 clear ho
 refine ww ?_
 obtain⟨t8,ht8,h⟩:=bi h
 refine cN [] (F121_ok ht8) trivial (ww ?_)
 obtain⟨o9,ho,h⟩:=bi h
 refine cutS (fun s=>s=⟨[(1,.one (.c (.pt 0 0))),(2,.one (.c (.pt 3 0)))],[some (.box [dI x0.Kind,dI x0.N,dS x0.S,.own 1 0 0 (o2.length) none,.own 2 0 0 (o9.length) none]),some (.arr 0 5 (o2.map eTValue)),some (.arr 0 6 (o9.map eTField)),some (.box [dI 0,dI 0,dS ((⟨#[]⟩:ByteArray)),dN,dN])]⟩) ?_ ?_
 ·have h:=ho
  clear ho
  obtain⟨_,hk,h⟩:=bi h
  have hk:=ck_some hk
  refine ww ?_
  refine bL (fun j s=>∃(o9_1:Nat) (o9_0:List TField),(o9_1≤t8.length∧j=t8.length-o9_1)∧s=⟨[(1,.one (.c (.pt 0 0))),(2,.one (.c (.pt 3 0))),(31,.one (.c (.own 2 0 0 (o9_0.length) none))),(32,.one (.c (dI ((t8.length:Int))))),(33,.one (.c (dI ((o9_1:Int)))))],[some (.box [dI x0.Kind,dI x0.N,dS x0.S,.own 1 0 0 (o2.length) none,.own 2 0 0 (o9_0.length) none]),some (.arr 0 5 (o2.map eTValue)),some (.arr 0 6 (o9_0.map eTField)),some (.box [dI 0,dI 0,dS ((⟨#[]⟩:ByteArray)),dN,dN])]⟩∧F97_l9 rc34 (t8.drop o9_1) o9_1 o9_0=some o9) (t8.length-0) [some 0,some 1,some 3,some 2] ⟨0,t8,⟨hk.1,rfl⟩,rfl,h⟩ ?_
  rintro _ _ ⟨o9_1,o9_0,⟨hi,rfl⟩,rfl,h⟩
  refine ww ?_
  refine condS (fun c10=>?_) (fun c10=>?_)
  ·obtain⟨xo9,hxo9,hd⟩:=countY (show(o9_1:Int)<(t8.length:Int)from c10)
   rw[hd,F97_l9]at h
   refine ww ?_
   obtain⟨y11,hy11,h⟩:=bi h
   refine t_idxO (enc:=eTField) (xs:=o9_0) rfl rfl rfl (by first|rfl|simp only[List.length_set]|exact(clrL_len (slI_len (by assumption))).symm) hy11 (ww ?_)
   refine LdRow.rd (rdI_some hy11).2.1 (ww ?_)
   obtain⟨t12,ht12,h⟩:=bi h
   refine cN [] (ih34 ht12) trivial (ww ?_)
   obtain⟨y13,hy13,h⟩:=bi h
   refine t_idxO (enc:=eTField) (xs:=o9_0) rfl rfl rfl (by first|rfl|simp only[List.length_set]|exact(clrL_len (slI_len (by assumption))).symm) hy13 (ww ?_)
   refine StRow.rd (y':=(⟨y13.Name,(⟨y11.V.Kind,y11.V.N,y11.V.S,t12.1,t12.2⟩:TValue)⟩:TField)) (rdI_some hy13).2.1 (by simp[EE.down]) (by first|rfl|(simp only[bor_full'];rfl)|(simp only[eTField_u,bor_full'];rfl)) (ww ?_)
   rw[wrapN (by omega)]
   exact eL' (t8.length-(o9_1+1)) [some 0,some 1,some 2,some 3] ⟨o9_1+1,(o9_0.set ((o9_1:Int)).toNat ((⟨y13.Name,(⟨y11.V.Kind,y11.V.N,y11.V.S,t12.1,t12.2⟩:TValue)⟩:TField))),⟨by omega,rfl⟩,rfl,h⟩ (by omega)
  rw[countN (show¬((o9_1:Int)<(t8.length:Int))from c10),F97_l9]at h
  refine ww ?_
  cases h
  exact eM [some 0,some 1,some 2,some 3] rfl
 rintro _ rfl
 clear ho
 refine ww ?_
 cases h
 exact eF [some 1,some 2]
def F97k:Nat→TValue→Option ((List TValue)×(List TField))
 |0=>fun _=>none
 |k+1=>F97 (F97k k)
theorem F97k_ok(k:Nat){x0:TValue}{r:(List TValue)×(List TField)}(h:F97k k x0=some r):CallD Tryz.prog 97 [.agg [dI x0.Kind,dI x0.N,dS x0.S,dM (x0.List_.map eTValue),dM (x0.Fields.map eTField)]] [] (tupV [.agg [dI x0.Kind,dI x0.N,dS x0.S,.own 0 0 0 (r.1.length) none,.own 1 0 0 (r.2.length) none]]) [some (.arr 0 5 (r.1.map eTValue)),some (.arr 0 6 (r.2.map eTField))]:=by
 induction k generalizing x0 r with
 |zero=>cases(show(none:Option ((List TValue)×(List TField)))=some _ from h)
 |succ k ih=>exact F97_ok (fun h=>ih h) h
theorem a112_ok:afn Tryz.prog 112=some (insertA 23 352 [.v (.string ⟨#[]⟩),.v (.string ⟨#[]⟩),.v (.string ⟨#[]⟩),.v (.int .i64 0),.v (.int .i64 0),.v (.int .i64 0),.v (.int .i64 0),.v (.bool false),.v (.int .i64 0),.sl [],.sl [],.sl [],.sl [],.v (.int .i64 0),.v (.int .i64 0),.v (.string ⟨#[]⟩),.sl [],.sl [],.v (.int .i64 0),.v (.int .i64 0),.v (.string ⟨#[]⟩),.sl [],.sl []] 128 129):=by kernel_rfl
theorem F112_ok{x0 r:List Object}{i:Int}{x:Object}{e0 e1:Nat}(h:insI x0 i x=some r):CallD Tryz.prog 112 [.c (.own 0 e0 0 x0.length none),aI i,.c (.own 1 e1 0 [x].length none)] [some (.arr e0 23 (x0.map eObject)),some (.arr e1 23 ([x].map eObject))] (tupV [.c (.own 0 (e0+1) 0 r.length none)]) [some (.arr (e0+1) 23 (r.map eObject)),some (.arr e1 23 ([x].map eObject))]:=L_insert a112_ok ov128 (fun _=>rfl) h
def F105(x0:Int)(x1:Int):Option (Int):=(F126 x0).bind fun t1=>(F126 x1).bind fun t2=>(if¬(True)then(if¬(True)then some 0 else some ((-1)))else(if¬(True)then some 1 else(if x0<x1 then some ((-1))else(if x1<x0 then some 1 else some 0))))
def a105:AFn:=⟨20,[(.tmp 4)],
 (.seq (.reg [sq 4 (.mv (kI 0))])
 (.seq (.reg [sq 7 (.mv (.t 0)),
sq 8 (.call 126 [(.t 7)]),
sq 5 (.mv (.t 8))])
 (.seq (.reg [sq 9 (.mv (.t 1)),
sq 10 (.call 126 [(.t 9)]),
sq 6 (.mv (.t 10))])
 (.seq (.seq (.reg [sq 11 (.mv (.t 5))])
 (.cond (.t 11)
 (.seq (.seq (.reg [sq 12 (.mv (.t 6))])
 (.cond (.t 12)
 (.seq (.reg [sq 4 (.mv (kI 0))])
 .ret)
 .skip))
 (.seq (.reg [sq 4 (.mv (kI (-1)))])
 .ret))
 .skip))
 (.seq (.seq (.reg [sq 13 (.mv (.t 6))])
 (.cond (.t 13)
 (.seq (.reg [sq 4 (.mv (kI 1))])
 .ret)
 .skip))
 (.seq (.seq (.reg [sq 14 (.mv (.t 0)),
sq 15 (.mv (.t 1)),
sq 16 (.bin .lss (.t 14) (.t 15))])
 (.cond (.t 16)
 (.seq (.reg [sq 4 (.mv (kI (-1)))])
 .ret)
 .skip))
 (.seq (.seq (.reg [sq 17 (.mv (.t 0)),
sq 18 (.mv (.t 1)),
sq 19 (.bin .gtr (.t 17) (.t 18))])
 (.cond (.t 19)
 (.seq (.reg [sq 4 (.mv (kI 1))])
 .ret)
 .skip))
 (.seq (.reg [sq 4 (.mv (kI 0))])
 .ret))))))))⟩
theorem a105_ok:afn Tryz.prog 105=some a105.er:=by kernel_rfl
theorem F105_ok{x0 x1 r}(h:F105 x0 x1=some r):CallD Tryz.prog 105 [.c (dI x0),.c (dI x1)] [] (tupV [.c (dI r)]) []:=by
 refine callS a105_ok (by simp[a105]) ?_
 rw[F105]at h
 simp only[a105,VW.down,Nat.reduceEqDiff,reduceCtorEq,Nat.reduceAdd,Nat.reduceLeDiff,Nat.reduceLT,Nat.reduceBEq,Nat.reduceSub,EE.down]
 obtain⟨t1,ht1,h⟩:=bi h
 refine cN [] (F126_ok ht1) trivial (ww ?_)
 obtain⟨t2,ht2,h⟩:=bi h
 refine cN [] (F126_ok ht2) trivial (ww ?_)
 refine condSh h (fun c3 h=>?_) (fun c3 h=>?_)
 ·refine ww ?_
  refine condSh h (fun c4 h=>?_) (fun c4 h=>?_)
  ·refine ww ?_
   cases h
   exact eF []
  refine ww ?_
  cases h
  exact eF []
 refine ww ?_
 refine condSh h (fun c5 h=>?_) (fun c5 h=>?_)
 ·refine ww ?_
  cases h
  exact eF []
 refine ww ?_
 refine condSh h (fun c6 h=>?_) (fun c6 h=>?_)
 ·refine ww ?_
  cases h
  exact eF []
 refine ww ?_
 refine condSh h (fun c7 h=>?_) (fun c7 h=>?_)
 ·refine ww ?_
  cases h
  exact eF []
 refine ww ?_
 cases h
 exact eF []
def F50(x0:Manager)(x1:Manager):Option (Bool):=(((if x0.Name=x1.Name then(F49 x0.Fields x1.Fields).bind fun t3=>some t3 else some false)).bind fun o1=>some o1)
def a50:AFn:=⟨17,[(.tmp 4)],
 (.seq (.reg [sq 2 (.box (.t 0)),
sq 3 (.box (.t 1)),
sq 4 (.mv (kB false))])
 (.seq (.sem (.reg [sq 5 (.fieldA 0 (.t 2)),
sq 6 (.load none (.t 5)),
sq 7 (.fieldA 0 (.t 3)),
sq 8 (.load none (.t 7)),
sq 9 (.bin .eql (.t 6) (.t 8)),
sq 10 (.mv (.t 9)),
zg 11 10 true (.fieldA 1 (.t 2)),
zg 12 10 true (.load none (.t 11)),
zg 13 10 true (.fieldA 1 (.t 3)),
zg 14 10 true (.load none (.t 13)),
zg 15 10 true (.call 49 [(.t 12),(.t 14)]),
sq 16 (.pick (.t 10) (.t 15) (kB false)),
sq 4 (.mv (.t 16))]))
 .ret))⟩
theorem a50_ok:afn Tryz.prog 50=some a50.er:=by kernel_rfl
theorem F50_ok{x0 x1 r}(h:F50 x0 x1=some r):CallD Tryz.prog 50 [.agg [dS x0.Name,dM (x0.Fields.map eS)],.agg [dS x1.Name,dM (x1.Fields.map eS)]] [] (tupV [.c (dB r)]) []:=by
 refine callS a50_ok (by simp[a50]) ?_
 rw[F50]at h
 simp only[a50,VW.down,Nat.reduceEqDiff,reduceCtorEq,Nat.reduceAdd,Nat.reduceLeDiff,Nat.reduceLT,Nat.reduceBEq,Nat.reduceSub,EE.down]
 obtain⟨o1,ho,h⟩:=bi h
 refine cutS (fun s=>s=⟨[(4,.one (.c (dB o1)))],[]⟩) ?_ ?_
 ·have h:=ho
  clear ho
  refine ww ?_
  refine guardSh h (fun g2 h=>?_) (fun g2 h=>?_)
  ·refine ww ?_
   obtain⟨t3,ht3,h⟩:=bi h
   refine cN [] (F49_ok ht3) trivial (ww ?_)
   cases h
   exact eM [] rfl
  refine ww ?_
  cases h
  exact eM [] rfl
 rintro _ rfl
 clear ho
 refine ww ?_
 cases h
 exact eF []
def F75(x0:Meta):Option (ByteArray):=(F98 x0.Kind x0.Namespace x0.Name).bind fun t1=>some t1
def a75:AFn:=⟨10,[(.tmp 2)],
 (.seq (.reg [sq 1 (.box (.t 0)),
sq 2 (.mv (kS ⟨#[]⟩))])
 (.seq (.reg [sq 3 (.fieldA 0 (.t 1)),
sq 4 (.load none (.t 3)),
sq 5 (.fieldA 1 (.t 1)),
sq 6 (.load none (.t 5)),
sq 7 (.fieldA 2 (.t 1)),
sq 8 (.load none (.t 7)),
sq 9 (.call 98 [(.t 4),(.t 6),(.t 8)]),
sq 2 (.mv (.t 9))])
 .ret))⟩
theorem a75_ok:afn Tryz.prog 75=some a75.er:=by kernel_rfl
theorem F75_ok{x0 r}(h:F75 x0=some r):CallD Tryz.prog 75 [.agg [dS x0.Kind,dS x0.Namespace,dS x0.Name,dI x0.Uid,dI x0.Version,dI x0.Generation,dI x0.Created,dB x0.Deleting,dI x0.DeleteAt,dM (x0.Labels.map eLabel),dM (x0.Owners.map eOwner),dM (x0.Finalizers.map eS),dM (x0.Managers.map eManager)]] [] (tupV [.c (dS r)]) []:=by
 refine callS a75_ok (by simp[a75]) ?_
 rw[F75]at h
 simp only[a75,VW.down,Nat.reduceEqDiff,reduceCtorEq,Nat.reduceAdd,Nat.reduceLeDiff,Nat.reduceLT,Nat.reduceBEq,Nat.reduceSub,EE.down]
 obtain⟨t1,ht1,h⟩:=bi h
 refine cN [] (F98_ok ht1) trivial (ww ?_)
 cases h
 exact eF []
end Go.Proofs.YtondgcmdhkhkkaaGreat
