/- Each Go function as a function over typed data, and its walk. -/
import Derived.Test.YtbopaemngpbdgaaHX
import Derived.Test.YtbopaemngpbdgaaHX2
import Derived.Test.YtbopaemngpbdgaaHX3
import Derived.Test.YtbopaemngpbdgaaHX5
namespace Go.Proofs.Ytbopaemngpbdgaa
open Go Go.Fw Go.Shelf
set_option maxRecDepth 100000
set_option maxHeartbeats 4000000
set_option linter.unusedSimpArgs false
set_option linter.unusedVariables false
def F24_l1:List Manager→Nat→Int→Option (Int)
 |[],o1_1,o1_0=>some o1_0
 |xo1::xs,o1_1,o1_0=>F24_l1 xs (o1_1+1) ((IntKind.i64.wrap (o1_0+((xo1.Fields.length:Int)))))
def F24(x0:Object):Option (Int):=(((ck (0≤x0.Meta.Managers.length∧x0.Meta.Managers.length≤4294967290)).bind fun u3=>F24_l1 x0.Meta.Managers 0 ((IntKind.i64.wrap (((IntKind.i64.wrap (((IntKind.i64.wrap (((IntKind.i64.wrap (1+((x0.Meta.Labels.length:Int)))))+((x0.Meta.Owners.length:Int)))))+((x0.Meta.Finalizers.length:Int)))))+((x0.Meta.Managers.length:Int)))))).bind fun o1=>(F53k 1099511627776 x0.Spec).bind fun t4=>(F53k 1099511627776 x0.Status).bind fun t5=>some ((IntKind.i64.wrap (((IntKind.i64.wrap (o1+t4)))+t5))))
def a24:AFn:=⟨52,[(.tmp 2)],
 (.seq (.reg [sq 1 (.box (.t 0)),
sq 2 (.mv (kI 0))])
 (.seq (.reg [sq 5 (.fieldA 0 (.t 1)),
sq 6 (.fieldA 9 (.t 5)),
sq 7 (.load none (.t 6)),
sq 8 (.len (.t 7)),
sq 9 (.bin .add (kI 1) (.t 8)),
sq 10 (.fieldA 0 (.t 1)),
sq 11 (.fieldA 10 (.t 10)),
sq 12 (.load none (.t 11)),
sq 13 (.len (.t 12)),
sq 14 (.bin .add (.t 9) (.t 13)),
sq 15 (.fieldA 0 (.t 1)),
sq 16 (.fieldA 11 (.t 15)),
sq 17 (.load none (.t 16)),
sq 18 (.len (.t 17)),
sq 19 (.bin .add (.t 14) (.t 18)),
sq 20 (.fieldA 0 (.t 1)),
sq 21 (.fieldA 12 (.t 20)),
sq 22 (.load none (.t 21)),
sq 23 (.len (.t 22)),
sq 24 (.bin .add (.t 19) (.t 23)),
sq 3 (.mv (.t 24))])
 (.seq (.seq (.reg [sq 4 (.mv (kI 0))])
 (.sem (.block 0 (.loop (.seq (.seq (.reg [sq 25 (.mv (.t 4)),
sq 26 (.fieldA 0 (.t 1)),
sq 27 (.fieldA 12 (.t 26)),
sq 28 (.load none (.t 27)),
sq 29 (.len (.t 28)),
sq 30 (.bin .lss (.t 25) (.t 29))])
 (.cond (.t 30)
 .skip
 (.exit 0)))
 (.seq (.block 1 (.reg [sq 33 (.mv (.t 3)),
sq 34 (.fieldA 0 (.t 1)),
sq 35 (.fieldA 12 (.t 34)),
sq 36 (.load none (.t 35)),
sq 37 (.mv (.t 4)),
sq 38 (.indexA 2 (.t 36) (.t 37)),
sq 39 (.fieldA 1 (.t 38)),
sq 40 (.load none (.t 39)),
sq 41 (.len (.t 40)),
sq 42 (.bin .add (.t 33) (.t 41)),
sq 3 (.mv (.t 42))]))
 (.reg [sq 31 (.mv (.t 4)),
sq 32 (.bin .add (.t 31) (kI 1)),
sq 4 (.mv (.t 32))])))))))
 (.seq (.regd [sq 43 (.mv (.t 3)),
sq 44 (.fieldA 13 (.t 1)),
sd 45 (.load (some 5) (.t 44)) [1],
zn 46 (.call 53 [(.t 45)]) [1,2] [1,2],
sd 47 (.bin .add (.t 43) (.t 46)) [0,1,2,3],
sq 48 (.fieldA 18 (.t 1)),
sd 49 (.load (some 5) (.t 48)) [5],
zl 50 (.call 53 [(.t 49)]) [1,2,3,5,6] [],
sd 51 (.bin .add (.t 47) (.t 50)) [0,1,2,3,4,5,6,7],
sd 2 (.mv (.t 51)) [0,1,2,3,4,5,6,7,8]])
 .ret))))⟩
theorem a24_ok:afn Try.prog 24=some a24.er:=by kernel_rfl
theorem F24_ok{x0 r}(h:F24 x0=some r):CallD Try.prog 24 [.agg [dS x0.Meta.Kind,dS x0.Meta.Namespace,dS x0.Meta.Name,dI x0.Meta.Uid,dI x0.Meta.Version,dI x0.Meta.Generation,dI x0.Meta.Created,dB x0.Meta.Deleting,dI x0.Meta.DeleteAt,dM (x0.Meta.Labels.map eLabel),dM (x0.Meta.Owners.map eOwner),dM (x0.Meta.Finalizers.map eS),dM (x0.Meta.Managers.map eManager),dI x0.Spec.Kind,dI x0.Spec.N,dS x0.Spec.S,dM (x0.Spec.List_.map eTValue),dM (x0.Spec.Fields.map eTField),dI x0.Status.Kind,dI x0.Status.N,dS x0.Status.S,dM (x0.Status.List_.map eTValue),dM (x0.Status.Fields.map eTField)]] [] (tupV [.c (dI r)]) []:=by
 refine callS a24_ok (by simp[a24]) ?_
 rw[F24]at h
 simp only[a24,VW.down,Nat.reduceEqDiff,reduceCtorEq,Nat.reduceAdd,Nat.reduceLeDiff,Nat.reduceLT,Nat.reduceBEq,Nat.reduceSub,EE.down]
 obtain⟨o1,ho,h⟩:=bi h
 refine cutS (fun s=>s=⟨[(1,.one (.c (.pt 0 0))),(3,.one (.c (dI o1)))],[some (.box [dS x0.Meta.Kind,dS x0.Meta.Namespace,dS x0.Meta.Name,dI x0.Meta.Uid,dI x0.Meta.Version,dI x0.Meta.Generation,dI x0.Meta.Created,dB x0.Meta.Deleting,dI x0.Meta.DeleteAt,dM (x0.Meta.Labels.map eLabel),dM (x0.Meta.Owners.map eOwner),dM (x0.Meta.Finalizers.map eS),dM (x0.Meta.Managers.map eManager),dI x0.Spec.Kind,dI x0.Spec.N,dS x0.Spec.S,dM (x0.Spec.List_.map eTValue),dM (x0.Spec.Fields.map eTField),dI x0.Status.Kind,dI x0.Status.N,dS x0.Status.S,dM (x0.Status.List_.map eTValue),dM (x0.Status.Fields.map eTField)])]⟩) ?_ ?_
 ·have h:=ho
  clear ho
  obtain⟨_,hk,h⟩:=bi h
  have hk:=ck_some hk
  refine ww ?_
  refine bL (fun j s=>∃(o1_1:Nat) (o1_0:Int),(o1_1≤x0.Meta.Managers.length∧j=x0.Meta.Managers.length-o1_1)∧s=⟨[(1,.one (.c (.pt 0 0))),(3,.one (.c (dI o1_0))),(4,.one (.c (dI ((o1_1:Int)))))],[some (.box [dS x0.Meta.Kind,dS x0.Meta.Namespace,dS x0.Meta.Name,dI x0.Meta.Uid,dI x0.Meta.Version,dI x0.Meta.Generation,dI x0.Meta.Created,dB x0.Meta.Deleting,dI x0.Meta.DeleteAt,dM (x0.Meta.Labels.map eLabel),dM (x0.Meta.Owners.map eOwner),dM (x0.Meta.Finalizers.map eS),dM (x0.Meta.Managers.map eManager),dI x0.Spec.Kind,dI x0.Spec.N,dS x0.Spec.S,dM (x0.Spec.List_.map eTValue),dM (x0.Spec.Fields.map eTField),dI x0.Status.Kind,dI x0.Status.N,dS x0.Status.S,dM (x0.Status.List_.map eTValue),dM (x0.Status.Fields.map eTField)])]⟩∧F24_l1 (x0.Meta.Managers.drop o1_1) o1_1 o1_0=some o1) (x0.Meta.Managers.length-0) [some 0] ⟨0,(IntKind.i64.wrap (((IntKind.i64.wrap (((IntKind.i64.wrap (((IntKind.i64.wrap (1+((x0.Meta.Labels.length:Int)))))+((x0.Meta.Owners.length:Int)))))+((x0.Meta.Finalizers.length:Int)))))+((x0.Meta.Managers.length:Int)))),⟨hk.1,rfl⟩,rfl,h⟩ ?_
  rintro _ _ ⟨o1_1,o1_0,⟨hi,rfl⟩,rfl,h⟩
  refine ww ?_
  refine condS (fun c2=>?_) (fun c2=>?_)
  ·obtain⟨xo1,hxo1,hd⟩:=countY (show(o1_1:Int)<(x0.Meta.Managers.length:Int)from c2)
   rw[hd,F24_l1]at h
   refine ww ?_
   refine t_idxF (enc:=eManager) (xs:=x0.Meta.Managers) rfl rfl hxo1 rfl (ww ?_)
   rw[wrapN (by omega)]
   exact eL' (x0.Meta.Managers.length-(o1_1+1)) [some 0] ⟨o1_1+1,(IntKind.i64.wrap (o1_0+((xo1.Fields.length:Int)))),⟨by omega,rfl⟩,rfl,h⟩ (by omega)
  rw[countN (show¬((o1_1:Int)<(x0.Meta.Managers.length:Int))from c2),F24_l1]at h
  refine ww ?_
  cases h
  exact eM [some 0] rfl
 rintro _ rfl
 clear ho
 refine ww ?_
 obtain⟨t4,ht4,h⟩:=bi h
 refine cN [] (F53k_ok 1099511627776 ht4) trivial (ww ?_)
 obtain⟨t5,ht5,h⟩:=bi h
 refine cN [] (F53k_ok 1099511627776 ht5) trivial (ww ?_)
 cases h
 exact eF []
def F97(x0:ByteArray)(x1:ByteArray):Option (Int):=(cmpS x0 x1).bind fun t1=>some t1
def a97:AFn:=⟨8,[(.tmp 4)],
 (.seq (.reg [sq 4 (.mv (kI 0))])
 (.seq (.reg [sq 5 (.mv (.t 0)),
sq 6 (.mv (.t 1)),
sq 7 (.call 109 [(.t 5),(.t 6)]),
sq 4 (.mv (.t 7))])
 .ret))⟩
theorem a97_ok:afn Try.prog 97=some a97.er:=by kernel_rfl
theorem F97_ok{x0 x1 r}(h:F97 x0 x1=some r):CallD Try.prog 97 [.c (dS x0),.c (dS x1)] [] (tupV [.c (dI r)]) []:=by
 refine callS a97_ok (by simp[a97]) ?_
 rw[F97]at h
 simp only[a97,VW.down,Nat.reduceEqDiff,reduceCtorEq,Nat.reduceAdd,Nat.reduceLeDiff,Nat.reduceLT,Nat.reduceBEq,Nat.reduceSub,EE.down]
 obtain⟨t1,ht1,h⟩:=bi h
 refine cN [] (F109_ok ht1) trivial (ww ?_)
 cases h
 exact eF []
def F104(x0:TValue):Option (Bool):=(if x0.Kind=1 then(((if x0.S=(⟨#[]⟩:ByteArray)then(if x0.N=0 then some true else some (decide (x0.N=1)))else some false)).bind fun o2=>some o2)else(if x0.Kind=2 then(((if x0.S=(⟨#[]⟩:ByteArray)then(if(-1000000000000000)≤x0.N then some (decide (x0.N≤1000000000000000))else some false)else some false)).bind fun o6=>some o6)else(if x0.Kind=3 then(((if x0.N=0 then(F111 x0.S).bind fun t12=>some t12 else some false)).bind fun o10=>some o10)else(((if x0.Kind=0 then some (decide (x0.Kind=0))else(if x0.Kind=4 then some (decide (x0.Kind=4))else some (decide (x0.Kind=5))))).bind fun o13=>(if o13=true then(((if x0.N=0 then some (decide (x0.S=(⟨#[]⟩:ByteArray)))else some false)).bind fun o17=>some o17)else some false)))))
def a104:AFn:=⟨57,[(.tmp 2)],
 (.seq (.reg [sq 1 (.box (.t 0)),
sq 2 (.mv (kB false))])
 (.seq (.seq (.reg [sq 3 (.fieldA 0 (.t 1)),
sq 4 (.load none (.t 3))])
 (.block 0 (.seq (.reg [sq 6 (.bin .eql (.t 4) (kI 1)),
sq 5 (.mv (.t 6))])
 (.cond (.t 5)
 (.seq (.sem (.reg [sq 7 (.fieldA 2 (.t 1)),
sq 8 (.load none (.t 7)),
sq 9 (.bin .eql (.t 8) (kS ⟨#[]⟩)),
sq 10 (.mv (.t 9)),
zg 11 10 true (.fieldA 1 (.t 1)),
zg 12 10 true (.load none (.t 11)),
zg 13 10 true (.bin .eql (.t 12) (kI 0)),
zg 14 10 true (.mv (.t 13)),
zg 15 14 false (.fieldA 1 (.t 1)),
zg 16 14 false (.load none (.t 15)),
zg 17 14 false (.bin .eql (.t 16) (kI 1)),
zg 18 10 true (.pick (.t 14) (kB true) (.t 17)),
sq 19 (.pick (.t 10) (.t 18) (kB false)),
sq 2 (.mv (.t 19))]))
 .ret)
 (.seq (.reg [sq 21 (.bin .eql (.t 4) (kI 2)),
sq 20 (.mv (.t 21))])
 (.cond (.t 20)
 (.seq (.sem (.reg [sq 22 (.fieldA 2 (.t 1)),
sq 23 (.load none (.t 22)),
sq 24 (.bin .eql (.t 23) (kS ⟨#[]⟩)),
sq 25 (.mv (.t 24)),
zg 26 25 true (.fieldA 1 (.t 1)),
zg 27 25 true (.load none (.t 26)),
zg 28 25 true (.bin .geq (.t 27) (kI (-1000000000000000))),
sq 29 (.pick (.t 25) (.t 28) (kB false)),
sq 30 (.mv (.t 29)),
zg 31 30 true (.fieldA 1 (.t 1)),
zg 32 30 true (.load none (.t 31)),
zg 33 30 true (.bin .leq (.t 32) (kI 1000000000000000)),
sq 34 (.pick (.t 30) (.t 33) (kB false)),
sq 2 (.mv (.t 34))]))
 .ret)
 (.seq (.reg [sq 36 (.bin .eql (.t 4) (kI 3)),
sq 35 (.mv (.t 36))])
 (.cond (.t 35)
 (.seq (.sem (.reg [sq 37 (.fieldA 1 (.t 1)),
sq 38 (.load none (.t 37)),
sq 39 (.bin .eql (.t 38) (kI 0)),
sq 40 (.mv (.t 39)),
zg 41 40 true (.fieldA 2 (.t 1)),
zg 42 40 true (.load none (.t 41)),
zg 43 40 true (.call 111 [(.t 42)]),
sq 44 (.pick (.t 40) (.t 43) (kB false)),
sq 2 (.mv (.t 44))]))
 .ret)
 (.seq (.sem (.seq (.reg [sq 46 (.bin .eql (.t 4) (kI 0)),
sq 45 (.mv (.t 46))])
 (.cond (.t 45)
 .skip
 (.seq (.reg [sq 47 (.bin .eql (.t 4) (kI 4)),
sq 45 (.mv (.t 47))])
 (.cond (.t 45)
 .skip
 (.reg [sq 48 (.bin .eql (.t 4) (kI 5)),
sq 45 (.mv (.t 48))]))))))
 (.cond (.t 45)
 (.seq (.sem (.reg [sq 49 (.fieldA 1 (.t 1)),
sq 50 (.load none (.t 49)),
sq 51 (.bin .eql (.t 50) (kI 0)),
sq 52 (.mv (.t 51)),
zg 53 52 true (.fieldA 2 (.t 1)),
zg 54 52 true (.load none (.t 53)),
zg 55 52 true (.bin .eql (.t 54) (kS ⟨#[]⟩)),
sq 56 (.pick (.t 52) (.t 55) (kB false)),
sq 2 (.mv (.t 56))]))
 .ret)
 .skip))))))))))
 (.seq (.reg [sq 2 (.mv (kB false))])
 .ret)))⟩
theorem a104_ok:afn Try.prog 104=some a104.er:=by kernel_rfl
theorem F104_ok{x0 r}(h:F104 x0=some r):CallD Try.prog 104 [.agg [dI x0.Kind,dI x0.N,dS x0.S,dM (x0.List_.map eTValue),dM (x0.Fields.map eTField)]] [] (tupV [.c (dB r)]) []:=by
 refine callS a104_ok (by simp[a104]) ?_
 rw[F104]at h
 simp only[a104,VW.down,Nat.reduceEqDiff,reduceCtorEq,Nat.reduceAdd,Nat.reduceLeDiff,Nat.reduceLT,Nat.reduceBEq,Nat.reduceSub,EE.down]
 refine condSh h (fun c1 h=>?_) (fun c1 h=>?_)
 ·refine ww ?_
  obtain⟨o2,ho,h⟩:=bi h
  refine cutS (fun s=>s=⟨[(2,.one (.c (dB o2)))],[]⟩) ?_ ?_
  ·have h:=ho
   clear ho
   refine ww ?_
   refine guardSh h (fun g3 h=>?_) (fun g3 h=>?_)
   ·refine ww ?_
    refine guardSh h (fun g4 h=>?_) (fun g4 h=>?_)
    ·refine ww ?_
     cases h
     exact eM [] rfl
    refine ww ?_
    cases h
    exact eM [] rfl
   refine ww ?_
   cases h
   exact eM [] rfl
  rintro _ rfl
  clear ho
  refine ww ?_
  cases h
  exact eF []
 refine ww ?_
 refine condSh h (fun c5 h=>?_) (fun c5 h=>?_)
 ·refine ww ?_
  obtain⟨o6,ho,h⟩:=bi h
  refine cutS (fun s=>s=⟨[(2,.one (.c (dB o6)))],[]⟩) ?_ ?_
  ·have h:=ho
   clear ho
   refine ww ?_
   refine guardSh h (fun g7 h=>?_) (fun g7 h=>?_)
   ·refine ww ?_
    refine guardSh h (fun g8 h=>?_) (fun g8 h=>?_)
    ·refine ww ?_
     cases h
     exact eM [] rfl
    refine ww ?_
    cases h
    exact eM [] rfl
   refine ww ?_
   cases h
   exact eM [] rfl
  rintro _ rfl
  clear ho
  refine ww ?_
  cases h
  exact eF []
 refine ww ?_
 refine condSh h (fun c9 h=>?_) (fun c9 h=>?_)
 ·refine ww ?_
  obtain⟨o10,ho,h⟩:=bi h
  refine cutS (fun s=>s=⟨[(2,.one (.c (dB o10)))],[]⟩) ?_ ?_
  ·have h:=ho
   clear ho
   refine ww ?_
   refine guardSh h (fun g11 h=>?_) (fun g11 h=>?_)
   ·refine ww ?_
    obtain⟨t12,ht12,h⟩:=bi h
    refine cN [] (F111_ok ht12) trivial (ww ?_)
    cases h
    exact eM [] rfl
   refine ww ?_
   cases h
   exact eM [] rfl
  rintro _ rfl
  clear ho
  refine ww ?_
  cases h
  exact eF []
 refine ww ?_
 obtain⟨o13,ho,h⟩:=bi h
 refine cutS (fun s=>s=⟨[(1,.one (.c (.pt 0 0))),(45,.one (.c (dB o13)))],[some (.box [dI x0.Kind,dI x0.N,dS x0.S,dM (x0.List_.map eTValue),dM (x0.Fields.map eTField)])]⟩) ?_ ?_
 ·have h:=ho
  clear ho
  refine ww ?_
  refine condSh h (fun c14 h=>?_) (fun c14 h=>?_)
  ·refine ww ?_
   cases h
   exact eM [some 0] rfl
  refine ww ?_
  refine condSh h (fun c15 h=>?_) (fun c15 h=>?_)
  ·refine ww ?_
   cases h
   exact eM [some 0] rfl
  refine ww ?_
  cases h
  exact eM [some 0] rfl
 rintro _ rfl
 clear ho
 refine ww ?_
 refine condBh h (fun c16 h=>?_) (fun c16 h=>?_)
 ·refine ww ?_
  obtain⟨o17,ho,h⟩:=bi h
  refine cutS (fun s=>s=⟨[(2,.one (.c (dB o17)))],[]⟩) ?_ ?_
  ·have h:=ho
   clear ho
   refine ww ?_
   refine guardSh h (fun g18 h=>?_) (fun g18 h=>?_)
   ·refine ww ?_
    cases h
    exact eM [] rfl
   refine ww ?_
   cases h
   exact eM [] rfl
  rintro _ rfl
  clear ho
  refine ww ?_
  cases h
  exact eF []
 refine ww ?_
 cases h
 exact eF []
def F41(x0:Manager)(x1:Manager):Option (Bool):=(((if x0.Name=x1.Name then(F40 x0.Fields x1.Fields).bind fun t3=>some t3 else some false)).bind fun o1=>some o1)
def a41:AFn:=⟨17,[(.tmp 4)],
 (.seq (.reg [sq 2 (.box (.t 0)),
sq 3 (.box (.t 1)),
sq 4 (.mv (kB false))])
 (.seq (.sem (.reg [sq 5 (.fieldA 0 (.t 2)),
sq 6 (.load none (.t 5)),
sq 7 (.fieldA 0 (.t 3)),
sq 8 (.load none (.t 7)),
sq 9 (.bin .eql (.t 6) (.t 8)),
sq 10 (.mv (.t 9)),
zg 11 10 true (.fieldA 1 (.t 2)),
zg 12 10 true (.load none (.t 11)),
zg 13 10 true (.fieldA 1 (.t 3)),
zg 14 10 true (.load none (.t 13)),
zg 15 10 true (.call 40 [(.t 12),(.t 14)]),
sq 16 (.pick (.t 10) (.t 15) (kB false)),
sq 4 (.mv (.t 16))]))
 .ret))⟩
theorem a41_ok:afn Try.prog 41=some a41.er:=by kernel_rfl
theorem F41_ok{x0 x1 r}(h:F41 x0 x1=some r):CallD Try.prog 41 [.agg [dS x0.Name,dM (x0.Fields.map eS)],.agg [dS x1.Name,dM (x1.Fields.map eS)]] [] (tupV [.c (dB r)]) []:=by
 refine callS a41_ok (by simp[a41]) ?_
 rw[F41]at h
 simp only[a41,VW.down,Nat.reduceEqDiff,reduceCtorEq,Nat.reduceAdd,Nat.reduceLeDiff,Nat.reduceLT,Nat.reduceBEq,Nat.reduceSub,EE.down]
 obtain⟨o1,ho,h⟩:=bi h
 refine cutS (fun s=>s=⟨[(4,.one (.c (dB o1)))],[]⟩) ?_ ?_
 ·have h:=ho
  clear ho
  refine ww ?_
  refine guardSh h (fun g2 h=>?_) (fun g2 h=>?_)
  ·refine ww ?_
   obtain⟨t3,ht3,h⟩:=bi h
   refine cN [] (F40_ok ht3) trivial (ww ?_)
   cases h
   exact eM [] rfl
  refine ww ?_
  cases h
  exact eM [] rfl
 rintro _ rfl
 clear ho
 refine ww ?_
 cases h
 exact eF []
def F54(x0:Meta):Option (ByteArray):=(F76 x0.Kind x0.Namespace x0.Name).bind fun t1=>some t1
def a54:AFn:=⟨10,[(.tmp 2)],
 (.seq (.reg [sq 1 (.box (.t 0)),
sq 2 (.mv (kS ⟨#[]⟩))])
 (.seq (.reg [sq 3 (.fieldA 0 (.t 1)),
sq 4 (.load none (.t 3)),
sq 5 (.fieldA 1 (.t 1)),
sq 6 (.load none (.t 5)),
sq 7 (.fieldA 2 (.t 1)),
sq 8 (.load none (.t 7)),
sq 9 (.call 76 [(.t 4),(.t 6),(.t 8)]),
sq 2 (.mv (.t 9))])
 .ret))⟩
theorem a54_ok:afn Try.prog 54=some a54.er:=by kernel_rfl
theorem F54_ok{x0 r}(h:F54 x0=some r):CallD Try.prog 54 [.agg [dS x0.Kind,dS x0.Namespace,dS x0.Name,dI x0.Uid,dI x0.Version,dI x0.Generation,dI x0.Created,dB x0.Deleting,dI x0.DeleteAt,dM (x0.Labels.map eLabel),dM (x0.Owners.map eOwner),dM (x0.Finalizers.map eS),dM (x0.Managers.map eManager)]] [] (tupV [.c (dS r)]) []:=by
 refine callS a54_ok (by simp[a54]) ?_
 rw[F54]at h
 simp only[a54,VW.down,Nat.reduceEqDiff,reduceCtorEq,Nat.reduceAdd,Nat.reduceLeDiff,Nat.reduceLT,Nat.reduceBEq,Nat.reduceSub,EE.down]
 obtain⟨t1,ht1,h⟩:=bi h
 refine cN [] (F76_ok ht1) trivial (ww ?_)
 cases h
 exact eF []
end Go.Proofs.Ytbopaemngpbdgaa
