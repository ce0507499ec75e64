/- Each Go function as a function over typed data, and its walk. -/
import Derived.Test.YtbopaemngpbdgaaGreatSX
import Derived.Test.YtbopaemngpbdgaaGreatSX3
import Derived.Test.YtbopaemngpbdgaaGreatSX5
import Derived.Test.YtbopaemngpbdgaaGreatSX8
import Derived.Test.YtbopaemngpbdgaaGreatSX9
import Derived.Test.YtbopaemngpbdgaaGreatSX11
import Derived.Test.YtbopaemngpbdgaaGreatSX13
namespace Go.Proofs.YtbopaemngpbdgaaGreat
open Go Go.Fw Go.Shelf
set_option maxRecDepth 100000
set_option maxHeartbeats 4000000
set_option linter.unusedSimpArgs false
set_option linter.unusedVariables false
def F55_l1(x1:ByteArray):List Object→Nat→Option ((Int) ⊕ (Unit))
 |[],o1_0=>some (Sum.inr (()))
 |xo1::xs,o1_0=>(F56 xo1).bind fun t3=>(if t3=x1 then(some ((o1_0:Int))).map Sum.inl else F55_l1 x1 xs (o1_0+1))
def F55(x0:(List Object))(x1:ByteArray):Option (Int):=(((ck (0≤x0.length∧x0.length≤4294967290)).bind fun u5=>F55_l1 x1 x0 0:Option ((Int) ⊕ (Unit))).bind fun o1=>match o1 with|Sum.inl f=>some f|Sum.inr po1=>some ((-1)))
def a55:AFn:=⟨20,[(.tmp 4)],
 (.seq (.reg [sq 4 (.mv (kI 0))])
 (.seq (.seq (.reg [sq 5 (.mv (kI 0))])
 (.sem (.block 0 (.loop (.seq (.seq (.reg [sq 6 (.mv (.t 5)),
sq 7 (.mv (.t 0)),
sq 8 (.len (.t 7)),
sq 9 (.bin .lss (.t 6) (.t 8))])
 (.cond (.t 9)
 .skip
 (.exit 0)))
 (.seq (.block 1 (.seq (.reg [sq 12 (.mv (.t 0)),
sq 13 (.mv (.t 5)),
sq 14 (.indexA 23 (.t 12) (.t 13)),
sq 15 (.load (some 23) (.t 14)),
sq 16 (.call 56 [(.t 15)]),
sq 17 (.mv (.t 1)),
sq 18 (.bin .eql (.t 16) (.t 17))])
 (.cond (.t 18)
 (.seq (.reg [sq 19 (.mv (.t 5)),
sq 4 (.mv (.t 19))])
 .ret)
 .skip)))
 (.reg [sq 10 (.mv (.t 5)),
sq 11 (.bin .add (.t 10) (kI 1)),
sq 5 (.mv (.t 11))])))))))
 (.seq (.reg [sq 4 (.mv (kI (-1)))])
 .ret)))⟩
theorem a55_ok:afn Tryz.prog 55=some a55.er:=by kernel_rfl
theorem F55_ok{x0 x1 r}(h:F55 x0 x1=some r):CallD Tryz.prog 55 [.c (dM (x0.map eObject)),.c (dS x1)] [] (tupV [.c (dI r)]) []:=by
 refine callS a55_ok (by simp[a55]) ?_
 rw[F55]at h
 simp only[a55,VW.down,Nat.reduceEqDiff,reduceCtorEq,Nat.reduceAdd,Nat.reduceLeDiff,Nat.reduceLT,Nat.reduceBEq,Nat.reduceSub,EE.down]
 obtain⟨o1,ho,h⟩:=bi h
 refine cutS (fun s=>∃po1,o1=Sum.inr po1∧s=⟨[],[]⟩) ?_ ?_
 ·have h0o1:=h
  have h:=ho
  clear ho
  obtain⟨_,hk,h⟩:=bi h
  have hk:=ck_some hk
  refine ww ?_
  refine bL (fun j s=>∃(o1_0:Nat),(o1_0≤x0.length∧j=x0.length-o1_0)∧s=⟨[(0,.one (.c (dM (x0.map eObject)))),(1,.one (.c (dS x1))),(5,.one (.c (dI ((o1_0:Int)))))],[]⟩∧F55_l1 x1 (x0.drop o1_0) o1_0=some o1) (x0.length-0) [] ⟨0,⟨hk.1,rfl⟩,rfl,h⟩ ?_
  rintro _ _ ⟨o1_0,⟨hi,rfl⟩,rfl,h⟩
  refine ww ?_
  refine condS (fun c2=>?_) (fun c2=>?_)
  ·obtain⟨xo1,hxo1,hd⟩:=countY (show(o1_0:Int)<(x0.length:Int)from c2)
   rw[hd,F55_l1]at h
   refine ww ?_
   refine t_idxF (enc:=eObject) (xs:=x0) rfl rfl hxo1 rfl (ww ?_)
   obtain⟨t3,ht3,h⟩:=bi h
   refine cN [] (F56_ok ht3) trivial (ww ?_)
   refine condSh h (fun c4 h=>?_) (fun c4 h=>?_)
   ·refine ww ?_
    obtain⟨fh0o1,hfh0o1,rfl⟩:=Option.map_eq_some_iff.1 h
    have h:=hfh0o1.trans h0o1
    cases h
    exact eF []
   refine ww ?_
   rw[wrapN (by omega)]
   exact eL' (x0.length-(o1_0+1)) [] ⟨o1_0+1,⟨by omega,rfl⟩,rfl,h⟩ (by omega)
  rw[countN (show¬((o1_0:Int)<(x0.length:Int))from c2),F55_l1]at h
  refine ww ?_
  cases h
  exact eM [] ⟨_,rfl,rfl⟩
 rintro _ ⟨po1,rfl,rfl⟩
 clear ho
 dsimp only at h
 refine ww ?_
 cases h
 exact eF []
def F28(x0:TStore)(x1:ByteArray):Option (Object×Bool):=(F55 x0.Objects x1).bind fun t1=>(if t1<0 then some (((⟨(⟨(⟨#[]⟩:ByteArray),(⟨#[]⟩:ByteArray),(⟨#[]⟩:ByteArray),0,0,0,0,false,0,[],[],[],[]⟩:Meta),(⟨0,0,(⟨#[]⟩:ByteArray),[],[]⟩:TValue),(⟨0,0,(⟨#[]⟩:ByteArray),[],[]⟩:TValue)⟩:Object),false))else(rdI x0.Objects t1).bind fun y3=>some ((y3,true)))
def a28:AFn:=⟨19,[(.cell 4 (some 23)),(.tmp 5)],
 (.seq (.reg [sq 2 (.box (.t 0)),
sq 4 (.zbox [dS ⟨#[]⟩,dS ⟨#[]⟩,dS ⟨#[]⟩,dI 0,dI 0,dI 0,dI 0,dB false,dI 0,dN,dN,dN,dN,dI 0,dI 0,dS ⟨#[]⟩,dN,dN,dI 0,dI 0,dS ⟨#[]⟩,dN,dN]),
sq 5 (.mv (kB false))])
 (.seq (.reg [sq 7 (.fieldA 4 (.t 2)),
sq 8 (.load none (.t 7)),
sq 9 (.mv (.t 1)),
sq 10 (.call 55 [(.t 8),(.t 9)]),
sq 6 (.mv (.t 10))])
 (.seq (.seq (.reg [sq 11 (.mv (.t 6)),
sq 12 (.bin .lss (.t 11) (kI 0))])
 (.cond (.t 12)
 (.seq (.reg [sq 13 (.build [dS ⟨#[]⟩,dS ⟨#[]⟩,dS ⟨#[]⟩,dI 0,dI 0,dI 0,dI 0,dB false,dI 0,dN,dN,dN,dN,dI 0,dI 0,dS ⟨#[]⟩,dN,dN,dI 0,dI 0,dS ⟨#[]⟩,dN,dN] []),
su (.store 23 (.t 4) (.t 13)),
sq 5 (.mv (kB false))])
 .ret)
 .skip))
 (.seq (.reg [sq 14 (.fieldA 4 (.t 2)),
sq 15 (.load none (.t 14)),
sq 16 (.mv (.t 6)),
sq 17 (.indexA 23 (.t 15) (.t 16)),
sq 18 (.load (some 23) (.t 17)),
su (.store 23 (.t 4) (.t 18)),
sq 5 (.mv (kB true))])
 .ret))))⟩
theorem a28_ok:afn Tryz.prog 28=some a28.er:=by kernel_rfl
theorem F28_ok{x0 x1 r}(h:F28 x0 x1=some r):CallD Tryz.prog 28 [.agg [dI x0.Rev,dI x0.Floor,dI x0.NextUid,dM (x0.Base.map eObject),dM (x0.Objects.map eObject),dM (x0.History.map eChange)],.c (dS x1)] [] (tupV [.agg [dS ((r.1).Meta.Kind),dS ((r.1).Meta.Namespace),dS ((r.1).Meta.Name),dI ((r.1).Meta.Uid),dI ((r.1).Meta.Version),dI ((r.1).Meta.Generation),dI ((r.1).Meta.Created),dB ((r.1).Meta.Deleting),dI ((r.1).Meta.DeleteAt),dM (((r.1).Meta.Labels).map eLabel),dM (((r.1).Meta.Owners).map eOwner),dM (((r.1).Meta.Finalizers).map eS),dM (((r.1).Meta.Managers).map eManager),dI ((r.1).Spec.Kind),dI ((r.1).Spec.N),dS ((r.1).Spec.S),dM (((r.1).Spec.List_).map eTValue),dM (((r.1).Spec.Fields).map eTField),dI ((r.1).Status.Kind),dI ((r.1).Status.N),dS ((r.1).Status.S),dM (((r.1).Status.List_).map eTValue),dM (((r.1).Status.Fields).map eTField)],.c (dB r.2)]) []:=by
 refine callS a28_ok (by simp[a28]) ?_
 rw[F28]at h
 simp only[a28,VW.down,Nat.reduceEqDiff,reduceCtorEq,Nat.reduceAdd,Nat.reduceLeDiff,Nat.reduceLT,Nat.reduceBEq,Nat.reduceSub,EE.down]
 obtain⟨t1,ht1,h⟩:=bi h
 refine cN [] (F55_ok ht1) trivial (ww ?_)
 refine condSh h (fun c2 h=>?_) (fun c2 h=>?_)
 ·refine ww ?_
  cases h
  exact eF []
 refine ww ?_
 obtain⟨y3,hy3,h⟩:=bi h
 refine t_idxF (enc:=eObject) (xs:=x0.Objects) rfl rfl hy3 rfl (ww ?_)
 cases h
 exact eF []
def F42(x0:Meta):Option (Bool):=(((F83 x0.Kind).bind fun t2=>(if(nb t2)=true then some true else(if¬(x0.Namespace=(⟨#[]⟩:ByteArray))then(F84 x0.Namespace).bind fun t5=>(if(nb t5)=true then some true else(F84 x0.Name).bind fun t7=>some (nb t7))else(F84 x0.Name).bind fun t8=>some (nb t8)))).bind fun o1=>(if o1=true then some false else(((if x0.Uid<0 then some true else(if x0.Version<0 then some true else(if x0.Generation<0 then some true else(if x0.Created<0 then some true else(if x0.DeleteAt<0 then some true else(if(nb x0.Deleting)=true then some (decide (¬(x0.DeleteAt=0)))else some false))))))).bind fun o10=>(if o10=true then some false else(((F85 x0.Labels).bind fun t19=>(if t19=true then(F86 x0.Owners).bind fun t21=>(if t21=true then(F87 x0.Finalizers).bind fun t23=>(if t23=true then(F88 x0.Managers).bind fun t25=>some t25 else some false)else some false)else some false)).bind fun o18=>some o18)))))
def a42:AFn:=⟨75,[(.tmp 2)],
 (.seq (.reg [sq 1 (.box (.t 0)),
sq 2 (.mv (kB false))])
 (.seq (.seq (.sem (.reg [sq 3 (.fieldA 0 (.t 1)),
sq 4 (.load none (.t 3)),
sq 5 (.call 83 [(.t 4)]),
sq 6 (.not (.t 5)),
sq 7 (.mv (.t 6)),
zg 8 7 false (.fieldA 1 (.t 1)),
zg 9 7 false (.load none (.t 8)),
zg 10 7 false (.bin .neq (.t 9) (kS ⟨#[]⟩)),
zg 11 7 false (.mv (.t 10)),
zg 12 11 true (.fieldA 1 (.t 1)),
zg 13 11 true (.load none (.t 12)),
zg 14 11 true (.call 84 [(.t 13)]),
zg 15 11 true (.not (.t 14)),
zg 16 7 false (.pick (.t 11) (.t 15) (kB false)),
sq 17 (.pick (.t 7) (kB true) (.t 16)),
sq 18 (.mv (.t 17)),
zg 19 18 false (.fieldA 2 (.t 1)),
zg 20 18 false (.load none (.t 19)),
zg 21 18 false (.call 84 [(.t 20)]),
zg 22 18 false (.not (.t 21)),
sq 23 (.pick (.t 18) (kB true) (.t 22))]))
 (.cond (.t 23)
 (.seq (.reg [sq 2 (.mv (kB false))])
 .ret)
 .skip))
 (.seq (.seq (.sem (.reg [sq 24 (.fieldA 3 (.t 1)),
sq 25 (.load none (.t 24)),
sq 26 (.bin .lss (.t 25) (kI 0)),
sq 27 (.mv (.t 26)),
zg 28 27 false (.fieldA 4 (.t 1)),
zg 29 27 false (.load none (.t 28)),
zg 30 27 false (.bin .lss (.t 29) (kI 0)),
sq 31 (.pick (.t 27) (kB true) (.t 30)),
sq 32 (.mv (.t 31)),
zg 33 32 false (.fieldA 5 (.t 1)),
zg 34 32 false (.load none (.t 33)),
zg 35 32 false (.bin .lss (.t 34) (kI 0)),
sq 36 (.pick (.t 32) (kB true) (.t 35)),
sq 37 (.mv (.t 36)),
zg 38 37 false (.fieldA 6 (.t 1)),
zg 39 37 false (.load none (.t 38)),
zg 40 37 false (.bin .lss (.t 39) (kI 0)),
sq 41 (.pick (.t 37) (kB true) (.t 40)),
sq 42 (.mv (.t 41)),
zg 43 42 false (.fieldA 8 (.t 1)),
zg 44 42 false (.load none (.t 43)),
zg 45 42 false (.bin .lss (.t 44) (kI 0)),
sq 46 (.pick (.t 42) (kB true) (.t 45)),
sq 47 (.mv (.t 46)),
zg 48 47 false (.fieldA 7 (.t 1)),
zg 49 47 false (.load none (.t 48)),
zg 50 47 false (.not (.t 49)),
zg 51 47 false (.mv (.t 50)),
zg 52 51 true (.fieldA 8 (.t 1)),
zg 53 51 true (.load none (.t 52)),
zg 54 51 true (.bin .neq (.t 53) (kI 0)),
zg 55 47 false (.pick (.t 51) (.t 54) (kB false)),
sq 56 (.pick (.t 47) (kB true) (.t 55))]))
 (.cond (.t 56)
 (.seq (.reg [sq 2 (.mv (kB false))])
 .ret)
 .skip))
 (.seq (.sem (.reg [sq 57 (.fieldA 9 (.t 1)),
sq 58 (.load none (.t 57)),
sq 59 (.call 85 [(.t 58)]),
sq 60 (.mv (.t 59)),
zg 61 60 true (.fieldA 10 (.t 1)),
zg 62 60 true (.load none (.t 61)),
zg 63 60 true (.call 86 [(.t 62)]),
sq 64 (.pick (.t 60) (.t 63) (kB false)),
sq 65 (.mv (.t 64)),
zg 66 65 true (.fieldA 11 (.t 1)),
zg 67 65 true (.load none (.t 66)),
zg 68 65 true (.call 87 [(.t 67)]),
sq 69 (.pick (.t 65) (.t 68) (kB false)),
sq 70 (.mv (.t 69)),
zg 71 70 true (.fieldA 12 (.t 1)),
zg 72 70 true (.load none (.t 71)),
zg 73 70 true (.call 88 [(.t 72)]),
sq 74 (.pick (.t 70) (.t 73) (kB false)),
sq 2 (.mv (.t 74))]))
 .ret))))⟩
theorem a42_ok:afn Tryz.prog 42=some a42.er:=by kernel_rfl
theorem F42_ok{x0 r}(h:F42 x0=some r):CallD Tryz.prog 42 [.agg [dS x0.Kind,dS x0.Namespace,dS x0.Name,dI x0.Uid,dI x0.Version,dI x0.Generation,dI x0.Created,dB x0.Deleting,dI x0.DeleteAt,dM (x0.Labels.map eLabel),dM (x0.Owners.map eOwner),dM (x0.Finalizers.map eS),dM (x0.Managers.map eManager)]] [] (tupV [.c (dB r)]) []:=by
 refine callS a42_ok (by simp[a42]) ?_
 rw[F42]at h
 simp only[a42,VW.down,Nat.reduceEqDiff,reduceCtorEq,Nat.reduceAdd,Nat.reduceLeDiff,Nat.reduceLT,Nat.reduceBEq,Nat.reduceSub,EE.down]
 obtain⟨o1,ho,h⟩:=bi h
 refine cutS (fun s=>s=⟨[(1,.one (.c (.pt 0 0))),(23,.one (.c (dB o1)))],[some (.box [dS x0.Kind,dS x0.Namespace,dS x0.Name,dI x0.Uid,dI x0.Version,dI x0.Generation,dI x0.Created,dB x0.Deleting,dI x0.DeleteAt,dM (x0.Labels.map eLabel),dM (x0.Owners.map eOwner),dM (x0.Finalizers.map eS),dM (x0.Managers.map eManager)])]⟩) ?_ ?_
 ·have h:=ho
  clear ho
  refine ww ?_
  obtain⟨t2,ht2,h⟩:=bi h
  refine cN [] (F83_ok ht2) trivial (ww ?_)
  refine guardSBh h (fun g3 h=>?_) (fun g3 h=>?_)
  ·refine ww ?_
   cases h
   exact eM [some 0] rfl
  refine ww ?_
  refine guardSh h (fun g4 h=>?_) (fun g4 h=>?_)
  ·refine ww ?_
   obtain⟨t5,ht5,h⟩:=bi h
   refine cN [] (F84_ok ht5) trivial (ww ?_)
   refine guardSBh h (fun g6 h=>?_) (fun g6 h=>?_)
   ·refine ww ?_
    cases h
    exact eM [some 0] rfl
   refine ww ?_
   obtain⟨t7,ht7,h⟩:=bi h
   refine cN [] (F84_ok ht7) trivial (ww ?_)
   cases h
   exact eM [some 0] rfl
  refine ww ?_
  obtain⟨t8,ht8,h⟩:=bi h
  refine cN [] (F84_ok ht8) trivial (ww ?_)
  cases h
  exact eM [some 0] rfl
 rintro _ rfl
 clear ho
 refine ww ?_
 refine condBh h (fun c9 h=>?_) (fun c9 h=>?_)
 ·refine ww ?_
  cases h
  exact eF []
 refine ww ?_
 obtain⟨o10,ho,h⟩:=bi h
 refine cutS (fun s=>s=⟨[(1,.one (.c (.pt 0 0))),(56,.one (.c (dB o10)))],[some (.box [dS x0.Kind,dS x0.Namespace,dS x0.Name,dI x0.Uid,dI x0.Version,dI x0.Generation,dI x0.Created,dB x0.Deleting,dI x0.DeleteAt,dM (x0.Labels.map eLabel),dM (x0.Owners.map eOwner),dM (x0.Finalizers.map eS),dM (x0.Managers.map eManager)])]⟩) ?_ ?_
 ·have h:=ho
  clear ho
  refine ww ?_
  refine guardSh h (fun g11 h=>?_) (fun g11 h=>?_)
  ·refine ww ?_
   cases h
   exact eM [some 0] rfl
  refine ww ?_
  refine guardSh h (fun g12 h=>?_) (fun g12 h=>?_)
  ·refine ww ?_
   cases h
   exact eM [some 0] rfl
  refine ww ?_
  refine guardSh h (fun g13 h=>?_) (fun g13 h=>?_)
  ·refine ww ?_
   cases h
   exact eM [some 0] rfl
  refine ww ?_
  refine guardSh h (fun g14 h=>?_) (fun g14 h=>?_)
  ·refine ww ?_
   cases h
   exact eM [some 0] rfl
  refine ww ?_
  refine guardSh h (fun g15 h=>?_) (fun g15 h=>?_)
  ·refine ww ?_
   cases h
   exact eM [some 0] rfl
  refine ww ?_
  refine guardSBh h (fun g16 h=>?_) (fun g16 h=>?_)
  ·refine ww ?_
   cases h
   exact eM [some 0] rfl
  refine ww ?_
  cases h
  exact eM [some 0] rfl
 rintro _ rfl
 clear ho
 refine ww ?_
 refine condBh h (fun c17 h=>?_) (fun c17 h=>?_)
 ·refine ww ?_
  cases h
  exact eF []
 refine ww ?_
 obtain⟨o18,ho,h⟩:=bi h
 refine cutS (fun s=>s=⟨[(2,.one (.c (dB o18)))],[]⟩) ?_ ?_
 ·have h:=ho
  clear ho
  refine ww ?_
  obtain⟨t19,ht19,h⟩:=bi h
  refine cN [] (F85_ok ht19) trivial (ww ?_)
  refine guardSBh h (fun g20 h=>?_) (fun g20 h=>?_)
  ·refine ww ?_
   obtain⟨t21,ht21,h⟩:=bi h
   refine cN [] (F86_ok ht21) trivial (ww ?_)
   refine guardSBh h (fun g22 h=>?_) (fun g22 h=>?_)
   ·refine ww ?_
    obtain⟨t23,ht23,h⟩:=bi h
    refine cN [] (F87_ok ht23) trivial (ww ?_)
    refine guardSBh h (fun g24 h=>?_) (fun g24 h=>?_)
    ·refine ww ?_
     obtain⟨t25,ht25,h⟩:=bi h
     refine cN [] (F88_ok ht25) trivial (ww ?_)
     cases h
     exact eM [] rfl
    refine ww ?_
    cases h
    exact eM [] rfl
   refine ww ?_
   cases h
   exact eM [] rfl
  refine ww ?_
  cases h
  exact eM [] rfl
 rintro _ rfl
 clear ho
 refine ww ?_
 cases h
 exact eF []
def F43(x0:TValue):Option (Bool):=(((F89k 1099511627776 x0 12).bind fun t2=>(if t2=true then(F31k 1099511627776 x0).bind fun t4=>some (decide (t4≤600))else some false)).bind fun o1=>some o1)
def a43:AFn:=⟨10,[(.tmp 2)],
 (.seq (.reg [sq 1 (.box (.t 0)),
sq 2 (.mv (kB false))])
 (.seq (.sem (.reg [sq 3 (.load (some 5) (.t 1)),
sq 4 (.call 89 [(.t 3),(kI 12)]),
sq 5 (.mv (.t 4)),
zg 6 5 true (.load (some 5) (.t 1)),
zg 7 5 true (.call 31 [(.t 6)]),
zg 8 5 true (.bin .leq (.t 7) (kI 600)),
sq 9 (.pick (.t 5) (.t 8) (kB false)),
sq 2 (.mv (.t 9))]))
 .ret))⟩
theorem a43_ok:afn Tryz.prog 43=some a43.er:=by kernel_rfl
theorem F43_ok{x0 r}(h:F43 x0=some r):CallD Tryz.prog 43 [.agg [dI x0.Kind,dI x0.N,dS x0.S,dM (x0.List_.map eTValue),dM (x0.Fields.map eTField)]] [] (tupV [.c (dB r)]) []:=by
 refine callS a43_ok (by simp[a43]) ?_
 rw[F43]at h
 simp only[a43,VW.down,Nat.reduceEqDiff,reduceCtorEq,Nat.reduceAdd,Nat.reduceLeDiff,Nat.reduceLT,Nat.reduceBEq,Nat.reduceSub,EE.down]
 obtain⟨o1,ho,h⟩:=bi h
 refine cutS (fun s=>s=⟨[(2,.one (.c (dB o1)))],[]⟩) ?_ ?_
 ·have h:=ho
  clear ho
  refine ww ?_
  obtain⟨t2,ht2,h⟩:=bi h
  refine cN [] (F89k_ok 1099511627776 ht2) trivial (ww ?_)
  refine guardSBh h (fun g3 h=>?_) (fun g3 h=>?_)
  ·refine ww ?_
   obtain⟨t4,ht4,h⟩:=bi h
   refine cN [] (F31k_ok 1099511627776 ht4) trivial (ww ?_)
   cases h
   exact eM [] rfl
  refine ww ?_
  cases h
  exact eM [] rfl
 rintro _ rfl
 clear ho
 refine ww ?_
 cases h
 exact eF []
def F14(x0:Object):Option (Bool):=(((F42 x0.Meta).bind fun t2=>(if t2=true then(F43 x0.Spec).bind fun t4=>(if t4=true then(F43 x0.Status).bind fun t6=>some t6 else some false)else some false)).bind fun o1=>some o1)
def a14:AFn:=⟨16,[(.tmp 2)],
 (.seq (.reg [sq 1 (.box (.t 0)),
sq 2 (.mv (kB false))])
 (.seq (.sem (.reg [sq 3 (.fieldA 0 (.t 1)),
sq 4 (.load (some 13) (.t 3)),
sq 5 (.call 42 [(.t 4)]),
sq 6 (.mv (.t 5)),
zg 7 6 true (.fieldA 13 (.t 1)),
zg 8 6 true (.load (some 5) (.t 7)),
zg 9 6 true (.call 43 [(.t 8)]),
sq 10 (.pick (.t 6) (.t 9) (kB false)),
sq 11 (.mv (.t 10)),
zg 12 11 true (.fieldA 18 (.t 1)),
zg 13 11 true (.load (some 5) (.t 12)),
zg 14 11 true (.call 43 [(.t 13)]),
sq 15 (.pick (.t 11) (.t 14) (kB false)),
sq 2 (.mv (.t 15))]))
 .ret))⟩
theorem a14_ok:afn Tryz.prog 14=some a14.er:=by kernel_rfl
theorem F14_ok{x0 r}(h:F14 x0=some r):CallD Tryz.prog 14 [.agg [dS x0.Meta.Kind,dS x0.Meta.Namespace,dS x0.Meta.Name,dI x0.Meta.Uid,dI x0.Meta.Version,dI x0.Meta.Generation,dI x0.Meta.Created,dB x0.Meta.Deleting,dI x0.Meta.DeleteAt,dM (x0.Meta.Labels.map eLabel),dM (x0.Meta.Owners.map eOwner),dM (x0.Meta.Finalizers.map eS),dM (x0.Meta.Managers.map eManager),dI x0.Spec.Kind,dI x0.Spec.N,dS x0.Spec.S,dM (x0.Spec.List_.map eTValue),dM (x0.Spec.Fields.map eTField),dI x0.Status.Kind,dI x0.Status.N,dS x0.Status.S,dM (x0.Status.List_.map eTValue),dM (x0.Status.Fields.map eTField)]] [] (tupV [.c (dB r)]) []:=by
 refine callS a14_ok (by simp[a14]) ?_
 rw[F14]at h
 simp only[a14,VW.down,Nat.reduceEqDiff,reduceCtorEq,Nat.reduceAdd,Nat.reduceLeDiff,Nat.reduceLT,Nat.reduceBEq,Nat.reduceSub,EE.down]
 obtain⟨o1,ho,h⟩:=bi h
 refine cutS (fun s=>s=⟨[(2,.one (.c (dB o1)))],[]⟩) ?_ ?_
 ·have h:=ho
  clear ho
  refine ww ?_
  obtain⟨t2,ht2,h⟩:=bi h
  refine cN [] (F42_ok ht2) trivial (ww ?_)
  refine guardSBh h (fun g3 h=>?_) (fun g3 h=>?_)
  ·refine ww ?_
   obtain⟨t4,ht4,h⟩:=bi h
   refine cN [] (F43_ok ht4) trivial (ww ?_)
   refine guardSBh h (fun g5 h=>?_) (fun g5 h=>?_)
   ·refine ww ?_
    obtain⟨t6,ht6,h⟩:=bi h
    refine cN [] (F43_ok ht6) trivial (ww ?_)
    cases h
    exact eM [] rfl
   refine ww ?_
   cases h
   exact eM [] rfl
  refine ww ?_
  cases h
  exact eM [] rfl
 rintro _ rfl
 clear ho
 refine ww ?_
 cases h
 exact eF []
end Go.Proofs.YtbopaemngpbdgaaGreat
