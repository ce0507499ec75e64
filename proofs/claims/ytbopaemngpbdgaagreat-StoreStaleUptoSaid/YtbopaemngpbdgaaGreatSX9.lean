/- Each Go function as a function over typed data, and its walk. -/
import Derived.Test.YtbopaemngpbdgaaGreatSX
import Derived.Test.YtbopaemngpbdgaaGreatSX2
import Derived.Test.YtbopaemngpbdgaaGreatSX3
import Derived.Test.YtbopaemngpbdgaaGreatSX4
import Derived.Test.YtbopaemngpbdgaaGreatSX5
namespace Go.Proofs.YtbopaemngpbdgaaGreat
open Go Go.Fw Go.Shelf
set_option maxRecDepth 100000
set_option maxHeartbeats 4000000
set_option linter.unusedSimpArgs false
set_option linter.unusedVariables false
def F7_l1:List Manager→Nat→Int→Option (Int)
 |[],o1_1,o1_0=>some o1_0
 |xo1::xs,o1_1,o1_0=>F7_l1 xs (o1_1+1) ((IntKind.i64.wrap (o1_0+((xo1.Fields.length:Int)))))
def F7(x0:Object):Option (Int):=(((ck (0≤x0.Meta.Managers.length∧x0.Meta.Managers.length≤4294967290)).bind fun u3=>F7_l1 x0.Meta.Managers 0 ((IntKind.i64.wrap (((IntKind.i64.wrap (((IntKind.i64.wrap (((IntKind.i64.wrap (1+((x0.Meta.Labels.length:Int)))))+((x0.Meta.Owners.length:Int)))))+((x0.Meta.Finalizers.length:Int)))))+((x0.Meta.Managers.length:Int)))))).bind fun o1=>(F31k 1099511627776 x0.Spec).bind fun t4=>(F31k 1099511627776 x0.Status).bind fun t5=>some ((IntKind.i64.wrap (((IntKind.i64.wrap (o1+t4)))+t5))))
def a7:AFn:=⟨52,[(.tmp 2)],
 (.seq (.reg [sq 1 (.box (.t 0)),
sq 2 (.mv (kI 0))])
 (.seq (.reg [sq 5 (.fieldA 0 (.t 1)),
sq 6 (.fieldA 9 (.t 5)),
sq 7 (.load none (.t 6)),
sq 8 (.len (.t 7)),
sq 9 (.bin .add (kI 1) (.t 8)),
sq 10 (.fieldA 0 (.t 1)),
sq 11 (.fieldA 10 (.t 10)),
sq 12 (.load none (.t 11)),
sq 13 (.len (.t 12)),
sq 14 (.bin .add (.t 9) (.t 13)),
sq 15 (.fieldA 0 (.t 1)),
sq 16 (.fieldA 11 (.t 15)),
sq 17 (.load none (.t 16)),
sq 18 (.len (.t 17)),
sq 19 (.bin .add (.t 14) (.t 18)),
sq 20 (.fieldA 0 (.t 1)),
sq 21 (.fieldA 12 (.t 20)),
sq 22 (.load none (.t 21)),
sq 23 (.len (.t 22)),
sq 24 (.bin .add (.t 19) (.t 23)),
sq 3 (.mv (.t 24))])
 (.seq (.seq (.reg [sq 4 (.mv (kI 0))])
 (.sem (.block 0 (.loop (.seq (.seq (.reg [sq 25 (.mv (.t 4)),
sq 26 (.fieldA 0 (.t 1)),
sq 27 (.fieldA 12 (.t 26)),
sq 28 (.load none (.t 27)),
sq 29 (.len (.t 28)),
sq 30 (.bin .lss (.t 25) (.t 29))])
 (.cond (.t 30)
 .skip
 (.exit 0)))
 (.seq (.block 1 (.reg [sq 33 (.mv (.t 3)),
sq 34 (.fieldA 0 (.t 1)),
sq 35 (.fieldA 12 (.t 34)),
sq 36 (.load none (.t 35)),
sq 37 (.mv (.t 4)),
sq 38 (.indexA 2 (.t 36) (.t 37)),
sq 39 (.fieldA 1 (.t 38)),
sq 40 (.load none (.t 39)),
sq 41 (.len (.t 40)),
sq 42 (.bin .add (.t 33) (.t 41)),
sq 3 (.mv (.t 42))]))
 (.reg [sq 31 (.mv (.t 4)),
sq 32 (.bin .add (.t 31) (kI 1)),
sq 4 (.mv (.t 32))])))))))
 (.seq (.regd [sq 43 (.mv (.t 3)),
sq 44 (.fieldA 13 (.t 1)),
sd 45 (.load (some 5) (.t 44)) [1],
zn 46 (.call 31 [(.t 45)]) [1,2] [1,2],
sd 47 (.bin .add (.t 43) (.t 46)) [0,1,2,3],
sq 48 (.fieldA 18 (.t 1)),
sd 49 (.load (some 5) (.t 48)) [5],
zl 50 (.call 31 [(.t 49)]) [1,2,3,5,6] [],
sd 51 (.bin .add (.t 47) (.t 50)) [0,1,2,3,4,5,6,7],
sd 2 (.mv (.t 51)) [0,1,2,3,4,5,6,7,8]])
 .ret))))⟩
theorem a7_ok:afn Tryz.prog 7=some a7.er:=by kernel_rfl
theorem F7_ok{x0 r}(h:F7 x0=some r):CallD Tryz.prog 7 [.agg [dS x0.Meta.Kind,dS x0.Meta.Namespace,dS x0.Meta.Name,dI x0.Meta.Uid,dI x0.Meta.Version,dI x0.Meta.Generation,dI x0.Meta.Created,dB x0.Meta.Deleting,dI x0.Meta.DeleteAt,dM (x0.Meta.Labels.map eLabel),dM (x0.Meta.Owners.map eOwner),dM (x0.Meta.Finalizers.map eS),dM (x0.Meta.Managers.map eManager),dI x0.Spec.Kind,dI x0.Spec.N,dS x0.Spec.S,dM (x0.Spec.List_.map eTValue),dM (x0.Spec.Fields.map eTField),dI x0.Status.Kind,dI x0.Status.N,dS x0.Status.S,dM (x0.Status.List_.map eTValue),dM (x0.Status.Fields.map eTField)]] [] (tupV [.c (dI r)]) []:=by
 refine callS a7_ok (by simp[a7]) ?_
 rw[F7]at h
 simp only[a7,VW.down,Nat.reduceEqDiff,reduceCtorEq,Nat.reduceAdd,Nat.reduceLeDiff,Nat.reduceLT,Nat.reduceBEq,Nat.reduceSub,EE.down]
 obtain⟨o1,ho,h⟩:=bi h
 refine cutS (fun s=>s=⟨[(1,.one (.c (.pt 0 0))),(3,.one (.c (dI o1)))],[some (.box [dS x0.Meta.Kind,dS x0.Meta.Namespace,dS x0.Meta.Name,dI x0.Meta.Uid,dI x0.Meta.Version,dI x0.Meta.Generation,dI x0.Meta.Created,dB x0.Meta.Deleting,dI x0.Meta.DeleteAt,dM (x0.Meta.Labels.map eLabel),dM (x0.Meta.Owners.map eOwner),dM (x0.Meta.Finalizers.map eS),dM (x0.Meta.Managers.map eManager),dI x0.Spec.Kind,dI x0.Spec.N,dS x0.Spec.S,dM (x0.Spec.List_.map eTValue),dM (x0.Spec.Fields.map eTField),dI x0.Status.Kind,dI x0.Status.N,dS x0.Status.S,dM (x0.Status.List_.map eTValue),dM (x0.Status.Fields.map eTField)])]⟩) ?_ ?_
 ·have h:=ho
  clear ho
  obtain⟨_,hk,h⟩:=bi h
  have hk:=ck_some hk
  refine ww ?_
  refine bL (fun j s=>∃(o1_1:Nat) (o1_0:Int),(o1_1≤x0.Meta.Managers.length∧j=x0.Meta.Managers.length-o1_1)∧s=⟨[(1,.one (.c (.pt 0 0))),(3,.one (.c (dI o1_0))),(4,.one (.c (dI ((o1_1:Int)))))],[some (.box [dS x0.Meta.Kind,dS x0.Meta.Namespace,dS x0.Meta.Name,dI x0.Meta.Uid,dI x0.Meta.Version,dI x0.Meta.Generation,dI x0.Meta.Created,dB x0.Meta.Deleting,dI x0.Meta.DeleteAt,dM (x0.Meta.Labels.map eLabel),dM (x0.Meta.Owners.map eOwner),dM (x0.Meta.Finalizers.map eS),dM (x0.Meta.Managers.map eManager),dI x0.Spec.Kind,dI x0.Spec.N,dS x0.Spec.S,dM (x0.Spec.List_.map eTValue),dM (x0.Spec.Fields.map eTField),dI x0.Status.Kind,dI x0.Status.N,dS x0.Status.S,dM (x0.Status.List_.map eTValue),dM (x0.Status.Fields.map eTField)])]⟩∧F7_l1 (x0.Meta.Managers.drop o1_1) o1_1 o1_0=some o1) (x0.Meta.Managers.length-0) [some 0] ⟨0,(IntKind.i64.wrap (((IntKind.i64.wrap (((IntKind.i64.wrap (((IntKind.i64.wrap (1+((x0.Meta.Labels.length:Int)))))+((x0.Meta.Owners.length:Int)))))+((x0.Meta.Finalizers.length:Int)))))+((x0.Meta.Managers.length:Int)))),⟨hk.1,rfl⟩,rfl,h⟩ ?_
  rintro _ _ ⟨o1_1,o1_0,⟨hi,rfl⟩,rfl,h⟩
  refine ww ?_
  refine condS (fun c2=>?_) (fun c2=>?_)
  ·obtain⟨xo1,hxo1,hd⟩:=countY (show(o1_1:Int)<(x0.Meta.Managers.length:Int)from c2)
   rw[hd,F7_l1]at h
   refine ww ?_
   refine t_idxF (enc:=eManager) (xs:=x0.Meta.Managers) rfl rfl hxo1 rfl (ww ?_)
   rw[wrapN (by omega)]
   exact eL' (x0.Meta.Managers.length-(o1_1+1)) [some 0] ⟨o1_1+1,(IntKind.i64.wrap (o1_0+((xo1.Fields.length:Int)))),⟨by omega,rfl⟩,rfl,h⟩ (by omega)
  rw[countN (show¬((o1_1:Int)<(x0.Meta.Managers.length:Int))from c2),F7_l1]at h
  refine ww ?_
  cases h
  exact eM [some 0] rfl
 rintro _ rfl
 clear ho
 refine ww ?_
 obtain⟨t4,ht4,h⟩:=bi h
 refine cN [] (F31k_ok 1099511627776 ht4) trivial (ww ?_)
 obtain⟨t5,ht5,h⟩:=bi h
 refine cN [] (F31k_ok 1099511627776 ht5) trivial (ww ?_)
 cases h
 exact eF []
def F37(x0:Meta):Option (ByteArray):=(F78 x0.Kind x0.Namespace x0.Name).bind fun t1=>some t1
def a37:AFn:=⟨10,[(.tmp 2)],
 (.seq (.reg [sq 1 (.box (.t 0)),
sq 2 (.mv (kS ⟨#[]⟩))])
 (.seq (.reg [sq 3 (.fieldA 0 (.t 1)),
sq 4 (.load none (.t 3)),
sq 5 (.fieldA 1 (.t 1)),
sq 6 (.load none (.t 5)),
sq 7 (.fieldA 2 (.t 1)),
sq 8 (.load none (.t 7)),
sq 9 (.call 78 [(.t 4),(.t 6),(.t 8)]),
sq 2 (.mv (.t 9))])
 .ret))⟩
theorem a37_ok:afn Tryz.prog 37=some a37.er:=by kernel_rfl
theorem F37_ok{x0 r}(h:F37 x0=some r):CallD Tryz.prog 37 [.agg [dS x0.Kind,dS x0.Namespace,dS x0.Name,dI x0.Uid,dI x0.Version,dI x0.Generation,dI x0.Created,dB x0.Deleting,dI x0.DeleteAt,dM (x0.Labels.map eLabel),dM (x0.Owners.map eOwner),dM (x0.Finalizers.map eS),dM (x0.Managers.map eManager)]] [] (tupV [.c (dS r)]) []:=by
 refine callS a37_ok (by simp[a37]) ?_
 rw[F37]at h
 simp only[a37,VW.down,Nat.reduceEqDiff,reduceCtorEq,Nat.reduceAdd,Nat.reduceLeDiff,Nat.reduceLT,Nat.reduceBEq,Nat.reduceSub,EE.down]
 obtain⟨t1,ht1,h⟩:=bi h
 refine cN [] (F78_ok ht1) trivial (ww ?_)
 cases h
 exact eF []
def F48(x0:Manager)(x1:Manager):Option (Bool):=(((if x0.Name=x1.Name then(F47 x0.Fields x1.Fields).bind fun t3=>some t3 else some false)).bind fun o1=>some o1)
def a48:AFn:=⟨17,[(.tmp 4)],
 (.seq (.reg [sq 2 (.box (.t 0)),
sq 3 (.box (.t 1)),
sq 4 (.mv (kB false))])
 (.seq (.sem (.reg [sq 5 (.fieldA 0 (.t 2)),
sq 6 (.load none (.t 5)),
sq 7 (.fieldA 0 (.t 3)),
sq 8 (.load none (.t 7)),
sq 9 (.bin .eql (.t 6) (.t 8)),
sq 10 (.mv (.t 9)),
zg 11 10 true (.fieldA 1 (.t 2)),
zg 12 10 true (.load none (.t 11)),
zg 13 10 true (.fieldA 1 (.t 3)),
zg 14 10 true (.load none (.t 13)),
zg 15 10 true (.call 47 [(.t 12),(.t 14)]),
sq 16 (.pick (.t 10) (.t 15) (kB false)),
sq 4 (.mv (.t 16))]))
 .ret))⟩
theorem a48_ok:afn Tryz.prog 48=some a48.er:=by kernel_rfl
theorem F48_ok{x0 x1 r}(h:F48 x0 x1=some r):CallD Tryz.prog 48 [.agg [dS x0.Name,dM (x0.Fields.map eS)],.agg [dS x1.Name,dM (x1.Fields.map eS)]] [] (tupV [.c (dB r)]) []:=by
 refine callS a48_ok (by simp[a48]) ?_
 rw[F48]at h
 simp only[a48,VW.down,Nat.reduceEqDiff,reduceCtorEq,Nat.reduceAdd,Nat.reduceLeDiff,Nat.reduceLT,Nat.reduceBEq,Nat.reduceSub,EE.down]
 obtain⟨o1,ho,h⟩:=bi h
 refine cutS (fun s=>s=⟨[(4,.one (.c (dB o1)))],[]⟩) ?_ ?_
 ·have h:=ho
  clear ho
  refine ww ?_
  refine guardSh h (fun g2 h=>?_) (fun g2 h=>?_)
  ·refine ww ?_
   obtain⟨t3,ht3,h⟩:=bi h
   refine cN [] (F47_ok ht3) trivial (ww ?_)
   cases h
   exact eM [] rfl
  refine ww ?_
  cases h
  exact eM [] rfl
 rintro _ rfl
 clear ho
 refine ww ?_
 cases h
 exact eF []
def F118_l2(x0:ByteArray):Nat→Int→Option ((Bool) ⊕ (Unit))
 |0,_=>none
 |k+1,o2_0=>(if o2_0<(x0.size:Int)then(((byI x0 o2_0).bind fun y5=>(F136 y5).bind fun t6=>(if(nb t6)=true then some true else(byI x0 o2_0).bind fun y8=>some (decide (y8=47)))).bind fun o4=>(if o4=true then(some false).map Sum.inl else F118_l2 x0 k ((IntKind.i64.wrap (o2_0+1)))))else some (Sum.inr (())))
def F118(x0:ByteArray):Option (Bool):=(if 40<(x0.size:Int)then some false else((F118_l2 x0 1099511627776 0:Option ((Bool) ⊕ (Unit))).bind fun o2=>match o2 with|Sum.inl f=>some f|Sum.inr po2=>some true))
def a118:AFn:=⟨24,[(.tmp 2)],
 (.seq (.reg [sq 2 (.mv (kB false))])
 (.seq (.seq (.reg [sq 4 (.mv (.t 0)),
sq 5 (.slen (.t 4)),
sq 6 (.bin .gtr (.t 5) (kI 40))])
 (.cond (.t 6)
 (.seq (.reg [sq 2 (.mv (kB false))])
 .ret)
 .skip))
 (.seq (.seq (.reg [sq 3 (.mv (kI 0))])
 (.sem (.block 0 (.loop (.seq (.seq (.reg [sq 7 (.mv (.t 3)),
sq 8 (.mv (.t 0)),
sq 9 (.slen (.t 8)),
sq 10 (.bin .lss (.t 7) (.t 9))])
 (.cond (.t 10)
 .skip
 (.exit 0)))
 (.seq (.block 1 (.seq (.sem (.reg [sq 13 (.mv (.t 0)),
sq 14 (.mv (.t 3)),
sq 15 (.sidx (.t 13) (.t 14)),
sq 16 (.call 136 [(.t 15)]),
sq 17 (.not (.t 16)),
sq 18 (.mv (.t 17)),
zg 19 18 false (.mv (.t 0)),
zg 20 18 false (.mv (.t 3)),
zg 21 18 false (.sidx (.t 19) (.t 20)),
zg 22 18 false (.bin .eql (.t 21) (.k (.c (.d (.v (.int .u8 47)))))),
sq 23 (.pick (.t 18) (kB true) (.t 22))]))
 (.cond (.t 23)
 (.seq (.reg [sq 2 (.mv (kB false))])
 .ret)
 .skip)))
 (.reg [sq 11 (.mv (.t 3)),
sq 12 (.bin .add (.t 11) (kI 1)),
sq 3 (.mv (.t 12))])))))))
 (.seq (.reg [sq 2 (.mv (kB true))])
 .ret))))⟩
theorem a118_ok:afn Tryz.prog 118=some a118.er:=by kernel_rfl
theorem F118_ok{x0 r}(h:F118 x0=some r):CallD Tryz.prog 118 [.c (dS x0)] [] (tupV [.c (dB r)]) []:=by
 refine callS a118_ok (by simp[a118]) ?_
 rw[F118]at h
 simp only[a118,VW.down,Nat.reduceEqDiff,reduceCtorEq,Nat.reduceAdd,Nat.reduceLeDiff,Nat.reduceLT,Nat.reduceBEq,Nat.reduceSub,EE.down]
 refine condSh h (fun c1 h=>?_) (fun c1 h=>?_)
 ·refine ww ?_
  cases h
  exact eF []
 refine ww ?_
 obtain⟨o2,ho,h⟩:=bi h
 refine cutS (fun s=>∃po2,o2=Sum.inr po2∧s=⟨[],[]⟩) ?_ ?_
 ·have h0o2:=h
  have h:=ho
  clear ho
  refine ww ?_
  refine bL (fun j s=>∃(o2_0:Int),s=⟨[(0,.one (.c (dS x0))),(3,.one (.c (dI o2_0)))],[]⟩∧F118_l2 x0 j o2_0=some o2) 1099511627776 [] ⟨0,rfl,h⟩ ?_
  rintro j _ ⟨o2_0,rfl,h⟩
  cases j with
  |zero=>cases(show(none:Option _)=some _ from h)
  |succ j=>
   rw[F118_l2]at h
   refine ww ?_
   refine condSh h (fun c3 h=>?_) (fun c3 h=>?_)
   ·refine ww ?_
    obtain⟨o4,ho,h⟩:=bi h
    refine cutS (fun s=>s=⟨[(0,.one (.c (dS x0))),(3,.one (.c (dI o2_0))),(23,.one (.c (dB o4)))],[]⟩) ?_ ?_
    ·have h:=ho
     clear ho
     refine ww ?_
     obtain⟨y5,hy5,h⟩:=bi h
     refine t_sidx rfl rfl hy5 (ww ?_)
     obtain⟨t6,ht6,h⟩:=bi h
     refine cN [] (F136_ok ht6) trivial (ww ?_)
     refine guardSBh h (fun g7 h=>?_) (fun g7 h=>?_)
     ·refine ww ?_
      cases h
      exact eM [] rfl
     ·refine ww ?_
      obtain⟨y8,hy8,h⟩:=bi h
      refine t_sidx rfl rfl hy8 (ww ?_)
      cases h
      exact eM [] rfl
    ·rintro _ rfl
     clear ho
     refine ww ?_
     refine condBh h (fun c9 h=>?_) (fun c9 h=>?_)
     ·refine ww ?_
      obtain⟨fh0o2,hfh0o2,rfl⟩:=Option.map_eq_some_iff.1 h
      have h:=hfh0o2.trans h0o2
      cases h
      exact eF []
     ·refine ww ?_
      exact eL' j [] ⟨(IntKind.i64.wrap (o2_0+1)),rfl,h⟩ (Nat.lt_succ_self _)
   ·refine ww ?_
    cases h
    exact eM [] ⟨_,rfl,rfl⟩
 rintro _ ⟨po2,rfl,rfl⟩
 clear ho
 dsimp only at h
 refine ww ?_
 cases h
 exact eF []
def F86_l11(o1_1:Nat)(x0:(List Owner))(xo1:Owner):Nat→Int→Option (((Bool) ⊕ (Int)) ⊕ (Unit))
 |0,_=>none
 |k+1,o11_0=>(if o11_0<(o1_1:Int)then(rdI x0 o11_0).bind fun y13=>(if y13.Uid=xo1.Uid then((some false).map Sum.inl).map Sum.inl else F86_l11 o1_1 x0 xo1 k ((IntKind.i64.wrap (o11_0+1))))else some (Sum.inr (())))
def F86_l1(x0:(List Owner)):List Owner→Nat→Int→Option ((Bool) ⊕ (Int))
 |[],o1_1,o1_0=>some (Sum.inr o1_0)
 |xo1::xs,o1_1,o1_0=>(((F83 xo1.Kind).bind fun t4=>(if(nb t4)=true then some true else(F84 xo1.Name).bind fun t6=>(if(nb t6)=true then some true else some (decide (xo1.Uid≤0))))).bind fun o3=>(if o3=true then(some false).map Sum.inl else(((if xo1.Controller=true then some ((IntKind.i64.wrap (o1_0+1)))else some o1_0)).bind fun o9=>((F86_l11 o1_1 x0 xo1 1099511627776 0:Option (((Bool) ⊕ (Int)) ⊕ (Unit))).bind fun o11=>match o11 with|Sum.inl f=>some f|Sum.inr po11=>F86_l1 x0 xs (o1_1+1) o9))))
def F86(x0:(List Owner)):Option (Bool):=(((ck (0≤x0.length∧x0.length≤4294967290)).bind fun u15=>F86_l1 x0 x0 0 0:Option ((Bool) ⊕ (Int))).bind fun o1=>match o1 with|Sum.inl f=>some f|Sum.inr po1=>(((if(x0.length:Int)≤16 then some (decide (po1≤1))else some false)).bind fun o16=>some o16))
def a86:AFn:=⟨66,[(.tmp 2)],
 (.seq (.reg [sq 2 (.mv (kB false))])
 (.seq (.reg [sq 3 (.mv (kI 0))])
 (.seq (.seq (.reg [sq 4 (.mv (kI 0))])
 (.sem (.block 0 (.loop (.seq (.seq (.reg [sq 6 (.mv (.t 4)),
sq 7 (.mv (.t 0)),
sq 8 (.len (.t 7)),
sq 9 (.bin .lss (.t 6) (.t 8))])
 (.cond (.t 9)
 .skip
 (.exit 0)))
 (.seq (.block 1 (.seq (.seq (.sem (.reg [sq 12 (.mv (.t 0)),
sq 13 (.mv (.t 4)),
sq 14 (.indexA 5 (.t 12) (.t 13)),
sq 15 (.fieldA 0 (.t 14)),
sq 16 (.load none (.t 15)),
sq 17 (.call 83 [(.t 16)]),
sq 18 (.not (.t 17)),
sq 19 (.mv (.t 18)),
zg 20 19 false (.mv (.t 0)),
zg 21 19 false (.mv (.t 4)),
zg 22 19 false (.indexA 5 (.t 20) (.t 21)),
zg 23 19 false (.fieldA 1 (.t 22)),
zg 24 19 false (.load none (.t 23)),
zg 25 19 false (.call 84 [(.t 24)]),
zg 26 19 false (.not (.t 25)),
sq 27 (.pick (.t 19) (kB true) (.t 26)),
sq 28 (.mv (.t 27)),
zg 29 28 false (.mv (.t 0)),
zg 30 28 false (.mv (.t 4)),
zg 31 28 false (.indexA 5 (.t 29) (.t 30)),
zg 32 28 false (.fieldA 2 (.t 31)),
zg 33 28 false (.load none (.t 32)),
zg 34 28 false (.bin .leq (.t 33) (kI 0)),
sq 35 (.pick (.t 28) (kB true) (.t 34))]))
 (.cond (.t 35)
 (.seq (.reg [sq 2 (.mv (kB false))])
 .ret)
 .skip))
 (.seq (.sem (.seq (.reg [sq 36 (.mv (.t 0)),
sq 37 (.mv (.t 4)),
sq 38 (.indexA 5 (.t 36) (.t 37)),
sq 39 (.fieldA 3 (.t 38)),
sq 40 (.load none (.t 39))])
 (.cond (.t 40)
 (.reg [sq 41 (.mv (.t 3)),
sq 42 (.bin .add (.t 41) (kI 1)),
sq 3 (.mv (.t 42))])
 .skip)))
 (.seq (.reg [sq 5 (.mv (kI 0))])
 (.sem (.block 2 (.loop (.seq (.seq (.reg [sq 43 (.mv (.t 5)),
sq 44 (.mv (.t 4)),
sq 45 (.bin .lss (.t 43) (.t 44))])
 (.cond (.t 45)
 .skip
 (.exit 2)))
 (.seq (.block 3 (.seq (.regd [sq 48 (.mv (.t 0)),
sq 49 (.mv (.t 5)),
sd 50 (.indexA 5 (.t 48) (.t 49)) [0,1],
sd 51 (.fieldA 2 (.t 50)) [0,1,2],
sd 52 (.load none (.t 51)) [0,1,2,3],
sq 53 (.mv (.t 0)),
sq 54 (.mv (.t 4)),
sd 55 (.indexA 5 (.t 53) (.t 54)) [5,6],
sd 56 (.fieldA 2 (.t 55)) [5,6,7],
sd 57 (.load none (.t 56)) [5,6,7,8],
sd 58 (.bin .eql (.t 52) (.t 57)) [0,1,2,3,4,5,6,7,8,9]])
 (.cond (.t 58)
 (.seq (.reg [sq 2 (.mv (kB false))])
 .ret)
 .skip)))
 (.reg [sq 46 (.mv (.t 5)),
sq 47 (.bin .add (.t 46) (kI 1)),
sq 5 (.mv (.t 47))]))))))))))
 (.reg [sq 10 (.mv (.t 4)),
sq 11 (.bin .add (.t 10) (kI 1)),
sq 4 (.mv (.t 11))])))))))
 (.seq (.sem (.reg [sq 59 (.mv (.t 0)),
sq 60 (.len (.t 59)),
sq 61 (.bin .leq (.t 60) (kI 16)),
sq 62 (.mv (.t 61)),
zg 63 62 true (.mv (.t 3)),
zg 64 62 true (.bin .leq (.t 63) (kI 1)),
sq 65 (.pick (.t 62) (.t 64) (kB false)),
sq 2 (.mv (.t 65))]))
 .ret))))⟩
theorem a86_ok:afn Tryz.prog 86=some a86.er:=by kernel_rfl
theorem F86_ok{x0 r}(h:F86 x0=some r):CallD Tryz.prog 86 [.c (dM (x0.map eOwner))] [] (tupV [.c (dB r)]) []:=by
 refine callS a86_ok (by simp[a86]) ?_
 rw[F86]at h
 simp only[a86,VW.down,Nat.reduceEqDiff,reduceCtorEq,Nat.reduceAdd,Nat.reduceLeDiff,Nat.reduceLT,Nat.reduceBEq,Nat.reduceSub,EE.down]
 obtain⟨o1,ho,h⟩:=bi h
 refine cutS (fun s=>∃po1,o1=Sum.inr po1∧s=⟨[(0,.one (.c (dM (x0.map eOwner)))),(3,.one (.c (dI po1)))],[]⟩) ?_ ?_
 ·have h0o1:=h
  have h:=ho
  clear ho
  obtain⟨_,hk,h⟩:=bi h
  have hk:=ck_some hk
  refine ww ?_
  refine bL (fun j s=>∃(o1_1:Nat) (o1_0:Int),(o1_1≤x0.length∧j=x0.length-o1_1)∧s=⟨[(0,.one (.c (dM (x0.map eOwner)))),(3,.one (.c (dI o1_0))),(4,.one (.c (dI ((o1_1:Int)))))],[]⟩∧F86_l1 x0 (x0.drop o1_1) o1_1 o1_0=some o1) (x0.length-0) [] ⟨0,0,⟨hk.1,rfl⟩,rfl,h⟩ ?_
  rintro _ _ ⟨o1_1,o1_0,⟨hi,rfl⟩,rfl,h⟩
  refine ww ?_
  refine condS (fun c2=>?_) (fun c2=>?_)
  ·obtain⟨xo1,hxo1,hd⟩:=countY (show(o1_1:Int)<(x0.length:Int)from c2)
   rw[hd,F86_l1]at h
   refine ww ?_
   obtain⟨o3,ho,h⟩:=bi h
   refine cutS (fun s=>s=⟨[(0,.one (.c (dM (x0.map eOwner)))),(3,.one (.c (dI o1_0))),(4,.one (.c (dI ((o1_1:Int))))),(35,.one (.c (dB o3)))],[]⟩) ?_ ?_
   ·have h:=ho
    clear ho
    refine ww ?_
    refine t_idxF (enc:=eOwner) (xs:=x0) rfl rfl hxo1 rfl (ww ?_)
    obtain⟨t4,ht4,h⟩:=bi h
    refine cN [] (F83_ok ht4) trivial (ww ?_)
    refine guardSBh h (fun g5 h=>?_) (fun g5 h=>?_)
    ·refine ww ?_
     cases h
     exact eM [] rfl
    refine ww ?_
    refine t_idxF (enc:=eOwner) (xs:=x0) rfl rfl hxo1 rfl (ww ?_)
    obtain⟨t6,ht6,h⟩:=bi h
    refine cN [] (F84_ok ht6) trivial (ww ?_)
    refine guardSBh h (fun g7 h=>?_) (fun g7 h=>?_)
    ·refine ww ?_
     cases h
     exact eM [] rfl
    refine ww ?_
    refine t_idxF (enc:=eOwner) (xs:=x0) rfl rfl hxo1 rfl (ww ?_)
    cases h
    exact eM [] rfl
   rintro _ rfl
   clear ho
   refine ww ?_
   refine condBh h (fun c8 h=>?_) (fun c8 h=>?_)
   ·refine ww ?_
    obtain⟨fh0o1,hfh0o1,rfl⟩:=Option.map_eq_some_iff.1 h
    have h:=hfh0o1.trans h0o1
    cases h
    exact eF []
   refine ww ?_
   obtain⟨o9,ho,h⟩:=bi h
   refine cutS (fun s=>s=⟨[(0,.one (.c (dM (x0.map eOwner)))),(3,.one (.c (dI o9))),(4,.one (.c (dI ((o1_1:Int)))))],[]⟩) ?_ ?_
   ·have h:=ho
    clear ho
    refine ww ?_
    refine t_idxF (enc:=eOwner) (xs:=x0) rfl rfl hxo1 rfl (ww ?_)
    refine condBh h (fun c10 h=>?_) (fun c10 h=>?_)
    ·refine ww ?_
     cases h
     exact eM [] rfl
    refine ww ?_
    cases h
    exact eM [] rfl
   rintro _ rfl
   clear ho
   refine ww ?_
   obtain⟨o11,ho,h⟩:=bi h
   refine cutS (fun s=>∃po11,o11=Sum.inr po11∧s=⟨[(0,.one (.c (dM (x0.map eOwner)))),(3,.one (.c (dI o9))),(4,.one (.c (dI ((o1_1:Int)))))],[]⟩) ?_ ?_
   ·have h0o11:=h
    have h:=ho
    clear ho
    refine ww ?_
    refine bL (fun j s=>∃(o11_0:Int),s=⟨[(0,.one (.c (dM (x0.map eOwner)))),(3,.one (.c (dI o9))),(4,.one (.c (dI ((o1_1:Int))))),(5,.one (.c (dI o11_0)))],[]⟩∧F86_l11 o1_1 x0 xo1 j o11_0=some o11) 1099511627776 [] ⟨0,rfl,h⟩ ?_
    rintro j _ ⟨o11_0,rfl,h⟩
    cases j with
    |zero=>cases(show(none:Option _)=some _ from h)
    |succ j=>
     rw[F86_l11]at h
     refine ww ?_
     refine condSh h (fun c12 h=>?_) (fun c12 h=>?_)
     ·refine ww ?_
      obtain⟨y13,hy13,h⟩:=bi h
      refine t_idxF (enc:=eOwner) (xs:=x0) rfl rfl hy13 rfl (ww ?_)
      refine t_idxF (enc:=eOwner) (xs:=x0) rfl rfl hxo1 rfl (ww ?_)
      refine condSh h (fun c14 h=>?_) (fun c14 h=>?_)
      ·refine ww ?_
       obtain⟨fh0o11,hfh0o11,rfl⟩:=Option.map_eq_some_iff.1 h
       have h:=hfh0o11.trans h0o11
       obtain⟨fh0o1,hfh0o1,rfl⟩:=Option.map_eq_some_iff.1 h
       have h:=hfh0o1.trans h0o1
       cases h
       exact eF []
      ·refine ww ?_
       exact eL' j [] ⟨(IntKind.i64.wrap (o11_0+1)),rfl,h⟩ (Nat.lt_succ_self _)
     ·refine ww ?_
      cases h
      exact eM [] ⟨_,rfl,rfl⟩
   rintro _ ⟨po11,rfl,rfl⟩
   clear ho
   dsimp only at h
   refine ww ?_
   rw[wrapN (by omega)]
   exact eL' (x0.length-(o1_1+1)) [] ⟨o1_1+1,o9,⟨by omega,rfl⟩,rfl,h⟩ (by omega)
  rw[countN (show¬((o1_1:Int)<(x0.length:Int))from c2),F86_l1]at h
  refine ww ?_
  cases h
  exact eM [] ⟨_,rfl,rfl⟩
 rintro _ ⟨po1,rfl,rfl⟩
 clear ho
 dsimp only at h
 refine ww ?_
 obtain⟨o16,ho,h⟩:=bi h
 refine cutS (fun s=>s=⟨[(2,.one (.c (dB o16)))],[]⟩) ?_ ?_
 ·have h:=ho
  clear ho
  refine ww ?_
  refine guardSh h (fun g17 h=>?_) (fun g17 h=>?_)
  ·refine ww ?_
   cases h
   exact eM [] rfl
  refine ww ?_
  cases h
  exact eM [] rfl
 rintro _ rfl
 clear ho
 refine ww ?_
 cases h
 exact eF []
def F88_l1(x0:(List Manager)):List Manager→Nat→Option ((Bool) ⊕ (Unit))
 |[],o1_0=>some (Sum.inr (()))
 |xo1::xs,o1_0=>(((F84 xo1.Name).bind fun t4=>(if(nb t4)=true then some true else(if 0<(o1_0:Int)then(rdI x0 ((IntKind.i64.wrap (((o1_0:Int))-1)))).bind fun y7=>some ((Op.bytesLess xo1.Name.toList y7.Name.toList||decide (xo1.Name=y7.Name)))else some false))).bind fun o3=>(if o3=true then(some false).map Sum.inl else(((if(xo1.Fields.length:Int)<1 then some true else(if 600<(xo1.Fields.length:Int)then some true else(F119 xo1.Fields).bind fun t12=>some (nb t12)))).bind fun o9=>(if o9=true then(some false).map Sum.inl else F88_l1 x0 xs (o1_0+1)))))
def F88(x0:(List Manager)):Option (Bool):=(((ck (0≤x0.length∧x0.length≤4294967290)).bind fun u14=>F88_l1 x0 x0 0:Option ((Bool) ⊕ (Unit))).bind fun o1=>match o1 with|Sum.inl f=>some f|Sum.inr po1=>some (decide ((x0.length:Int)≤16)))
def a88:AFn:=⟨63,[(.tmp 2)],
 (.seq (.reg [sq 2 (.mv (kB false))])
 (.seq (.seq (.reg [sq 3 (.mv (kI 0))])
 (.sem (.block 0 (.loop (.seq (.seq (.reg [sq 4 (.mv (.t 3)),
sq 5 (.mv (.t 0)),
sq 6 (.len (.t 5)),
sq 7 (.bin .lss (.t 4) (.t 6))])
 (.cond (.t 7)
 .skip
 (.exit 0)))
 (.seq (.block 1 (.seq (.seq (.sem (.regd [sq 10 (.mv (.t 0)),
sq 11 (.mv (.t 3)),
sd 12 (.indexA 2 (.t 10) (.t 11)) [0,1],
sd 13 (.fieldA 0 (.t 12)) [0,1,2],
sd 14 (.load none (.t 13)) [0,1,2,3],
zl 15 (.call 84 [(.t 14)]) [0,1,2,3,4] [],
sd 16 (.not (.t 15)) [0,1,2,3,4,5],
sd 17 (.mv (.t 16)) [0,1,2,3,4,5,6],
⟨(some 18),(some (17,false)),.mv (.t 3),[0,1,2,3,4,5,6,7],(.new [])⟩,
⟨(some 19),(some (17,false)),.bin .gtr (.t 18) (kI 0),[0,1,2,3,4,5,6,7,8],(.new [])⟩,
⟨(some 20),(some (17,false)),.mv (.t 19),[0,1,2,3,4,5,6,7,8,9],(.new [])⟩,
⟨(some 21),(some (20,true)),.mv (.t 0),[0,1,2,3,4,5,6,7,8,9,10],(.new [])⟩,
⟨(some 22),(some (20,true)),.mv (.t 3),[0,1,2,3,4,5,6,7,8,9,10],(.new [])⟩,
⟨(some 23),(some (20,true)),.indexA 2 (.t 21) (.t 22),[0,1,2,3,4,5,6,7,8,9,10,11,12],(.new [])⟩,
⟨(some 24),(some (20,true)),.fieldA 0 (.t 23),[0,1,2,3,4,5,6,7,8,9,10,11,12,13],(.new [])⟩,
⟨(some 25),(some (20,true)),.load none (.t 24),[0,1,2,3,4,5,6,7,8,9,10,11,12,13,14],(.new [])⟩,
⟨(some 26),(some (20,true)),.mv (.t 0),[0,1,2,3,4,5,6,7,8,9,10],(.new [])⟩,
⟨(some 27),(some (20,true)),.mv (.t 3),[0,1,2,3,4,5,6,7,8,9,10],(.new [])⟩,
⟨(some 28),(some (20,true)),.bin .sub (.t 27) (kI 1),[0,1,2,3,4,5,6,7,8,9,10,17],(.new [])⟩,
⟨(some 29),(some (20,true)),.indexA 2 (.t 26) (.t 28),[0,1,2,3,4,5,6,7,8,9,10,16,17,18],(.new [])⟩,
⟨(some 30),(some (20,true)),.fieldA 0 (.t 29),[0,1,2,3,4,5,6,7,8,9,10,16,17,18,19],(.new [])⟩,
⟨(some 31),(some (20,true)),.load none (.t 30),[0,1,2,3,4,5,6,7,8,9,10,16,17,18,19,20],(.new [])⟩,
⟨(some 32),(some (20,true)),.bin .leq (.t 25) (.t 31),[0,1,2,3,4,5,6,7,8,9,10,11,12,13,14,15,16,17,18,19,20,21],(.new [])⟩,
⟨(some 33),(some (17,false)),.pick (.t 20) (.t 32) (kB false),[0,1,2,3,4,5,6,7,8,9,10,11,12,13,14,15,16,17,18,19,20,21,22],(.lone [])⟩,
zl 34 (.pick (.t 17) (kB true) (.t 33)) [0,1,2,3,4,5,6,7,8,9,10,11,12,13,14,15,16,17,18,19,20,21,22,23] []]))
 (.cond (.t 34)
 (.seq (.reg [sq 2 (.mv (kB false))])
 .ret)
 .skip))
 (.seq (.sem (.reg [sq 35 (.mv (.t 0)),
sq 36 (.mv (.t 3)),
sq 37 (.indexA 2 (.t 35) (.t 36)),
sq 38 (.fieldA 1 (.t 37)),
sq 39 (.load none (.t 38)),
sq 40 (.len (.t 39)),
sq 41 (.bin .lss (.t 40) (kI 1)),
sq 42 (.mv (.t 41)),
zg 43 42 false (.mv (.t 0)),
zg 44 42 false (.mv (.t 3)),
zg 45 42 false (.indexA 2 (.t 43) (.t 44)),
zg 46 42 false (.fieldA 1 (.t 45)),
zg 47 42 false (.load none (.t 46)),
zg 48 42 false (.len (.t 47)),
zg 49 42 false (.bin .gtr (.t 48) (kI 600)),
sq 50 (.pick (.t 42) (kB true) (.t 49)),
sq 51 (.mv (.t 50)),
zg 52 51 false (.mv (.t 0)),
zg 53 51 false (.mv (.t 3)),
zg 54 51 false (.indexA 2 (.t 52) (.t 53)),
zg 55 51 false (.fieldA 1 (.t 54)),
zg 56 51 false (.load none (.t 55)),
zg 57 51 false (.call 119 [(.t 56)]),
zg 58 51 false (.not (.t 57)),
sq 59 (.pick (.t 51) (kB true) (.t 58))]))
 (.cond (.t 59)
 (.seq (.reg [sq 2 (.mv (kB false))])
 .ret)
 .skip))))
 (.reg [sq 8 (.mv (.t 3)),
sq 9 (.bin .add (.t 8) (kI 1)),
sq 3 (.mv (.t 9))])))))))
 (.seq (.reg [sq 60 (.mv (.t 0)),
sq 61 (.len (.t 60)),
sq 62 (.bin .leq (.t 61) (kI 16)),
sq 2 (.mv (.t 62))])
 .ret)))⟩
theorem a88_ok:afn Tryz.prog 88=some a88.er:=by kernel_rfl
theorem F88_ok{x0 r}(h:F88 x0=some r):CallD Tryz.prog 88 [.c (dM (x0.map eManager))] [] (tupV [.c (dB r)]) []:=by
 refine callS a88_ok (by simp[a88]) ?_
 rw[F88]at h
 simp only[a88,VW.down,Nat.reduceEqDiff,reduceCtorEq,Nat.reduceAdd,Nat.reduceLeDiff,Nat.reduceLT,Nat.reduceBEq,Nat.reduceSub,EE.down]
 obtain⟨o1,ho,h⟩:=bi h
 refine cutS (fun s=>∃po1,o1=Sum.inr po1∧s=⟨[(0,.one (.c (dM (x0.map eManager))))],[]⟩) ?_ ?_
 ·have h0o1:=h
  have h:=ho
  clear ho
  obtain⟨_,hk,h⟩:=bi h
  have hk:=ck_some hk
  refine ww ?_
  refine bL (fun j s=>∃(o1_0:Nat),(o1_0≤x0.length∧j=x0.length-o1_0)∧s=⟨[(0,.one (.c (dM (x0.map eManager)))),(3,.one (.c (dI ((o1_0:Int)))))],[]⟩∧F88_l1 x0 (x0.drop o1_0) o1_0=some o1) (x0.length-0) [] ⟨0,⟨hk.1,rfl⟩,rfl,h⟩ ?_
  rintro _ _ ⟨o1_0,⟨hi,rfl⟩,rfl,h⟩
  refine ww ?_
  refine condS (fun c2=>?_) (fun c2=>?_)
  ·obtain⟨xo1,hxo1,hd⟩:=countY (show(o1_0:Int)<(x0.length:Int)from c2)
   rw[hd,F88_l1]at h
   refine ww ?_
   obtain⟨o3,ho,h⟩:=bi h
   refine cutS (fun s=>s=⟨[(0,.one (.c (dM (x0.map eManager)))),(3,.one (.c (dI ((o1_0:Int))))),(34,.one (.c (dB o3)))],[]⟩) ?_ ?_
   ·have h:=ho
    clear ho
    refine ww ?_
    refine t_idxF (enc:=eManager) (xs:=x0) rfl rfl hxo1 rfl (ww ?_)
    obtain⟨t4,ht4,h⟩:=bi h
    refine cN [] (F84_ok ht4) trivial (ww ?_)
    refine guardDBh h (fun g5 h=>?_) (fun g5 h=>?_)
    ·refine ww ?_
     cases h
     exact eM [] rfl
    refine ww ?_
    refine guardDh h (fun g6 h=>?_) (fun g6 h=>?_)
    ·refine ww ?_
     refine t_idxF (enc:=eManager) (xs:=x0) rfl rfl hxo1 rfl (ww ?_)
     obtain⟨y7,hy7,h⟩:=bi h
     refine t_idxF (enc:=eManager) (xs:=x0) rfl rfl hy7 rfl (ww ?_)
     cases h
     exact eM [] rfl
    refine ww ?_
    cases h
    exact eM [] rfl
   rintro _ rfl
   clear ho
   refine ww ?_
   refine condBh h (fun c8 h=>?_) (fun c8 h=>?_)
   ·refine ww ?_
    obtain⟨fh0o1,hfh0o1,rfl⟩:=Option.map_eq_some_iff.1 h
    have h:=hfh0o1.trans h0o1
    cases h
    exact eF []
   refine ww ?_
   obtain⟨o9,ho,h⟩:=bi h
   refine cutS (fun s=>s=⟨[(0,.one (.c (dM (x0.map eManager)))),(3,.one (.c (dI ((o1_0:Int))))),(59,.one (.c (dB o9)))],[]⟩) ?_ ?_
   ·have h:=ho
    clear ho
    refine ww ?_
    refine t_idxF (enc:=eManager) (xs:=x0) rfl rfl hxo1 rfl (ww ?_)
    refine guardSh h (fun g10 h=>?_) (fun g10 h=>?_)
    ·refine ww ?_
     cases h
     exact eM [] rfl
    refine ww ?_
    refine t_idxF (enc:=eManager) (xs:=x0) rfl rfl hxo1 rfl (ww ?_)
    refine guardSh h (fun g11 h=>?_) (fun g11 h=>?_)
    ·refine ww ?_
     cases h
     exact eM [] rfl
    refine ww ?_
    refine t_idxF (enc:=eManager) (xs:=x0) rfl rfl hxo1 rfl (ww ?_)
    obtain⟨t12,ht12,h⟩:=bi h
    refine cN [] (F119_ok ht12) trivial (ww ?_)
    cases h
    exact eM [] rfl
   rintro _ rfl
   clear ho
   refine ww ?_
   refine condBh h (fun c13 h=>?_) (fun c13 h=>?_)
   ·refine ww ?_
    obtain⟨fh0o1,hfh0o1,rfl⟩:=Option.map_eq_some_iff.1 h
    have h:=hfh0o1.trans h0o1
    cases h
    exact eF []
   refine ww ?_
   rw[wrapN (by omega)]
   exact eL' (x0.length-(o1_0+1)) [] ⟨o1_0+1,⟨by omega,rfl⟩,rfl,h⟩ (by omega)
  rw[countN (show¬((o1_0:Int)<(x0.length:Int))from c2),F88_l1]at h
  refine ww ?_
  cases h
  exact eM [] ⟨_,rfl,rfl⟩
 rintro _ ⟨po1,rfl,rfl⟩
 clear ho
 dsimp only at h
 refine ww ?_
 cases h
 exact eF []
end Go.Proofs.YtbopaemngpbdgaaGreat
