/- Each Go function as a function over typed data, and its walk. -/
import Derived.Test.YtbopaemngpbdgaaGreatSX
import Derived.Test.YtbopaemngpbdgaaGreatSX2
import Derived.Test.YtbopaemngpbdgaaGreatSX10
import Derived.Test.YtbopaemngpbdgaaGreatSX11
import Derived.Test.YtbopaemngpbdgaaGreatSX12
namespace Go.Proofs.YtbopaemngpbdgaaGreat
open Go Go.Fw Go.Shelf
set_option maxRecDepth 100000
set_option maxHeartbeats 4000000
set_option linter.unusedSimpArgs false
set_option linter.unusedVariables false
def F116(rc49:TValue→TValue→Option (Int))(x0:TField)(x1:TField):Option (Int):=(F72 x0.Name x1.Name).bind fun t1=>(rc49 x0.V x1.V).bind fun t2=>(F112 ([t1,t2])).bind fun t3=>some t3
def a116:AFn:=⟨17,[(.tmp 4)],
 (.seq (.reg [sq 2 (.box (.t 0)),
sq 3 (.box (.t 1)),
sq 4 (.mv (kI 0))])
 (.seq (.regd [sq 5 (.fieldA 0 (.t 2)),
sd 6 (.load none (.t 5)) [0],
sq 7 (.fieldA 0 (.t 3)),
sd 8 (.load none (.t 7)) [2],
zn 9 (.call 72 [(.t 6),(.t 8)]) [0,1,2,3] [0,1,2,3],
sq 10 (.fieldA 1 (.t 2)),
sd 11 (.load (some 5) (.t 10)) [5],
sq 12 (.fieldA 1 (.t 3)),
sd 13 (.load (some 5) (.t 12)) [7],
zl 14 (.call 82 [(.t 11),(.t 13)]) [0,1,2,3,4,5,6,7,8] [],
zl 15 (.bslice 1 [(.t 9),(.t 14)]) [0,1,2,3,4,5,6,7,8,9] [],
zl 16 (.call 112 [(.t 15)]) [0,1,2,3,4,5,6,7,8,9,10] [],
sd 4 (.mv (.t 16)) [0,1,2,3,4,5,6,7,8,9,10,11]])
 .ret))⟩
theorem a116_ok:afn Tryz.prog 116=some a116.er:=by kernel_rfl
theorem F116_ok{rc49:TValue→TValue→Option (Int)}(ih49:∀{x0:TValue} {x1:TValue} {r:Int} (h:rc49 x0 x1=some r),CallD Tryz.prog 82 [.agg [dI x0.Kind,dI x0.N,dS x0.S,dM (x0.List_.map eTValue),dM (x0.Fields.map eTField)],.agg [dI x1.Kind,dI x1.N,dS x1.S,dM (x1.List_.map eTValue),dM (x1.Fields.map eTField)]] [] (tupV [.c (dI r)]) []){x0:TField}{x1:TField}{r:Int}(h:F116 rc49 x0 x1=some r):CallD Tryz.prog 116 [.agg [dS x0.Name,dI x0.V.Kind,dI x0.V.N,dS x0.V.S,dM (x0.V.List_.map eTValue),dM (x0.V.Fields.map eTField)],.agg [dS x1.Name,dI x1.V.Kind,dI x1.V.N,dS x1.V.S,dM (x1.V.List_.map eTValue),dM (x1.V.Fields.map eTField)]] [] (tupV [.c (dI r)]) []:=by
 refine callS a116_ok (by simp[a116]) ?_
 rw[F116]at h
 simp only[a116,VW.down,Nat.reduceEqDiff,reduceCtorEq,Nat.reduceAdd,Nat.reduceLeDiff,Nat.reduceLT,Nat.reduceBEq,Nat.reduceSub,EE.down]
 obtain⟨t1,ht1,h⟩:=bi h
 refine cN [] (F72_ok ht1) trivial (ww ?_)
 obtain⟨t2,ht2,h⟩:=bi h
 refine cN [] (ih49 ht2) trivial (ww ?_)
 refine t_bslice (enc:=eI) (ys:=[t1,t2]) rfl rfl (by simp[A1.cells]) (by first|rfl|(simp only[List.drop_zero,take_mapL];rfl)|(simp only[lit,List.map_cons,List.map_nil,List.drop_zero,take_mapL,EE.down];done)|(simp only[lit,List.map_cons,List.map_nil,List.drop_zero,take_mapL,EE.down];rfl)) (ww ?_)
 obtain⟨t3,ht3,h⟩:=bi h
 refine callX_bor (F112_ok ht3) (by simp only[borAs,bors,hp,List.getElem?_cons_zero,List.getElem?_cons_succ,Option.join_some,List.drop_zero,bor_full',true_and,Nat.zero_add,List.length_map,Nat.le_refl,nrm,List.length_cons,List.length_nil,Nat.reduceAdd,Nat.reduceLeDiff,List.take_succ_cons,List.take_zero,List.take_nil,List.map_cons,List.map_nil,List.length_set,EE.down]) rfl ?_
 refine ww ?_
 cases h
 exact eF []
def F115_l1(rc49:TValue→TValue→Option (Int))(x1:(List TField)):List TField→Nat→Option ((Int) ⊕ (Unit))
 |[],o1_0=>some (Sum.inr (()))
 |xo1::xs,o1_0=>(if(x1.length:Int)≤(o1_0:Int)then(some 1).map Sum.inl else(rdI x1 ((o1_0:Int))).bind fun y4=>(F116 rc49 xo1 y4).bind fun t5=>(if¬(t5=0)then(some t5).map Sum.inl else F115_l1 rc49 x1 xs (o1_0+1)))
def F115(rc49:TValue→TValue→Option (Int))(x0:(List TField))(x1:(List TField)):Option (Int):=(((ck (0≤x0.length∧x0.length≤4294967290)).bind fun u7=>F115_l1 rc49 x1 x0 0:Option ((Int) ⊕ (Unit))).bind fun o1=>match o1 with|Sum.inl f=>some f|Sum.inr po1=>(if(x0.length:Int)<(x1.length:Int)then some ((-1))else some 0))
def a115:AFn:=⟨39,[(.tmp 6)],
 (.seq (.reg [sq 6 (.mv (kI 0))])
 (.seq (.seq (.reg [sq 11 (.mv (.t 0)),
sq 12 (.len (.t 11)),
sq 13 (.mv (kI 0))])
 (.sem (.block 0 (.loop (.seq (.reg [sq 14 (.bin .lss (.t 13) (.t 12))])
 (.seq (.cond (.t 14)
 .skip
 (.exit 0))
 (.seq (.block 1 (.seq (.reg [sq 15 (.mv (.t 13)),
sq 16 (.indexA 6 (.t 11) (.t 13)),
sq 17 (.load (some 6) (.t 16)),
sq 8 (.zbox [dS ⟨#[]⟩,dI 0,dI 0,dS ⟨#[]⟩,dN,dN]),
sq 7 (.mv (.t 15)),
su (.store 6 (.t 8) (.t 17))])
 (.seq (.seq (.reg [sq 18 (.mv (.t 7)),
sq 19 (.mv (.t 1)),
sq 20 (.len (.t 19)),
sq 21 (.bin .geq (.t 18) (.t 20))])
 (.cond (.t 21)
 (.seq (.reg [sq 6 (.mv (kI 1))])
 .ret)
 .skip))
 (.seq (.reg [sq 22 (.mv (.t 1)),
sq 23 (.mv (.t 7)),
sq 24 (.indexA 6 (.t 22) (.t 23)),
sq 25 (.load (some 6) (.t 24)),
sq 9 (.zbox [dS ⟨#[]⟩,dI 0,dI 0,dS ⟨#[]⟩,dN,dN]),
su (.store 6 (.t 9) (.t 25))])
 (.seq (.reg [sq 26 (.mv (.t 2)),
sq 27 (.load (some 6) (.t 8)),
sq 28 (.load (some 6) (.t 9)),
sq 29 (.callv (.t 26) [(.t 27),(.t 28)]),
sq 10 (.mv (.t 29))])
 (.seq (.reg [sq 30 (.mv (.t 10)),
sq 31 (.bin .neq (.t 30) (kI 0))])
 (.cond (.t 31)
 (.seq (.reg [sq 32 (.mv (.t 10)),
sq 6 (.mv (.t 32))])
 .ret)
 .skip)))))))
 (.reg [sq 33 (.bin .add (.t 13) (kI 1)),
sq 13 (.mv (.t 33))]))))))))
 (.seq (.seq (.reg [sq 34 (.mv (.t 0)),
sq 35 (.len (.t 34)),
sq 36 (.mv (.t 1)),
sq 37 (.len (.t 36)),
sq 38 (.bin .lss (.t 35) (.t 37))])
 (.cond (.t 38)
 (.seq (.reg [sq 6 (.mv (kI (-1)))])
 .ret)
 .skip))
 (.seq (.reg [sq 6 (.mv (kI 0))])
 .ret))))⟩
theorem a115_ok:afn Tryz.prog 115=some a115.er:=by kernel_rfl
theorem F115_ok{rc49:TValue→TValue→Option (Int)}(ih49:∀{x0:TValue} {x1:TValue} {r:Int} (h:rc49 x0 x1=some r),CallD Tryz.prog 82 [.agg [dI x0.Kind,dI x0.N,dS x0.S,dM (x0.List_.map eTValue),dM (x0.Fields.map eTField)],.agg [dI x1.Kind,dI x1.N,dS x1.S,dM (x1.List_.map eTValue),dM (x1.Fields.map eTField)]] [] (tupV [.c (dI r)]) []){x0:(List TField)}{x1:(List TField)}{r:Int}(h:F115 rc49 x0 x1=some r):CallD Tryz.prog 115 [.c (dM (x0.map eTField)),.c (dM (x1.map eTField)),.c (.fn 116 [])] [] (tupV [.c (dI r)]) []:=by
 refine callS a115_ok (by simp[a115]) ?_
 rw[F115]at h
 simp only[a115,VW.down,Nat.reduceEqDiff,reduceCtorEq,Nat.reduceAdd,Nat.reduceLeDiff,Nat.reduceLT,Nat.reduceBEq,Nat.reduceSub,EE.down]
 obtain⟨o1,ho,h⟩:=bi h
 refine cutS (fun s=>∃po1,o1=Sum.inr po1∧s=⟨[(0,.one (.c (dM (x0.map eTField)))),(1,.one (.c (dM (x1.map eTField))))],[]⟩) ?_ ?_
 ·have h0o1:=h
  have h:=ho
  clear ho
  obtain⟨_,hk,h⟩:=bi h
  have hk:=ck_some hk
  refine ww ?_
  refine bL (fun j s=>∃(o1_0:Nat),(o1_0≤x0.length∧j=x0.length-o1_0)∧s=⟨[(0,.one (.c (dM (x0.map eTField)))),(1,.one (.c (dM (x1.map eTField)))),(2,.one (.c (.fn 116 []))),(11,.one (.c (dM (x0.map eTField)))),(12,.one (.c (dI ((x0.length:Int))))),(13,.one (.c (dI ((o1_0:Int)))))],[]⟩∧F115_l1 rc49 x1 (x0.drop o1_0) o1_0=some o1) (x0.length-0) [] ⟨0,⟨hk.1,rfl⟩,rfl,h⟩ ?_
  rintro _ _ ⟨o1_0,⟨hi,rfl⟩,rfl,h⟩
  refine ww ?_
  refine condS (fun c2=>?_) (fun c2=>?_)
  ·obtain⟨xo1,hxo1,hd⟩:=countY (show(o1_0:Int)<(x0.length:Int)from c2)
   rw[hd,F115_l1]at h
   refine ww ?_
   refine t_idxF (enc:=eTField) (xs:=x0) rfl rfl hxo1 (by rw[eTField_u];rfl) (ww ?_)
   refine condSh h (fun c3 h=>?_) (fun c3 h=>?_)
   ·refine ww ?_
    obtain⟨fh0o1,hfh0o1,rfl⟩:=Option.map_eq_some_iff.1 h
    have h:=hfh0o1.trans h0o1
    cases h
    exact eF []
   refine ww ?_
   obtain⟨y4,hy4,h⟩:=bi h
   refine t_idxF (enc:=eTField) (xs:=x1) rfl rfl hy4 (by rw[eTField_u];rfl) (ww ?_)
   obtain⟨t5,ht5,h⟩:=bi h
   refine cN [] (F116_ok ih49 ht5) trivial (ww ?_)
   refine condSh h (fun c6 h=>?_) (fun c6 h=>?_)
   ·refine ww ?_
    obtain⟨fh0o1,hfh0o1,rfl⟩:=Option.map_eq_some_iff.1 h
    have h:=hfh0o1.trans h0o1
    cases h
    exact eF []
   refine ww ?_
   rw[wrapN (by omega)]
   exact eL' (x0.length-(o1_0+1)) [] ⟨o1_0+1,⟨by omega,rfl⟩,rfl,h⟩ (by omega)
  rw[countN (show¬((o1_0:Int)<(x0.length:Int))from c2),F115_l1]at h
  refine ww ?_
  cases h
  exact eM [] ⟨_,rfl,rfl⟩
 rintro _ ⟨po1,rfl,rfl⟩
 clear ho
 dsimp only at h
 refine ww ?_
 refine condSh h (fun c8 h=>?_) (fun c8 h=>?_)
 ·refine ww ?_
  cases h
  exact eF []
 refine ww ?_
 cases h
 exact eF []
def F24(x0:Object)(x1:Object):Option (Bool):=(((F63 x0.Meta x1.Meta).bind fun t2=>(if t2=true then(F64 x0.Spec x1.Spec).bind fun t4=>(if t4=true then(F64 x0.Status x1.Status).bind fun t6=>some t6 else some false)else some false)).bind fun o1=>some o1)
def a24:AFn:=⟨24,[(.tmp 4)],
 (.seq (.reg [sq 2 (.box (.t 0)),
sq 3 (.box (.t 1)),
sq 4 (.mv (kB false))])
 (.seq (.sem (.reg [sq 5 (.fieldA 0 (.t 2)),
sq 6 (.load (some 13) (.t 5)),
sq 7 (.fieldA 0 (.t 3)),
sq 8 (.load (some 13) (.t 7)),
sq 9 (.call 63 [(.t 6),(.t 8)]),
sq 10 (.mv (.t 9)),
zg 11 10 true (.fieldA 13 (.t 2)),
zg 12 10 true (.load (some 5) (.t 11)),
zg 13 10 true (.fieldA 13 (.t 3)),
zg 14 10 true (.load (some 5) (.t 13)),
zg 15 10 true (.call 64 [(.t 12),(.t 14)]),
sq 16 (.pick (.t 10) (.t 15) (kB false)),
sq 17 (.mv (.t 16)),
zg 18 17 true (.fieldA 18 (.t 2)),
zg 19 17 true (.load (some 5) (.t 18)),
zg 20 17 true (.fieldA 18 (.t 3)),
zg 21 17 true (.load (some 5) (.t 20)),
zg 22 17 true (.call 64 [(.t 19),(.t 21)]),
sq 23 (.pick (.t 17) (.t 22) (kB false)),
sq 4 (.mv (.t 23))]))
 .ret))⟩
theorem a24_ok:afn Tryz.prog 24=some a24.er:=by kernel_rfl
theorem F24_ok{x0 x1 r}(h:F24 x0 x1=some r):CallD Tryz.prog 24 [.agg [dS x0.Meta.Kind,dS x0.Meta.Namespace,dS x0.Meta.Name,dI x0.Meta.Uid,dI x0.Meta.Version,dI x0.Meta.Generation,dI x0.Meta.Created,dB x0.Meta.Deleting,dI x0.Meta.DeleteAt,dM (x0.Meta.Labels.map eLabel),dM (x0.Meta.Owners.map eOwner),dM (x0.Meta.Finalizers.map eS),dM (x0.Meta.Managers.map eManager),dI x0.Spec.Kind,dI x0.Spec.N,dS x0.Spec.S,dM (x0.Spec.List_.map eTValue),dM (x0.Spec.Fields.map eTField),dI x0.Status.Kind,dI x0.Status.N,dS x0.Status.S,dM (x0.Status.List_.map eTValue),dM (x0.Status.Fields.map eTField)],.agg [dS x1.Meta.Kind,dS x1.Meta.Namespace,dS x1.Meta.Name,dI x1.Meta.Uid,dI x1.Meta.Version,dI x1.Meta.Generation,dI x1.Meta.Created,dB x1.Meta.Deleting,dI x1.Meta.DeleteAt,dM (x1.Meta.Labels.map eLabel),dM (x1.Meta.Owners.map eOwner),dM (x1.Meta.Finalizers.map eS),dM (x1.Meta.Managers.map eManager),dI x1.Spec.Kind,dI x1.Spec.N,dS x1.Spec.S,dM (x1.Spec.List_.map eTValue),dM (x1.Spec.Fields.map eTField),dI x1.Status.Kind,dI x1.Status.N,dS x1.Status.S,dM (x1.Status.List_.map eTValue),dM (x1.Status.Fields.map eTField)]] [] (tupV [.c (dB r)]) []:=by
 refine callS a24_ok (by simp[a24]) ?_
 rw[F24]at h
 simp only[a24,VW.down,Nat.reduceEqDiff,reduceCtorEq,Nat.reduceAdd,Nat.reduceLeDiff,Nat.reduceLT,Nat.reduceBEq,Nat.reduceSub,EE.down]
 obtain⟨o1,ho,h⟩:=bi h
 refine cutS (fun s=>s=⟨[(4,.one (.c (dB o1)))],[]⟩) ?_ ?_
 ·have h:=ho
  clear ho
  refine ww ?_
  obtain⟨t2,ht2,h⟩:=bi h
  refine cN [] (F63_ok ht2) trivial (ww ?_)
  refine guardSBh h (fun g3 h=>?_) (fun g3 h=>?_)
  ·refine ww ?_
   obtain⟨t4,ht4,h⟩:=bi h
   refine cN [] (F64_ok ht4) trivial (ww ?_)
   refine guardSBh h (fun g5 h=>?_) (fun g5 h=>?_)
   ·refine ww ?_
    obtain⟨t6,ht6,h⟩:=bi h
    refine cN [] (F64_ok ht6) trivial (ww ?_)
    cases h
    exact eM [] rfl
   refine ww ?_
   cases h
   exact eM [] rfl
  refine ww ?_
  cases h
  exact eM [] rfl
 rintro _ rfl
 clear ho
 refine ww ?_
 cases h
 exact eF []
def F27_l1(x0:(List Object))(x1:(List Object)):Nat→Int→Option ((Bool) ⊕ (Unit))
 |0,_=>none
 |k+1,o1_0=>(((if o1_0<(x0.length:Int)then some (decide (o1_0<(x1.length:Int)))else some false)).bind fun o2=>(if o2=true then(rdI x0 o1_0).bind fun y5=>(rdI x1 o1_0).bind fun y6=>(F24 y5 y6).bind fun t7=>(if(nb t7)=true then(some false).map Sum.inl else F27_l1 x0 x1 k ((IntKind.i64.wrap (o1_0+1))))else some (Sum.inr (()))))
def F27(x0:(List Object))(x1:(List Object)):Option (Bool):=((F27_l1 x0 x1 1099511627776 0:Option ((Bool) ⊕ (Unit))).bind fun o1=>match o1 with|Sum.inl f=>some f|Sum.inr po1=>some (decide ((x0.length:Int)=(x1.length:Int))))
def a27:AFn:=⟨33,[(.tmp 4)],
 (.seq (.reg [sq 4 (.mv (kB false))])
 (.seq (.seq (.reg [sq 5 (.mv (kI 0))])
 (.sem (.block 0 (.loop (.seq (.seq (.sem (.reg [sq 6 (.mv (.t 5)),
sq 7 (.mv (.t 0)),
sq 8 (.len (.t 7)),
sq 9 (.bin .lss (.t 6) (.t 8)),
sq 10 (.mv (.t 9)),
zg 11 10 true (.mv (.t 5)),
zg 12 10 true (.mv (.t 1)),
zg 13 10 true (.len (.t 12)),
zg 14 10 true (.bin .lss (.t 11) (.t 13)),
zl 15 (.pick (.t 10) (.t 14) (kB false)) [] [7,12]]))
 (.cond (.t 15)
 .skip
 (.exit 0)))
 (.seq (.block 1 (.seq (.regd [sq 18 (.mv (.t 0)),
sq 19 (.mv (.t 5)),
sd 20 (.indexA 23 (.t 18) (.t 19)) [0,1],
sd 21 (.load (some 23) (.t 20)) [0,1,2],
sq 22 (.mv (.t 1)),
sq 23 (.mv (.t 5)),
sd 24 (.indexA 23 (.t 22) (.t 23)) [4,5],
sd 25 (.load (some 23) (.t 24)) [4,5,6],
zl 26 (.call 24 [(.t 21),(.t 25)]) [0,1,2,3,4,5,6,7] [],
sd 27 (.not (.t 26)) [0,1,2,3,4,5,6,7,8]])
 (.cond (.t 27)
 (.seq (.reg [sq 4 (.mv (kB false))])
 .ret)
 .skip)))
 (.reg [sq 16 (.mv (.t 5)),
sq 17 (.bin .add (.t 16) (kI 1)),
sq 5 (.mv (.t 17))])))))))
 (.seq (.reg [sq 28 (.mv (.t 0)),
sq 29 (.len (.t 28)),
sq 30 (.mv (.t 1)),
sq 31 (.len (.t 30)),
sq 32 (.bin .eql (.t 29) (.t 31)),
sq 4 (.mv (.t 32))])
 .ret)))⟩
theorem a27_ok:afn Tryz.prog 27=some a27.er:=by kernel_rfl
theorem F27_ok{x0 x1 r}(h:F27 x0 x1=some r):CallD Tryz.prog 27 [.c (dM (x0.map eObject)),.c (dM (x1.map eObject))] [] (tupV [.c (dB r)]) []:=by
 refine callS a27_ok (by simp[a27]) ?_
 rw[F27]at h
 simp only[a27,VW.down,Nat.reduceEqDiff,reduceCtorEq,Nat.reduceAdd,Nat.reduceLeDiff,Nat.reduceLT,Nat.reduceBEq,Nat.reduceSub,EE.down]
 obtain⟨o1,ho,h⟩:=bi h
 refine cutS (fun s=>∃po1,o1=Sum.inr po1∧s=⟨[(0,.one (.c (dM (x0.map eObject)))),(1,.one (.c (dM (x1.map eObject))))],[]⟩) ?_ ?_
 ·have h0o1:=h
  have h:=ho
  clear ho
  refine ww ?_
  refine bL (fun j s=>∃(o1_0:Int),s=⟨[(0,.one (.c (dM (x0.map eObject)))),(1,.one (.c (dM (x1.map eObject)))),(5,.one (.c (dI o1_0)))],[]⟩∧F27_l1 x0 x1 j o1_0=some o1) 1099511627776 [] ⟨0,rfl,h⟩ ?_
  rintro j _ ⟨o1_0,rfl,h⟩
  cases j with
  |zero=>cases(show(none:Option _)=some _ from h)
  |succ j=>
   rw[F27_l1]at h
   refine ww ?_
   obtain⟨o2,ho,h⟩:=bi h
   refine cutS (fun s=>s=⟨[(0,.one (.c (dM (x0.map eObject)))),(1,.one (.c (dM (x1.map eObject)))),(5,.one (.c (dI o1_0))),(15,.one (.c (dB o2)))],[]⟩) ?_ ?_
   ·have h:=ho
    clear ho
    refine ww ?_
    refine guardSh h (fun g3 h=>?_) (fun g3 h=>?_)
    ·refine ww ?_
     cases h
     exact eM [] rfl
    ·refine ww ?_
     cases h
     exact eM [] rfl
   ·rintro _ rfl
    clear ho
    refine ww ?_
    refine condBh h (fun c4 h=>?_) (fun c4 h=>?_)
    ·refine ww ?_
     obtain⟨y5,hy5,h⟩:=bi h
     refine t_idxF (enc:=eObject) (xs:=x0) rfl rfl hy5 rfl (ww ?_)
     obtain⟨y6,hy6,h⟩:=bi h
     refine t_idxF (enc:=eObject) (xs:=x1) rfl rfl hy6 rfl (ww ?_)
     obtain⟨t7,ht7,h⟩:=bi h
     refine cN [] (F24_ok ht7) trivial (ww ?_)
     refine condBh h (fun c8 h=>?_) (fun c8 h=>?_)
     ·refine ww ?_
      obtain⟨fh0o1,hfh0o1,rfl⟩:=Option.map_eq_some_iff.1 h
      have h:=hfh0o1.trans h0o1
      cases h
      exact eF []
     ·refine ww ?_
      exact eL' j [] ⟨(IntKind.i64.wrap (o1_0+1)),rfl,h⟩ (Nat.lt_succ_self _)
    ·refine ww ?_
     cases h
     exact eM [] ⟨_,rfl,rfl⟩
 rintro _ ⟨po1,rfl,rfl⟩
 clear ho
 dsimp only at h
 refine ww ?_
 cases h
 exact eF []
end Go.Proofs.YtbopaemngpbdgaaGreat
