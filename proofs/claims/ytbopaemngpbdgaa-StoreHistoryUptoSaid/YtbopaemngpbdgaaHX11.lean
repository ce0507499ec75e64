/- Each Go function as a function over typed data, and its walk. -/
import Derived.Test.YtbopaemngpbdgaaHX
import Derived.Test.YtbopaemngpbdgaaHX3
import Derived.Test.YtbopaemngpbdgaaHX6
import Derived.Test.YtbopaemngpbdgaaHX9
namespace Go.Proofs.Ytbopaemngpbdgaa
open Go Go.Fw Go.Shelf
set_option maxRecDepth 100000
set_option maxHeartbeats 4000000
set_option linter.unusedSimpArgs false
set_option linter.unusedVariables false
def F73(x0:ByteArray)(x1:ByteArray):Option (Int):=(F97 x0 x1).bind fun t1=>some t1
def a73:AFn:=⟨8,[(.tmp 4)],
 (.seq (.reg [sq 4 (.mv (kI 0))])
 (.seq (.reg [sq 5 (.mv (.t 0)),
sq 6 (.mv (.t 1)),
sq 7 (.call 97 [(.t 5),(.t 6)]),
sq 4 (.mv (.t 7))])
 .ret))⟩
theorem a73_ok:afn Try.prog 73=some a73.er:=by kernel_rfl
theorem F73_ok{x0 x1 r}(h:F73 x0 x1=some r):CallD Try.prog 73 [.c (dS x0),.c (dS x1)] [] (tupV [.c (dI r)]) []:=by
 refine callS a73_ok (by simp[a73]) ?_
 rw[F73]at h
 simp only[a73,VW.down,Nat.reduceEqDiff,reduceCtorEq,Nat.reduceAdd,Nat.reduceLeDiff,Nat.reduceLT,Nat.reduceBEq,Nat.reduceSub,EE.down]
 obtain⟨t1,ht1,h⟩:=bi h
 refine cN [] (F97_ok ht1) trivial (ww ?_)
 cases h
 exact eF []
def F72(x0:Object)(x1:ByteArray):Option (Int):=(F33 x0.Meta).bind fun t1=>(F73 t1 x1).bind fun t2=>some t2
def a72:AFn:=⟨10,[(.tmp 4)],
 (.seq (.reg [sq 2 (.box (.t 0)),
sq 4 (.mv (kI 0))])
 (.seq (.reg [sq 5 (.fieldA 0 (.t 2)),
sq 6 (.load (some 13) (.t 5)),
sq 7 (.call 33 [(.t 6)]),
sq 8 (.mv (.t 1)),
sq 9 (.call 73 [(.t 7),(.t 8)]),
sq 4 (.mv (.t 9))])
 .ret))⟩
theorem a72_ok:afn Try.prog 72=some a72.er:=by kernel_rfl
theorem F72_ok{x0 x1 r}(h:F72 x0 x1=some r):CallD Try.prog 72 [.agg [dS x0.Meta.Kind,dS x0.Meta.Namespace,dS x0.Meta.Name,dI x0.Meta.Uid,dI x0.Meta.Version,dI x0.Meta.Generation,dI x0.Meta.Created,dB x0.Meta.Deleting,dI x0.Meta.DeleteAt,dM (x0.Meta.Labels.map eLabel),dM (x0.Meta.Owners.map eOwner),dM (x0.Meta.Finalizers.map eS),dM (x0.Meta.Managers.map eManager),dI x0.Spec.Kind,dI x0.Spec.N,dS x0.Spec.S,dM (x0.Spec.List_.map eTValue),dM (x0.Spec.Fields.map eTField),dI x0.Status.Kind,dI x0.Status.N,dS x0.Status.S,dM (x0.Status.List_.map eTValue),dM (x0.Status.Fields.map eTField)],.c (dS x1)] [] (tupV [.c (dI r)]) []:=by
 refine callS a72_ok (by simp[a72]) ?_
 rw[F72]at h
 simp only[a72,VW.down,Nat.reduceEqDiff,reduceCtorEq,Nat.reduceAdd,Nat.reduceLeDiff,Nat.reduceLT,Nat.reduceBEq,Nat.reduceSub,EE.down]
 obtain⟨t1,ht1,h⟩:=bi h
 refine cN [] (F33_ok ht1) trivial (ww ?_)
 obtain⟨t2,ht2,h⟩:=bi h
 refine cN [] (F73_ok ht2) trivial (ww ?_)
 cases h
 exact eF []
def F71_l1(x0:(List Object))(x1:ByteArray):Nat→Int→Int→Option (Int)
 |0,_,_=>none
 |k+1,o1_0,o1_1=>(if o1_0<o1_1 then(rdI x0 ((IntKind.i64.wrap ((shrV .u64 ((IntKind.u64.wrap ((IntKind.i64.wrap (o1_0+o1_1))))) 1))))).bind fun y3=>(F72 y3 x1).bind fun t4=>(if t4<0 then F71_l1 x0 x1 k ((IntKind.i64.wrap (((IntKind.i64.wrap ((shrV .u64 ((IntKind.u64.wrap ((IntKind.i64.wrap (o1_0+o1_1))))) 1))))+1))) o1_1 else F71_l1 x0 x1 k o1_0 ((IntKind.i64.wrap ((shrV .u64 ((IntKind.u64.wrap ((IntKind.i64.wrap (o1_0+o1_1))))) 1)))))else some o1_0)
def F71(x0:(List Object))(x1:ByteArray):Option (Int×Bool):=((F71_l1 x0 x1 1099511627776 0 ((x0.length:Int))).bind fun o1=>(((if o1<(x0.length:Int)then(rdI x0 o1).bind fun y8=>(F72 y8 x1).bind fun t9=>some (decide (t9=0))else some false)).bind fun o6=>some ((o1,o6))))
def a71:AFn:=⟨49,[(.tmp 6),(.tmp 7)],
 (.seq (.reg [sq 6 (.mv (kI 0)),
sq 7 (.mv (kB false))])
 (.seq (.reg [sq 12 (.mv (.t 0)),
sq 13 (.len (.t 12)),
sq 8 (.mv (.t 13))])
 (.seq (.reg [sq 14 (.mv (.t 8)),
sq 9 (.mv (kI 0)),
sq 10 (.mv (.t 14))])
 (.seq (.sem (.block 0 (.loop (.seq (.seq (.reg [sq 15 (.mv (.t 9)),
sq 16 (.mv (.t 10)),
sq 17 (.bin .lss (.t 15) (.t 16))])
 (.cond (.t 17)
 .skip
 (.exit 0)))
 (.block 1 (.seq (.reg [sq 18 (.mv (.t 9)),
sq 19 (.mv (.t 10)),
sq 20 (.bin .add (.t 18) (.t 19)),
sq 21 (.conv .u64 (.t 20)),
sq 22 (.bin .shr (.t 21) (.k (.c (.d (.v (.int .u64 1)))))),
sq 23 (.conv .i64 (.t 22)),
sq 11 (.mv (.t 23))])
 (.seq (.reg [sq 24 (.mv (.t 2)),
sq 25 (.mv (.t 0)),
sq 26 (.mv (.t 11)),
sq 27 (.indexA 23 (.t 25) (.t 26)),
sq 28 (.load (some 23) (.t 27)),
sq 29 (.mv (.t 1)),
sq 30 (.callv (.t 24) [(.t 28),(.t 29)]),
sq 31 (.bin .lss (.t 30) (kI 0))])
 (.cond (.t 31)
 (.reg [sq 32 (.mv (.t 11)),
sq 33 (.bin .add (.t 32) (kI 1)),
sq 9 (.mv (.t 33))])
 (.reg [sq 34 (.mv (.t 11)),
sq 10 (.mv (.t 34))])))))))))
 (.seq (.sem (.reg [sq 35 (.mv (.t 9)),
sq 36 (.mv (.t 9)),
sq 37 (.mv (.t 8)),
sq 38 (.bin .lss (.t 36) (.t 37)),
sq 39 (.mv (.t 38)),
zg 40 39 true (.mv (.t 2)),
zg 41 39 true (.mv (.t 0)),
zg 42 39 true (.mv (.t 9)),
zg 43 39 true (.indexA 23 (.t 41) (.t 42)),
zg 44 39 true (.load (some 23) (.t 43)),
zg 45 39 true (.mv (.t 1)),
zg 46 39 true (.callv (.t 40) [(.t 44),(.t 45)]),
zg 47 39 true (.bin .eql (.t 46) (kI 0)),
sq 48 (.pick (.t 39) (.t 47) (kB false)),
sq 6 (.mv (.t 35)),
sq 7 (.mv (.t 48))]))
 .ret)))))⟩
theorem a71_ok:afn Try.prog 71=some a71.er:=by kernel_rfl
theorem F71_ok{x0 x1 r}(h:F71 x0 x1=some r):CallD Try.prog 71 [.c (dM (x0.map eObject)),.c (dS x1),.c (.fn 72 [])] [] (tupV [.c (dI r.1),.c (dB r.2)]) []:=by
 refine callS a71_ok (by simp[a71]) ?_
 rw[F71]at h
 simp only[a71,VW.down,Nat.reduceEqDiff,reduceCtorEq,Nat.reduceAdd,Nat.reduceLeDiff,Nat.reduceLT,Nat.reduceBEq,Nat.reduceSub,EE.down]
 obtain⟨o1,ho,h⟩:=bi h
 refine cutS (fun s=>s=⟨[(0,.one (.c (dM (x0.map eObject)))),(1,.one (.c (dS x1))),(2,.one (.c (.fn 72 []))),(8,.one (.c (dI ((x0.length:Int))))),(9,.one (.c (dI o1)))],[]⟩) ?_ ?_
 ·have h:=ho
  clear ho
  refine ww ?_
  refine bL (fun j s=>∃(o1_0:Int) (o1_1:Int),s=⟨[(0,.one (.c (dM (x0.map eObject)))),(1,.one (.c (dS x1))),(2,.one (.c (.fn 72 []))),(8,.one (.c (dI ((x0.length:Int))))),(9,.one (.c (dI o1_0))),(10,.one (.c (dI o1_1)))],[]⟩∧F71_l1 x0 x1 j o1_0 o1_1=some o1) 1099511627776 [] ⟨0,(x0.length:Int),rfl,h⟩ ?_
  rintro j _ ⟨o1_0,o1_1,rfl,h⟩
  cases j with
  |zero=>cases(show(none:Option _)=some _ from h)
  |succ j=>
   rw[F71_l1]at h
   refine ww ?_
   refine condSh h (fun c2 h=>?_) (fun c2 h=>?_)
   ·refine ww ?_
    refine⟨by decide,?_⟩
    refine ww ?_
    obtain⟨y3,hy3,h⟩:=bi h
    refine t_idxF (enc:=eObject) (xs:=x0) rfl rfl hy3 rfl (ww ?_)
    obtain⟨t4,ht4,h⟩:=bi h
    refine cN [] (F72_ok ht4) trivial (ww ?_)
    refine condSh h (fun c5 h=>?_) (fun c5 h=>?_)
    ·refine ww ?_
     exact eL' j [] ⟨(IntKind.i64.wrap (((IntKind.i64.wrap ((shrV .u64 ((IntKind.u64.wrap ((IntKind.i64.wrap (o1_0+o1_1))))) 1))))+1)),o1_1,rfl,h⟩ (Nat.lt_succ_self _)
    ·refine ww ?_
     exact eL' j [] ⟨o1_0,(IntKind.i64.wrap ((shrV .u64 ((IntKind.u64.wrap ((IntKind.i64.wrap (o1_0+o1_1))))) 1))),rfl,h⟩ (Nat.lt_succ_self _)
   ·refine ww ?_
    cases h
    exact eM [] rfl
 rintro _ rfl
 clear ho
 refine ww ?_
 obtain⟨o6,ho,h⟩:=bi h
 refine cutS (fun s=>s=⟨[(6,.one (.c (dI o1))),(7,.one (.c (dB o6)))],[]⟩) ?_ ?_
 ·have h:=ho
  clear ho
  refine ww ?_
  refine guardSh h (fun g7 h=>?_) (fun g7 h=>?_)
  ·refine ww ?_
   obtain⟨y8,hy8,h⟩:=bi h
   refine t_idxF (enc:=eObject) (xs:=x0) rfl rfl hy8 rfl (ww ?_)
   obtain⟨t9,ht9,h⟩:=bi h
   refine cN [] (F72_ok ht9) trivial (ww ?_)
   cases h
   exact eM [] rfl
  refine ww ?_
  cases h
  exact eM [] rfl
 rintro _ rfl
 clear ho
 refine ww ?_
 cases h
 exact eF []
def F94(rc49:TValue→TValue→Option (Int))(x0:TField)(x1:TField):Option (Int):=(F73 x0.Name x1.Name).bind fun t1=>(rc49 x0.V x1.V).bind fun t2=>(F90 ([t1,t2])).bind fun t3=>some t3
def a94:AFn:=⟨17,[(.tmp 4)],
 (.seq (.reg [sq 2 (.box (.t 0)),
sq 3 (.box (.t 1)),
sq 4 (.mv (kI 0))])
 (.seq (.regd [sq 5 (.fieldA 0 (.t 2)),
sd 6 (.load none (.t 5)) [0],
sq 7 (.fieldA 0 (.t 3)),
sd 8 (.load none (.t 7)) [2],
zn 9 (.call 73 [(.t 6),(.t 8)]) [0,1,2,3] [0,1,2,3],
sq 10 (.fieldA 1 (.t 2)),
sd 11 (.load (some 5) (.t 10)) [5],
sq 12 (.fieldA 1 (.t 3)),
sd 13 (.load (some 5) (.t 12)) [7],
zl 14 (.call 67 [(.t 11),(.t 13)]) [0,1,2,3,4,5,6,7,8] [],
zl 15 (.bslice 1 [(.t 9),(.t 14)]) [0,1,2,3,4,5,6,7,8,9] [],
zl 16 (.call 90 [(.t 15)]) [0,1,2,3,4,5,6,7,8,9,10] [],
sd 4 (.mv (.t 16)) [0,1,2,3,4,5,6,7,8,9,10,11]])
 .ret))⟩
theorem a94_ok:afn Try.prog 94=some a94.er:=by kernel_rfl
theorem F94_ok{rc49:TValue→TValue→Option (Int)}(ih49:∀{x0:TValue} {x1:TValue} {r:Int} (h:rc49 x0 x1=some r),CallD Try.prog 67 [.agg [dI x0.Kind,dI x0.N,dS x0.S,dM (x0.List_.map eTValue),dM (x0.Fields.map eTField)],.agg [dI x1.Kind,dI x1.N,dS x1.S,dM (x1.List_.map eTValue),dM (x1.Fields.map eTField)]] [] (tupV [.c (dI r)]) []){x0:TField}{x1:TField}{r:Int}(h:F94 rc49 x0 x1=some r):CallD Try.prog 94 [.agg [dS x0.Name,dI x0.V.Kind,dI x0.V.N,dS x0.V.S,dM (x0.V.List_.map eTValue),dM (x0.V.Fields.map eTField)],.agg [dS x1.Name,dI x1.V.Kind,dI x1.V.N,dS x1.V.S,dM (x1.V.List_.map eTValue),dM (x1.V.Fields.map eTField)]] [] (tupV [.c (dI r)]) []:=by
 refine callS a94_ok (by simp[a94]) ?_
 rw[F94]at h
 simp only[a94,VW.down,Nat.reduceEqDiff,reduceCtorEq,Nat.reduceAdd,Nat.reduceLeDiff,Nat.reduceLT,Nat.reduceBEq,Nat.reduceSub,EE.down]
 obtain⟨t1,ht1,h⟩:=bi h
 refine cN [] (F73_ok ht1) trivial (ww ?_)
 obtain⟨t2,ht2,h⟩:=bi h
 refine cN [] (ih49 ht2) trivial (ww ?_)
 refine t_bslice (enc:=eI) (ys:=[t1,t2]) rfl rfl (by simp[A1.cells]) (by first|rfl|(simp only[List.drop_zero,take_mapL];rfl)|(simp only[lit,List.map_cons,List.map_nil,List.drop_zero,take_mapL,EE.down];done)|(simp only[lit,List.map_cons,List.map_nil,List.drop_zero,take_mapL,EE.down];rfl)) (ww ?_)
 obtain⟨t3,ht3,h⟩:=bi h
 refine callX_bor (F90_ok ht3) (by simp only[borAs,bors,hp,List.getElem?_cons_zero,List.getElem?_cons_succ,Option.join_some,List.drop_zero,bor_full',true_and,Nat.zero_add,List.length_map,Nat.le_refl,nrm,List.length_cons,List.length_nil,Nat.reduceAdd,Nat.reduceLeDiff,List.take_succ_cons,List.take_zero,List.take_nil,List.map_cons,List.map_nil,List.length_set,EE.down]) rfl ?_
 refine ww ?_
 cases h
 exact eF []
def F93_l1(rc49:TValue→TValue→Option (Int))(x1:(List TField)):List TField→Nat→Option ((Int) ⊕ (Unit))
 |[],o1_0=>some (Sum.inr (()))
 |xo1::xs,o1_0=>(if(x1.length:Int)≤(o1_0:Int)then(some 1).map Sum.inl else(rdI x1 ((o1_0:Int))).bind fun y4=>(F94 rc49 xo1 y4).bind fun t5=>(if¬(t5=0)then(some t5).map Sum.inl else F93_l1 rc49 x1 xs (o1_0+1)))
def F93(rc49:TValue→TValue→Option (Int))(x0:(List TField))(x1:(List TField)):Option (Int):=(((ck (0≤x0.length∧x0.length≤4294967290)).bind fun u7=>F93_l1 rc49 x1 x0 0:Option ((Int) ⊕ (Unit))).bind fun o1=>match o1 with|Sum.inl f=>some f|Sum.inr po1=>(if(x0.length:Int)<(x1.length:Int)then some ((-1))else some 0))
def a93:AFn:=⟨39,[(.tmp 6)],
 (.seq (.reg [sq 6 (.mv (kI 0))])
 (.seq (.seq (.reg [sq 11 (.mv (.t 0)),
sq 12 (.len (.t 11)),
sq 13 (.mv (kI 0))])
 (.sem (.block 0 (.loop (.seq (.reg [sq 14 (.bin .lss (.t 13) (.t 12))])
 (.seq (.cond (.t 14)
 .skip
 (.exit 0))
 (.seq (.block 1 (.seq (.reg [sq 15 (.mv (.t 13)),
sq 16 (.indexA 6 (.t 11) (.t 13)),
sq 17 (.load (some 6) (.t 16)),
sq 8 (.zbox [dS ⟨#[]⟩,dI 0,dI 0,dS ⟨#[]⟩,dN,dN]),
sq 7 (.mv (.t 15)),
su (.store 6 (.t 8) (.t 17))])
 (.seq (.seq (.reg [sq 18 (.mv (.t 7)),
sq 19 (.mv (.t 1)),
sq 20 (.len (.t 19)),
sq 21 (.bin .geq (.t 18) (.t 20))])
 (.cond (.t 21)
 (.seq (.reg [sq 6 (.mv (kI 1))])
 .ret)
 .skip))
 (.seq (.reg [sq 22 (.mv (.t 1)),
sq 23 (.mv (.t 7)),
sq 24 (.indexA 6 (.t 22) (.t 23)),
sq 25 (.load (some 6) (.t 24)),
sq 9 (.zbox [dS ⟨#[]⟩,dI 0,dI 0,dS ⟨#[]⟩,dN,dN]),
su (.store 6 (.t 9) (.t 25))])
 (.seq (.reg [sq 26 (.mv (.t 2)),
sq 27 (.load (some 6) (.t 8)),
sq 28 (.load (some 6) (.t 9)),
sq 29 (.callv (.t 26) [(.t 27),(.t 28)]),
sq 10 (.mv (.t 29))])
 (.seq (.reg [sq 30 (.mv (.t 10)),
sq 31 (.bin .neq (.t 30) (kI 0))])
 (.cond (.t 31)
 (.seq (.reg [sq 32 (.mv (.t 10)),
sq 6 (.mv (.t 32))])
 .ret)
 .skip)))))))
 (.reg [sq 33 (.bin .add (.t 13) (kI 1)),
sq 13 (.mv (.t 33))]))))))))
 (.seq (.seq (.reg [sq 34 (.mv (.t 0)),
sq 35 (.len (.t 34)),
sq 36 (.mv (.t 1)),
sq 37 (.len (.t 36)),
sq 38 (.bin .lss (.t 35) (.t 37))])
 (.cond (.t 38)
 (.seq (.reg [sq 6 (.mv (kI (-1)))])
 .ret)
 .skip))
 (.seq (.reg [sq 6 (.mv (kI 0))])
 .ret))))⟩
theorem a93_ok:afn Try.prog 93=some a93.er:=by kernel_rfl
theorem F93_ok{rc49:TValue→TValue→Option (Int)}(ih49:∀{x0:TValue} {x1:TValue} {r:Int} (h:rc49 x0 x1=some r),CallD Try.prog 67 [.agg [dI x0.Kind,dI x0.N,dS x0.S,dM (x0.List_.map eTValue),dM (x0.Fields.map eTField)],.agg [dI x1.Kind,dI x1.N,dS x1.S,dM (x1.List_.map eTValue),dM (x1.Fields.map eTField)]] [] (tupV [.c (dI r)]) []){x0:(List TField)}{x1:(List TField)}{r:Int}(h:F93 rc49 x0 x1=some r):CallD Try.prog 93 [.c (dM (x0.map eTField)),.c (dM (x1.map eTField)),.c (.fn 94 [])] [] (tupV [.c (dI r)]) []:=by
 refine callS a93_ok (by simp[a93]) ?_
 rw[F93]at h
 simp only[a93,VW.down,Nat.reduceEqDiff,reduceCtorEq,Nat.reduceAdd,Nat.reduceLeDiff,Nat.reduceLT,Nat.reduceBEq,Nat.reduceSub,EE.down]
 obtain⟨o1,ho,h⟩:=bi h
 refine cutS (fun s=>∃po1,o1=Sum.inr po1∧s=⟨[(0,.one (.c (dM (x0.map eTField)))),(1,.one (.c (dM (x1.map eTField))))],[]⟩) ?_ ?_
 ·have h0o1:=h
  have h:=ho
  clear ho
  obtain⟨_,hk,h⟩:=bi h
  have hk:=ck_some hk
  refine ww ?_
  refine bL (fun j s=>∃(o1_0:Nat),(o1_0≤x0.length∧j=x0.length-o1_0)∧s=⟨[(0,.one (.c (dM (x0.map eTField)))),(1,.one (.c (dM (x1.map eTField)))),(2,.one (.c (.fn 94 []))),(11,.one (.c (dM (x0.map eTField)))),(12,.one (.c (dI ((x0.length:Int))))),(13,.one (.c (dI ((o1_0:Int)))))],[]⟩∧F93_l1 rc49 x1 (x0.drop o1_0) o1_0=some o1) (x0.length-0) [] ⟨0,⟨hk.1,rfl⟩,rfl,h⟩ ?_
  rintro _ _ ⟨o1_0,⟨hi,rfl⟩,rfl,h⟩
  refine ww ?_
  refine condS (fun c2=>?_) (fun c2=>?_)
  ·obtain⟨xo1,hxo1,hd⟩:=countY (show(o1_0:Int)<(x0.length:Int)from c2)
   rw[hd,F93_l1]at h
   refine ww ?_
   refine t_idxF (enc:=eTField) (xs:=x0) rfl rfl hxo1 (by rw[eTField_u];rfl) (ww ?_)
   refine condSh h (fun c3 h=>?_) (fun c3 h=>?_)
   ·refine ww ?_
    obtain⟨fh0o1,hfh0o1,rfl⟩:=Option.map_eq_some_iff.1 h
    have h:=hfh0o1.trans h0o1
    cases h
    exact eF []
   refine ww ?_
   obtain⟨y4,hy4,h⟩:=bi h
   refine t_idxF (enc:=eTField) (xs:=x1) rfl rfl hy4 (by rw[eTField_u];rfl) (ww ?_)
   obtain⟨t5,ht5,h⟩:=bi h
   refine cN [] (F94_ok ih49 ht5) trivial (ww ?_)
   refine condSh h (fun c6 h=>?_) (fun c6 h=>?_)
   ·refine ww ?_
    obtain⟨fh0o1,hfh0o1,rfl⟩:=Option.map_eq_some_iff.1 h
    have h:=hfh0o1.trans h0o1
    cases h
    exact eF []
   refine ww ?_
   rw[wrapN (by omega)]
   exact eL' (x0.length-(o1_0+1)) [] ⟨o1_0+1,⟨by omega,rfl⟩,rfl,h⟩ (by omega)
  rw[countN (show¬((o1_0:Int)<(x0.length:Int))from c2),F93_l1]at h
  refine ww ?_
  cases h
  exact eM [] ⟨_,rfl,rfl⟩
 rintro _ ⟨po1,rfl,rfl⟩
 clear ho
 dsimp only at h
 refine ww ?_
 refine condSh h (fun c8 h=>?_) (fun c8 h=>?_)
 ·refine ww ?_
  cases h
  exact eF []
 refine ww ?_
 cases h
 exact eF []
end Go.Proofs.Ytbopaemngpbdgaa
