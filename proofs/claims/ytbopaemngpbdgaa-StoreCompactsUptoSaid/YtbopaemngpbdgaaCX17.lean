/- Each Go function as a function over typed data, and its walk. -/
import Derived.Test.YtbopaemngpbdgaaCX
import Derived.Test.YtbopaemngpbdgaaCX4
import Derived.Test.YtbopaemngpbdgaaCX8
import Derived.Test.YtbopaemngpbdgaaCX9
import Derived.Test.YtbopaemngpbdgaaCX12
import Derived.Test.YtbopaemngpbdgaaCX13
namespace Go.Proofs.Ytbopaemngpbdgaa
open Go Go.Fw Go.Shelf
set_option maxRecDepth 100000
set_option maxHeartbeats 4000000
set_option linter.unusedSimpArgs false
set_option linter.unusedVariables false
def F94(rc49:TValue→TValue→Option (Int))(x0:TField)(x1:TField):Option (Int):=(F73 x0.Name x1.Name).bind fun t1=>(rc49 x0.V x1.V).bind fun t2=>(F90 ([t1,t2])).bind fun t3=>some t3
def a94:AFn:=⟨17,[(.tmp 4)],
 (.seq (.reg [sq 2 (.box (.t 0)),
sq 3 (.box (.t 1)),
sq 4 (.mv (kI 0))])
 (.seq (.regd [sq 5 (.fieldA 0 (.t 2)),
sd 6 (.load none (.t 5)) [0],
sq 7 (.fieldA 0 (.t 3)),
sd 8 (.load none (.t 7)) [2],
zn 9 (.call 73 [(.t 6),(.t 8)]) [0,1,2,3] [0,1,2,3],
sq 10 (.fieldA 1 (.t 2)),
sd 11 (.load (some 5) (.t 10)) [5],
sq 12 (.fieldA 1 (.t 3)),
sd 13 (.load (some 5) (.t 12)) [7],
zl 14 (.call 67 [(.t 11),(.t 13)]) [0,1,2,3,4,5,6,7,8] [],
zl 15 (.bslice 1 [(.t 9),(.t 14)]) [0,1,2,3,4,5,6,7,8,9] [],
zl 16 (.call 90 [(.t 15)]) [0,1,2,3,4,5,6,7,8,9,10] [],
sd 4 (.mv (.t 16)) [0,1,2,3,4,5,6,7,8,9,10,11]])
 .ret))⟩
theorem a94_ok:afn Try.prog 94=some a94.er:=by kernel_rfl
theorem F94_ok{rc49:TValue→TValue→Option (Int)}(ih49:∀{x0:TValue} {x1:TValue} {r:Int} (h:rc49 x0 x1=some r),CallD Try.prog 67 [.agg [dI x0.Kind,dI x0.N,dS x0.S,dM (x0.List_.map eTValue),dM (x0.Fields.map eTField)],.agg [dI x1.Kind,dI x1.N,dS x1.S,dM (x1.List_.map eTValue),dM (x1.Fields.map eTField)]] [] (tupV [.c (dI r)]) []){x0:TField}{x1:TField}{r:Int}(h:F94 rc49 x0 x1=some r):CallD Try.prog 94 [.agg [dS x0.Name,dI x0.V.Kind,dI x0.V.N,dS x0.V.S,dM (x0.V.List_.map eTValue),dM (x0.V.Fields.map eTField)],.agg [dS x1.Name,dI x1.V.Kind,dI x1.V.N,dS x1.V.S,dM (x1.V.List_.map eTValue),dM (x1.V.Fields.map eTField)]] [] (tupV [.c (dI r)]) []:=by
 refine callS a94_ok (by simp[a94]) ?_
 rw[F94]at h
 simp only[a94,VW.down,Nat.reduceEqDiff,reduceCtorEq,Nat.reduceAdd,Nat.reduceLeDiff,Nat.reduceLT,Nat.reduceBEq,Nat.reduceSub,EE.down]
 obtain⟨t1,ht1,h⟩:=bi h
 refine cN [] (F73_ok ht1) trivial (ww ?_)
 obtain⟨t2,ht2,h⟩:=bi h
 refine cN [] (ih49 ht2) trivial (ww ?_)
 refine t_bslice (enc:=eI) (ys:=[t1,t2]) rfl rfl (by simp[A1.cells]) (by first|rfl|(simp only[List.drop_zero,take_mapL];rfl)|(simp only[lit,List.map_cons,List.map_nil,List.drop_zero,take_mapL,EE.down];done)|(simp only[lit,List.map_cons,List.map_nil,List.drop_zero,take_mapL,EE.down];rfl)) (ww ?_)
 obtain⟨t3,ht3,h⟩:=bi h
 refine callX_bor (F90_ok ht3) (by simp only[borAs,bors,hp,List.getElem?_cons_zero,List.getElem?_cons_succ,Option.join_some,List.drop_zero,bor_full',true_and,Nat.zero_add,List.length_map,Nat.le_refl,nrm,List.length_cons,List.length_nil,Nat.reduceAdd,Nat.reduceLeDiff,List.take_succ_cons,List.take_zero,List.take_nil,List.map_cons,List.map_nil,List.length_set,EE.down]) rfl ?_
 refine ww ?_
 cases h
 exact eF []
def F93_l1(rc49:TValue→TValue→Option (Int))(x1:(List TField)):List TField→Nat→Option ((Int) ⊕ (Unit))
 |[],o1_0=>some (Sum.inr (()))
 |xo1::xs,o1_0=>(if(x1.length:Int)≤(o1_0:Int)then(some 1).map Sum.inl else(rdI x1 ((o1_0:Int))).bind fun y4=>(F94 rc49 xo1 y4).bind fun t5=>(if¬(t5=0)then(some t5).map Sum.inl else F93_l1 rc49 x1 xs (o1_0+1)))
def F93(rc49:TValue→TValue→Option (Int))(x0:(List TField))(x1:(List TField)):Option (Int):=(((ck (0≤x0.length∧x0.length≤4294967290)).bind fun u7=>F93_l1 rc49 x1 x0 0:Option ((Int) ⊕ (Unit))).bind fun o1=>match o1 with|Sum.inl f=>some f|Sum.inr po1=>(if(x0.length:Int)<(x1.length:Int)then some ((-1))else some 0))
def a93:AFn:=⟨39,[(.tmp 6)],
 (.seq (.reg [sq 6 (.mv (kI 0))])
 (.seq (.seq (.reg [sq 11 (.mv (.t 0)),
sq 12 (.len (.t 11)),
sq 13 (.mv (kI 0))])
 (.sem (.block 0 (.loop (.seq (.reg [sq 14 (.bin .lss (.t 13) (.t 12))])
 (.seq (.cond (.t 14)
 .skip
 (.exit 0))
 (.seq (.block 1 (.seq (.reg [sq 15 (.mv (.t 13)),
sq 16 (.indexA 6 (.t 11) (.t 13)),
sq 17 (.load (some 6) (.t 16)),
sq 8 (.zbox [dS ⟨#[]⟩,dI 0,dI 0,dS ⟨#[]⟩,dN,dN]),
sq 7 (.mv (.t 15)),
su (.store 6 (.t 8) (.t 17))])
 (.seq (.seq (.reg [sq 18 (.mv (.t 7)),
sq 19 (.mv (.t 1)),
sq 20 (.len (.t 19)),
sq 21 (.bin .geq (.t 18) (.t 20))])
 (.cond (.t 21)
 (.seq (.reg [sq 6 (.mv (kI 1))])
 .ret)
 .skip))
 (.seq (.reg [sq 22 (.mv (.t 1)),
sq 23 (.mv (.t 7)),
sq 24 (.indexA 6 (.t 22) (.t 23)),
sq 25 (.load (some 6) (.t 24)),
sq 9 (.zbox [dS ⟨#[]⟩,dI 0,dI 0,dS ⟨#[]⟩,dN,dN]),
su (.store 6 (.t 9) (.t 25))])
 (.seq (.reg [sq 26 (.mv (.t 2)),
sq 27 (.load (some 6) (.t 8)),
sq 28 (.load (some 6) (.t 9)),
sq 29 (.callv (.t 26) [(.t 27),(.t 28)]),
sq 10 (.mv (.t 29))])
 (.seq (.reg [sq 30 (.mv (.t 10)),
sq 31 (.bin .neq (.t 30) (kI 0))])
 (.cond (.t 31)
 (.seq (.reg [sq 32 (.mv (.t 10)),
sq 6 (.mv (.t 32))])
 .ret)
 .skip)))))))
 (.reg [sq 33 (.bin .add (.t 13) (kI 1)),
sq 13 (.mv (.t 33))]))))))))
 (.seq (.seq (.reg [sq 34 (.mv (.t 0)),
sq 35 (.len (.t 34)),
sq 36 (.mv (.t 1)),
sq 37 (.len (.t 36)),
sq 38 (.bin .lss (.t 35) (.t 37))])
 (.cond (.t 38)
 (.seq (.reg [sq 6 (.mv (kI (-1)))])
 .ret)
 .skip))
 (.seq (.reg [sq 6 (.mv (kI 0))])
 .ret))))⟩
theorem a93_ok:afn Try.prog 93=some a93.er:=by kernel_rfl
theorem F93_ok{rc49:TValue→TValue→Option (Int)}(ih49:∀{x0:TValue} {x1:TValue} {r:Int} (h:rc49 x0 x1=some r),CallD Try.prog 67 [.agg [dI x0.Kind,dI x0.N,dS x0.S,dM (x0.List_.map eTValue),dM (x0.Fields.map eTField)],.agg [dI x1.Kind,dI x1.N,dS x1.S,dM (x1.List_.map eTValue),dM (x1.Fields.map eTField)]] [] (tupV [.c (dI r)]) []){x0:(List TField)}{x1:(List TField)}{r:Int}(h:F93 rc49 x0 x1=some r):CallD Try.prog 93 [.c (dM (x0.map eTField)),.c (dM (x1.map eTField)),.c (.fn 94 [])] [] (tupV [.c (dI r)]) []:=by
 refine callS a93_ok (by simp[a93]) ?_
 rw[F93]at h
 simp only[a93,VW.down,Nat.reduceEqDiff,reduceCtorEq,Nat.reduceAdd,Nat.reduceLeDiff,Nat.reduceLT,Nat.reduceBEq,Nat.reduceSub,EE.down]
 obtain⟨o1,ho,h⟩:=bi h
 refine cutS (fun s=>∃po1,o1=Sum.inr po1∧s=⟨[(0,.one (.c (dM (x0.map eTField)))),(1,.one (.c (dM (x1.map eTField))))],[]⟩) ?_ ?_
 ·have h0o1:=h
  have h:=ho
  clear ho
  obtain⟨_,hk,h⟩:=bi h
  have hk:=ck_some hk
  refine ww ?_
  refine bL (fun j s=>∃(o1_0:Nat),(o1_0≤x0.length∧j=x0.length-o1_0)∧s=⟨[(0,.one (.c (dM (x0.map eTField)))),(1,.one (.c (dM (x1.map eTField)))),(2,.one (.c (.fn 94 []))),(11,.one (.c (dM (x0.map eTField)))),(12,.one (.c (dI ((x0.length:Int))))),(13,.one (.c (dI ((o1_0:Int)))))],[]⟩∧F93_l1 rc49 x1 (x0.drop o1_0) o1_0=some o1) (x0.length-0) [] ⟨0,⟨hk.1,rfl⟩,rfl,h⟩ ?_
  rintro _ _ ⟨o1_0,⟨hi,rfl⟩,rfl,h⟩
  refine ww ?_
  refine condS (fun c2=>?_) (fun c2=>?_)
  ·obtain⟨xo1,hxo1,hd⟩:=countY (show(o1_0:Int)<(x0.length:Int)from c2)
   rw[hd,F93_l1]at h
   refine ww ?_
   refine t_idxF (enc:=eTField) (xs:=x0) rfl rfl hxo1 (by rw[eTField_u];rfl) (ww ?_)
   refine condSh h (fun c3 h=>?_) (fun c3 h=>?_)
   ·refine ww ?_
    obtain⟨fh0o1,hfh0o1,rfl⟩:=Option.map_eq_some_iff.1 h
    have h:=hfh0o1.trans h0o1
    cases h
    exact eF []
   refine ww ?_
   obtain⟨y4,hy4,h⟩:=bi h
   refine t_idxF (enc:=eTField) (xs:=x1) rfl rfl hy4 (by rw[eTField_u];rfl) (ww ?_)
   obtain⟨t5,ht5,h⟩:=bi h
   refine cN [] (F94_ok ih49 ht5) trivial (ww ?_)
   refine condSh h (fun c6 h=>?_) (fun c6 h=>?_)
   ·refine ww ?_
    obtain⟨fh0o1,hfh0o1,rfl⟩:=Option.map_eq_some_iff.1 h
    have h:=hfh0o1.trans h0o1
    cases h
    exact eF []
   refine ww ?_
   rw[wrapN (by omega)]
   exact eL' (x0.length-(o1_0+1)) [] ⟨o1_0+1,⟨by omega,rfl⟩,rfl,h⟩ (by omega)
  rw[countN (show¬((o1_0:Int)<(x0.length:Int))from c2),F93_l1]at h
  refine ww ?_
  cases h
  exact eM [] ⟨_,rfl,rfl⟩
 rintro _ ⟨po1,rfl,rfl⟩
 clear ho
 dsimp only at h
 refine ww ?_
 refine condSh h (fun c8 h=>?_) (fun c8 h=>?_)
 ·refine ww ?_
  cases h
  exact eF []
 refine ww ?_
 cases h
 exact eF []
def F67(rc49:TValue→TValue→Option (Int))(x0:TValue)(x1:TValue):Option (Int):=(F91 x0.Kind x1.Kind).bind fun t1=>(F91 x0.N x1.N).bind fun t2=>(F73 x0.S x1.S).bind fun t3=>(F92 rc49 x0.List_ x1.List_).bind fun t4=>(F93 rc49 x0.Fields x1.Fields).bind fun t5=>(F90 ((lit [t1,t2,t3,t4,t5]))).bind fun t6=>some t6
def a67:AFn:=⟨32,[(.tmp 4)],
 (.seq (.reg [sq 2 (.box (.t 0)),
sq 3 (.box (.t 1)),
sq 4 (.mv (kI 0))])
 (.seq (.regd [sq 5 (.fieldA 0 (.t 2)),
sd 6 (.load none (.t 5)) [0],
sq 7 (.fieldA 0 (.t 3)),
sd 8 (.load none (.t 7)) [2],
zn 9 (.call 91 [(.t 6),(.t 8)]) [0,1,2,3] [0,1,2,3],
sq 10 (.fieldA 1 (.t 2)),
sd 11 (.load none (.t 10)) [5],
sq 12 (.fieldA 1 (.t 3)),
sd 13 (.load none (.t 12)) [7],
zn 14 (.call 91 [(.t 11),(.t 13)]) [0,1,2,3,4,5,6,7,8] [0,1,2,3,4,5,6,7,8],
sq 15 (.fieldA 2 (.t 2)),
sd 16 (.load none (.t 15)) [10],
sq 17 (.fieldA 2 (.t 3)),
sd 18 (.load none (.t 17)) [12],
zn 19 (.call 73 [(.t 16),(.t 18)]) [0,1,2,3,4,5,6,7,8,9,10,11,12,13] [0,1,2,3,4,5,6,7,8,9,10,11,12,13],
sq 20 (.fieldA 3 (.t 2)),
sd 21 (.load none (.t 20)) [15],
sq 22 (.fieldA 3 (.t 3)),
sd 23 (.load none (.t 22)) [17],
zn 24 (.call 92 [(.t 21),(.t 23),(.f 67)]) [0,1,2,3,4,5,6,7,8,9,10,11,12,13,14,15,16,17,18] [0,1,2,3,4,5,6,7,8,9,10,11,12,13,14,15,16,17,18],
sq 25 (.fieldA 4 (.t 2)),
sd 26 (.load none (.t 25)) [20],
sq 27 (.fieldA 4 (.t 3)),
sd 28 (.load none (.t 27)) [22],
zl 29 (.call 93 [(.t 26),(.t 28),(.f 94)]) [0,1,2,3,4,5,6,7,8,9,10,11,12,13,14,15,16,17,18,19,20,21,22,23] [],
zl 30 (.bslice 1 [(.t 9),(.t 14),(.t 19),(.t 24),(.t 29)]) [0,1,2,3,4,5,6,7,8,9,10,11,12,13,14,15,16,17,18,19,20,21,22,23,24] [],
zl 31 (.call 90 [(.t 30)]) [0,1,2,3,4,5,6,7,8,9,10,11,12,13,14,15,16,17,18,19,20,21,22,23,24,25] [],
sd 4 (.mv (.t 31)) [0,1,2,3,4,5,6,7,8,9,10,11,12,13,14,15,16,17,18,19,20,21,22,23,24,25,26]])
 .ret))⟩
theorem a67_ok:afn Try.prog 67=some a67.er:=by kernel_rfl
theorem F67_ok{rc49:TValue→TValue→Option (Int)}(ih49:∀{x0:TValue} {x1:TValue} {r:Int} (h:rc49 x0 x1=some r),CallD Try.prog 67 [.agg [dI x0.Kind,dI x0.N,dS x0.S,dM (x0.List_.map eTValue),dM (x0.Fields.map eTField)],.agg [dI x1.Kind,dI x1.N,dS x1.S,dM (x1.List_.map eTValue),dM (x1.Fields.map eTField)]] [] (tupV [.c (dI r)]) []){x0:TValue}{x1:TValue}{r:Int}(h:F67 rc49 x0 x1=some r):CallD Try.prog 67 [.agg [dI x0.Kind,dI x0.N,dS x0.S,dM (x0.List_.map eTValue),dM (x0.Fields.map eTField)],.agg [dI x1.Kind,dI x1.N,dS x1.S,dM (x1.List_.map eTValue),dM (x1.Fields.map eTField)]] [] (tupV [.c (dI r)]) []:=by
 refine callS a67_ok (by simp[a67]) ?_
 rw[F67]at h
 simp only[a67,VW.down,Nat.reduceEqDiff,reduceCtorEq,Nat.reduceAdd,Nat.reduceLeDiff,Nat.reduceLT,Nat.reduceBEq,Nat.reduceSub,EE.down]
 obtain⟨t1,ht1,h⟩:=bi h
 refine cN [] (F91_ok ht1) trivial (ww ?_)
 obtain⟨t2,ht2,h⟩:=bi h
 refine cN [] (F91_ok ht2) trivial (ww ?_)
 obtain⟨t3,ht3,h⟩:=bi h
 refine cN [] (F73_ok ht3) trivial (ww ?_)
 obtain⟨t4,ht4,h⟩:=bi h
 refine cN [] (F92_ok ih49 ht4) trivial (ww ?_)
 obtain⟨t5,ht5,h⟩:=bi h
 refine cN [] (F93_ok ih49 ht5) trivial (ww ?_)
 refine t_bslice (enc:=eI) (ys:=(lit [t1,t2,t3,t4,t5])) rfl rfl (by simp[A1.cells]) (by first|rfl|(simp only[List.drop_zero,take_mapL];rfl)|(simp only[lit,List.map_cons,List.map_nil,List.drop_zero,take_mapL,EE.down];done)|(simp only[lit,List.map_cons,List.map_nil,List.drop_zero,take_mapL,EE.down];rfl)) (ww ?_)
 obtain⟨t6,ht6,h⟩:=bi h
 refine callX_bor (F90_ok ht6) (by simp only[borAs,bors,hp,List.getElem?_cons_zero,List.getElem?_cons_succ,Option.join_some,List.drop_zero,bor_full',true_and,Nat.zero_add,List.length_map,Nat.le_refl,nrm,List.length_cons,List.length_nil,Nat.reduceAdd,Nat.reduceLeDiff,List.take_succ_cons,List.take_zero,List.take_nil,List.map_cons,List.map_nil,List.length_set,EE.down]) rfl ?_
 refine ww ?_
 cases h
 exact eF []
def F67k:Nat→TValue→TValue→Option (Int)
 |0=>fun _ _=>none
 |k+1=>F67 (F67k k)
theorem F67k_ok(k:Nat){x0:TValue}{x1:TValue}{r:Int}(h:F67k k x0 x1=some r):CallD Try.prog 67 [.agg [dI x0.Kind,dI x0.N,dS x0.S,dM (x0.List_.map eTValue),dM (x0.Fields.map eTField)],.agg [dI x1.Kind,dI x1.N,dS x1.S,dM (x1.List_.map eTValue),dM (x1.Fields.map eTField)]] [] (tupV [.c (dI r)]) []:=by
 induction k generalizing x0 x1 r with
 |zero=>cases(show(none:Option (Int))=some _ from h)
 |succ k ih=>exact F67_ok (fun h=>ih h) h
def F77_l1(x1:ByteArray):List Object→Nat→Option ((Int) ⊕ (Unit))
 |[],o1_0=>some (Sum.inr (()))
 |xo1::xs,o1_0=>(F99 xo1).bind fun t3=>(if t3=x1 then(some ((o1_0:Int))).map Sum.inl else F77_l1 x1 xs (o1_0+1))
def F77(x0:(List Object))(x1:ByteArray):Option (Int):=(((ck (0≤x0.length∧x0.length≤4294967290)).bind fun u5=>F77_l1 x1 x0 0:Option ((Int) ⊕ (Unit))).bind fun o1=>match o1 with|Sum.inl f=>some f|Sum.inr po1=>some ((-1)))
def a77:AFn:=⟨20,[(.tmp 4)],
 (.seq (.reg [sq 4 (.mv (kI 0))])
 (.seq (.seq (.reg [sq 5 (.mv (kI 0))])
 (.sem (.block 0 (.loop (.seq (.seq (.reg [sq 6 (.mv (.t 5)),
sq 7 (.mv (.t 0)),
sq 8 (.len (.t 7)),
sq 9 (.bin .lss (.t 6) (.t 8))])
 (.cond (.t 9)
 .skip
 (.exit 0)))
 (.seq (.block 1 (.seq (.reg [sq 12 (.mv (.t 0)),
sq 13 (.mv (.t 5)),
sq 14 (.indexA 23 (.t 12) (.t 13)),
sq 15 (.load (some 23) (.t 14)),
sq 16 (.call 99 [(.t 15)]),
sq 17 (.mv (.t 1)),
sq 18 (.bin .eql (.t 16) (.t 17))])
 (.cond (.t 18)
 (.seq (.reg [sq 19 (.mv (.t 5)),
sq 4 (.mv (.t 19))])
 .ret)
 .skip)))
 (.reg [sq 10 (.mv (.t 5)),
sq 11 (.bin .add (.t 10) (kI 1)),
sq 5 (.mv (.t 11))])))))))
 (.seq (.reg [sq 4 (.mv (kI (-1)))])
 .ret)))⟩
theorem a77_ok:afn Try.prog 77=some a77.er:=by kernel_rfl
theorem F77_ok{x0 x1 r}(h:F77 x0 x1=some r):CallD Try.prog 77 [.c (dM (x0.map eObject)),.c (dS x1)] [] (tupV [.c (dI r)]) []:=by
 refine callS a77_ok (by simp[a77]) ?_
 rw[F77]at h
 simp only[a77,VW.down,Nat.reduceEqDiff,reduceCtorEq,Nat.reduceAdd,Nat.reduceLeDiff,Nat.reduceLT,Nat.reduceBEq,Nat.reduceSub,EE.down]
 obtain⟨o1,ho,h⟩:=bi h
 refine cutS (fun s=>∃po1,o1=Sum.inr po1∧s=⟨[],[]⟩) ?_ ?_
 ·have h0o1:=h
  have h:=ho
  clear ho
  obtain⟨_,hk,h⟩:=bi h
  have hk:=ck_some hk
  refine ww ?_
  refine bL (fun j s=>∃(o1_0:Nat),(o1_0≤x0.length∧j=x0.length-o1_0)∧s=⟨[(0,.one (.c (dM (x0.map eObject)))),(1,.one (.c (dS x1))),(5,.one (.c (dI ((o1_0:Int)))))],[]⟩∧F77_l1 x1 (x0.drop o1_0) o1_0=some o1) (x0.length-0) [] ⟨0,⟨hk.1,rfl⟩,rfl,h⟩ ?_
  rintro _ _ ⟨o1_0,⟨hi,rfl⟩,rfl,h⟩
  refine ww ?_
  refine condS (fun c2=>?_) (fun c2=>?_)
  ·obtain⟨xo1,hxo1,hd⟩:=countY (show(o1_0:Int)<(x0.length:Int)from c2)
   rw[hd,F77_l1]at h
   refine ww ?_
   refine t_idxF (enc:=eObject) (xs:=x0) rfl rfl hxo1 rfl (ww ?_)
   obtain⟨t3,ht3,h⟩:=bi h
   refine cN [] (F99_ok ht3) trivial (ww ?_)
   refine condSh h (fun c4 h=>?_) (fun c4 h=>?_)
   ·refine ww ?_
    obtain⟨fh0o1,hfh0o1,rfl⟩:=Option.map_eq_some_iff.1 h
    have h:=hfh0o1.trans h0o1
    cases h
    exact eF []
   refine ww ?_
   rw[wrapN (by omega)]
   exact eL' (x0.length-(o1_0+1)) [] ⟨o1_0+1,⟨by omega,rfl⟩,rfl,h⟩ (by omega)
  rw[countN (show¬((o1_0:Int)<(x0.length:Int))from c2),F77_l1]at h
  refine ww ?_
  cases h
  exact eM [] ⟨_,rfl,rfl⟩
 rintro _ ⟨po1,rfl,rfl⟩
 clear ho
 dsimp only at h
 refine ww ?_
 cases h
 exact eF []
def F55(x0:TStore)(x1:ByteArray):Option (Object×Bool):=(F77 x0.Objects x1).bind fun t1=>(if t1<0 then some (((⟨(⟨(⟨#[]⟩:ByteArray),(⟨#[]⟩:ByteArray),(⟨#[]⟩:ByteArray),0,0,0,0,false,0,[],[],[],[]⟩:Meta),(⟨0,0,(⟨#[]⟩:ByteArray),[],[]⟩:TValue),(⟨0,0,(⟨#[]⟩:ByteArray),[],[]⟩:TValue)⟩:Object),false))else(rdI x0.Objects t1).bind fun y3=>some ((y3,true)))
def a55:AFn:=⟨19,[(.cell 4 (some 23)),(.tmp 5)],
 (.seq (.reg [sq 2 (.box (.t 0)),
sq 4 (.zbox [dS ⟨#[]⟩,dS ⟨#[]⟩,dS ⟨#[]⟩,dI 0,dI 0,dI 0,dI 0,dB false,dI 0,dN,dN,dN,dN,dI 0,dI 0,dS ⟨#[]⟩,dN,dN,dI 0,dI 0,dS ⟨#[]⟩,dN,dN]),
sq 5 (.mv (kB false))])
 (.seq (.reg [sq 7 (.fieldA 4 (.t 2)),
sq 8 (.load none (.t 7)),
sq 9 (.mv (.t 1)),
sq 10 (.call 77 [(.t 8),(.t 9)]),
sq 6 (.mv (.t 10))])
 (.seq (.seq (.reg [sq 11 (.mv (.t 6)),
sq 12 (.bin .lss (.t 11) (kI 0))])
 (.cond (.t 12)
 (.seq (.reg [sq 13 (.build [dS ⟨#[]⟩,dS ⟨#[]⟩,dS ⟨#[]⟩,dI 0,dI 0,dI 0,dI 0,dB false,dI 0,dN,dN,dN,dN,dI 0,dI 0,dS ⟨#[]⟩,dN,dN,dI 0,dI 0,dS ⟨#[]⟩,dN,dN] []),
su (.store 23 (.t 4) (.t 13)),
sq 5 (.mv (kB false))])
 .ret)
 .skip))
 (.seq (.reg [sq 14 (.fieldA 4 (.t 2)),
sq 15 (.load none (.t 14)),
sq 16 (.mv (.t 6)),
sq 17 (.indexA 23 (.t 15) (.t 16)),
sq 18 (.load (some 23) (.t 17)),
su (.store 23 (.t 4) (.t 18)),
sq 5 (.mv (kB true))])
 .ret))))⟩
theorem a55_ok:afn Try.prog 55=some a55.er:=by kernel_rfl
theorem F55_ok{x0 x1 r}(h:F55 x0 x1=some r):CallD Try.prog 55 [.agg [dI x0.Rev,dI x0.Floor,dI x0.NextUid,dM (x0.Base.map eObject),dM (x0.Objects.map eObject),dM (x0.History.map eChange)],.c (dS x1)] [] (tupV [.agg [dS ((r.1).Meta.Kind),dS ((r.1).Meta.Namespace),dS ((r.1).Meta.Name),dI ((r.1).Meta.Uid),dI ((r.1).Meta.Version),dI ((r.1).Meta.Generation),dI ((r.1).Meta.Created),dB ((r.1).Meta.Deleting),dI ((r.1).Meta.DeleteAt),dM (((r.1).Meta.Labels).map eLabel),dM (((r.1).Meta.Owners).map eOwner),dM (((r.1).Meta.Finalizers).map eS),dM (((r.1).Meta.Managers).map eManager),dI ((r.1).Spec.Kind),dI ((r.1).Spec.N),dS ((r.1).Spec.S),dM (((r.1).Spec.List_).map eTValue),dM (((r.1).Spec.Fields).map eTField),dI ((r.1).Status.Kind),dI ((r.1).Status.N),dS ((r.1).Status.S),dM (((r.1).Status.List_).map eTValue),dM (((r.1).Status.Fields).map eTField)],.c (dB r.2)]) []:=by
 refine callS a55_ok (by simp[a55]) ?_
 rw[F55]at h
 simp only[a55,VW.down,Nat.reduceEqDiff,reduceCtorEq,Nat.reduceAdd,Nat.reduceLeDiff,Nat.reduceLT,Nat.reduceBEq,Nat.reduceSub,EE.down]
 obtain⟨t1,ht1,h⟩:=bi h
 refine cN [] (F77_ok ht1) trivial (ww ?_)
 refine condSh h (fun c2 h=>?_) (fun c2 h=>?_)
 ·refine ww ?_
  cases h
  exact eF []
 refine ww ?_
 obtain⟨y3,hy3,h⟩:=bi h
 refine t_idxF (enc:=eObject) (xs:=x0.Objects) rfl rfl hy3 rfl (ww ?_)
 cases h
 exact eF []
def F28(x0:TStore)(x1:TOp):Option (Int×Int):=(((if x1.Kind=2 then(F54 x1.O.Meta).bind fun t3=>some t3 else some x1.Key)).bind fun o1=>(((if x1.Version<0 then(F55 x0 o1).bind fun t6=>some ((t6.1).Meta.Version)else some x1.Version)).bind fun o4=>(if x1.Kind=2 then some ((o4,o4))else some ((x1.O.Meta.Version,o4)))))
def a28:AFn:=⟨43,[(.cell 4 (some 23)),(.tmp 5)],
 (.seq (.reg [sq 2 (.box (.t 0)),
sq 3 (.box (.t 1)),
sq 4 (.zbox [dS ⟨#[]⟩,dS ⟨#[]⟩,dS ⟨#[]⟩,dI 0,dI 0,dI 0,dI 0,dB false,dI 0,dN,dN,dN,dN,dI 0,dI 0,dS ⟨#[]⟩,dN,dN,dI 0,dI 0,dS ⟨#[]⟩,dN,dN]),
sq 5 (.mv (kI 0))])
 (.seq (.reg [sq 11 (.fieldA 24 (.t 3)),
sq 12 (.load none (.t 11)),
sq 6 (.mv (.t 12))])
 (.seq (.sem (.seq (.reg [sq 13 (.fieldA 0 (.t 3)),
sq 14 (.load none (.t 13)),
sq 15 (.bin .eql (.t 14) (kI 2))])
 (.cond (.t 15)
 (.reg [sq 16 (.fieldA 1 (.t 3)),
sq 17 (.fieldA 0 (.t 16)),
sq 18 (.load (some 13) (.t 17)),
sq 19 (.call 54 [(.t 18)]),
sq 6 (.mv (.t 19))])
 .skip)))
 (.seq (.reg [sq 20 (.fieldA 25 (.t 3)),
sq 21 (.load none (.t 20)),
sq 7 (.mv (.t 21))])
 (.seq (.sem (.seq (.reg [sq 22 (.mv (.t 7)),
sq 23 (.bin .lss (.t 22) (kI 0))])
 (.cond (.t 23)
 (.seq (.reg [sq 25 (.load (some 6) (.t 2)),
sq 26 (.mv (.t 6)),
sq 27 (.call 55 [(.t 25),(.t 26)]),
sq 24 (.mv (.t 27)),
sq 28 (.ext (.t 24) 0),
sq 29 (.ext (.t 24) 1),
sq 8 (.zbox [dS ⟨#[]⟩,dS ⟨#[]⟩,dS ⟨#[]⟩,dI 0,dI 0,dI 0,dI 0,dB false,dI 0,dN,dN,dN,dN,dI 0,dI 0,dS ⟨#[]⟩,dN,dN,dI 0,dI 0,dS ⟨#[]⟩,dN,dN]),
su (.store 23 (.t 8) (.t 28)),
sq 9 (.mv (.t 29))])
 (.reg [sq 30 (.fieldA 0 (.t 8)),
sq 31 (.fieldA 4 (.t 30)),
sq 32 (.load none (.t 31)),
sq 7 (.mv (.t 32))]))
 .skip)))
 (.seq (.reg [sq 33 (.fieldA 1 (.t 3)),
sq 34 (.load (some 23) (.t 33)),
sq 10 (.zbox [dS ⟨#[]⟩,dS ⟨#[]⟩,dS ⟨#[]⟩,dI 0,dI 0,dI 0,dI 0,dB false,dI 0,dN,dN,dN,dN,dI 0,dI 0,dS ⟨#[]⟩,dN,dN,dI 0,dI 0,dS ⟨#[]⟩,dN,dN]),
su (.store 23 (.t 10) (.t 34))])
 (.seq (.seq (.reg [sq 35 (.fieldA 0 (.t 3)),
sq 36 (.load none (.t 35)),
sq 37 (.bin .eql (.t 36) (kI 2))])
 (.cond (.t 37)
 (.reg [sq 38 (.mv (.t 7)),
sq 39 (.fieldA 0 (.t 10)),
sq 40 (.fieldA 4 (.t 39)),
⟨none,none,.store 1 (.t 40) (.t 38),[],(.lone [10,39])⟩])
 .skip))
 (.seq (.reg [sq 41 (.load (some 23) (.t 10)),
sq 42 (.mv (.t 7)),
su (.store 23 (.t 4) (.t 41)),
sq 5 (.mv (.t 42))])
 .ret))))))))⟩
theorem a28_ok:afn Try.prog 28=some a28.er:=by kernel_rfl
theorem F28_ok{x0 x1 r}(h:F28 x0 x1=some r):CallD Try.prog 28 [.agg [dI x0.Rev,dI x0.Floor,dI x0.NextUid,dM (x0.Base.map eObject),dM (x0.Objects.map eObject),dM (x0.History.map eChange)],.agg [dI x1.Kind,dS x1.O.Meta.Kind,dS x1.O.Meta.Namespace,dS x1.O.Meta.Name,dI x1.O.Meta.Uid,dI x1.O.Meta.Version,dI x1.O.Meta.Generation,dI x1.O.Meta.Created,dB x1.O.Meta.Deleting,dI x1.O.Meta.DeleteAt,dM (x1.O.Meta.Labels.map eLabel),dM (x1.O.Meta.Owners.map eOwner),dM (x1.O.Meta.Finalizers.map eS),dM (x1.O.Meta.Managers.map eManager),dI x1.O.Spec.Kind,dI x1.O.Spec.N,dS x1.O.Spec.S,dM (x1.O.Spec.List_.map eTValue),dM (x1.O.Spec.Fields.map eTField),dI x1.O.Status.Kind,dI x1.O.Status.N,dS x1.O.Status.S,dM (x1.O.Status.List_.map eTValue),dM (x1.O.Status.Fields.map eTField),dS x1.Key,dI x1.Version,dI x1.Now,dI x1.Rev]] [] (tupV [.agg [dS x1.O.Meta.Kind,dS x1.O.Meta.Namespace,dS x1.O.Meta.Name,dI x1.O.Meta.Uid,dI r.1,dI x1.O.Meta.Generation,dI x1.O.Meta.Created,dB x1.O.Meta.Deleting,dI x1.O.Meta.DeleteAt,dM (x1.O.Meta.Labels.map eLabel),dM (x1.O.Meta.Owners.map eOwner),dM (x1.O.Meta.Finalizers.map eS),dM (x1.O.Meta.Managers.map eManager),dI x1.O.Spec.Kind,dI x1.O.Spec.N,dS x1.O.Spec.S,dM (x1.O.Spec.List_.map eTValue),dM (x1.O.Spec.Fields.map eTField),dI x1.O.Status.Kind,dI x1.O.Status.N,dS x1.O.Status.S,dM (x1.O.Status.List_.map eTValue),dM (x1.O.Status.Fields.map eTField)],.c (dI r.2)]) []:=by
 refine callS a28_ok (by simp[a28]) ?_
 rw[F28]at h
 simp only[a28,VW.down,Nat.reduceEqDiff,reduceCtorEq,Nat.reduceAdd,Nat.reduceLeDiff,Nat.reduceLT,Nat.reduceBEq,Nat.reduceSub,EE.down]
 obtain⟨o1,ho,h⟩:=bi h
 refine cutS (fun s=>s=⟨[(2,.one (.c (.pt 0 0))),(3,.one (.c (.pt 1 0))),(4,.one (.c (.pt 2 0))),(6,.one (.c (dS o1)))],[some (.box [dI x0.Rev,dI x0.Floor,dI x0.NextUid,dM (x0.Base.map eObject),dM (x0.Objects.map eObject),dM (x0.History.map eChange)]),some (.box [dI x1.Kind,dS x1.O.Meta.Kind,dS x1.O.Meta.Namespace,dS x1.O.Meta.Name,dI x1.O.Meta.Uid,dI x1.O.Meta.Version,dI x1.O.Meta.Generation,dI x1.O.Meta.Created,dB x1.O.Meta.Deleting,dI x1.O.Meta.DeleteAt,dM (x1.O.Meta.Labels.map eLabel),dM (x1.O.Meta.Owners.map eOwner),dM (x1.O.Meta.Finalizers.map eS),dM (x1.O.Meta.Managers.map eManager),dI x1.O.Spec.Kind,dI x1.O.Spec.N,dS x1.O.Spec.S,dM (x1.O.Spec.List_.map eTValue),dM (x1.O.Spec.Fields.map eTField),dI x1.O.Status.Kind,dI x1.O.Status.N,dS x1.O.Status.S,dM (x1.O.Status.List_.map eTValue),dM (x1.O.Status.Fields.map eTField),dS x1.Key,dI x1.Version,dI x1.Now,dI x1.Rev]),some (.box [dS ((⟨#[]⟩:ByteArray)),dS ((⟨#[]⟩:ByteArray)),dS ((⟨#[]⟩:ByteArray)),dI 0,dI 0,dI 0,dI 0,dB false,dI 0,dN,dN,dN,dN,dI 0,dI 0,dS ((⟨#[]⟩:ByteArray)),dN,dN,dI 0,dI 0,dS ((⟨#[]⟩:ByteArray)),dN,dN])]⟩) ?_ ?_
 ·have h:=ho
  clear ho
  refine ww ?_
  refine condSh h (fun c2 h=>?_) (fun c2 h=>?_)
  ·refine ww ?_
   obtain⟨t3,ht3,h⟩:=bi h
   refine cN [] (F54_ok ht3) trivial (ww ?_)
   cases h
   exact eM [some 0,some 1,some 2] rfl
  refine ww ?_
  cases h
  exact eM [some 0,some 1,some 2] rfl
 rintro _ rfl
 clear ho
 refine ww ?_
 obtain⟨o4,ho,h⟩:=bi h
 refine cutS (fun s=>s=⟨[(3,.one (.c (.pt 0 0))),(4,.one (.c (.pt 1 0))),(7,.one (.c (dI o4)))],[some (.box [dI x1.Kind,dS x1.O.Meta.Kind,dS x1.O.Meta.Namespace,dS x1.O.Meta.Name,dI x1.O.Meta.Uid,dI x1.O.Meta.Version,dI x1.O.Meta.Generation,dI x1.O.Meta.Created,dB x1.O.Meta.Deleting,dI x1.O.Meta.DeleteAt,dM (x1.O.Meta.Labels.map eLabel),dM (x1.O.Meta.Owners.map eOwner),dM (x1.O.Meta.Finalizers.map eS),dM (x1.O.Meta.Managers.map eManager),dI x1.O.Spec.Kind,dI x1.O.Spec.N,dS x1.O.Spec.S,dM (x1.O.Spec.List_.map eTValue),dM (x1.O.Spec.Fields.map eTField),dI x1.O.Status.Kind,dI x1.O.Status.N,dS x1.O.Status.S,dM (x1.O.Status.List_.map eTValue),dM (x1.O.Status.Fields.map eTField),dS x1.Key,dI x1.Version,dI x1.Now,dI x1.Rev]),some (.box [dS ((⟨#[]⟩:ByteArray)),dS ((⟨#[]⟩:ByteArray)),dS ((⟨#[]⟩:ByteArray)),dI 0,dI 0,dI 0,dI 0,dB false,dI 0,dN,dN,dN,dN,dI 0,dI 0,dS ((⟨#[]⟩:ByteArray)),dN,dN,dI 0,dI 0,dS ((⟨#[]⟩:ByteArray)),dN,dN])]⟩) ?_ ?_
 ·have h:=ho
  clear ho
  refine ww ?_
  refine condSh h (fun c5 h=>?_) (fun c5 h=>?_)
  ·refine ww ?_
   obtain⟨t6,ht6,h⟩:=bi h
   refine cN [] (F55_ok ht6) trivial (ww ?_)
   cases h
   exact eM [some 1,some 2] rfl
  refine ww ?_
  cases h
  exact eM [some 1,some 2] rfl
 rintro _ rfl
 clear ho
 refine ww ?_
 refine condSh h (fun c7 h=>?_) (fun c7 h=>?_)
 ·refine ww ?_
  cases h
  exact eF []
 refine ww ?_
 cases h
 exact eF []
end Go.Proofs.Ytbopaemngpbdgaa
