/- Each Go function as a function over typed data, and its walk. -/
import Derived.Test.YtbopaemngpbdgaaCX
namespace Go.Proofs.Ytbopaemngpbdgaa
open Go Go.Fw Go.Shelf
set_option maxRecDepth 100000
set_option maxHeartbeats 4000000
set_option linter.unusedSimpArgs false
set_option linter.unusedVariables false
def F88_l1(rc29:TValue→Option (Int)):List TValue→Nat→Int→Option (Int)
 |[],o1_1,o1_0=>some o1_0
 |xo1::xs,o1_1,o1_0=>(rc29 xo1).bind fun t3=>F88_l1 rc29 xs (o1_1+1) ((IntKind.i64.wrap (o1_0+t3)))
def F88_l5(rc29:TValue→Option (Int)):List TField→Nat→Int→Option (Int)
 |[],o5_1,o5_0=>some o5_0
 |xo5::xs,o5_1,o5_0=>(rc29 xo5.V).bind fun t7=>F88_l5 rc29 xs (o5_1+1) ((IntKind.i64.wrap (o5_0+t7)))
def F88(rc29:TValue→Option (Int))(x0:TValue):Option (Int):=(((ck (0≤x0.List_.length∧x0.List_.length≤4294967290)).bind fun u4=>F88_l1 rc29 x0.List_ 0 1).bind fun o1=>(((ck (0≤x0.Fields.length∧x0.Fields.length≤4294967290)).bind fun u8=>F88_l5 rc29 x0.Fields 0 o1).bind fun o5=>some o5))
def a88:AFn:=⟨34,[(.tmp 2)],
 (.seq (.reg [sq 1 (.box (.t 0)),
sq 2 (.mv (kI 0))])
 (.seq (.reg [sq 3 (.mv (kI 1))])
 (.seq (.seq (.reg [sq 8 (.fieldA 3 (.t 1)),
sq 9 (.load none (.t 8)),
sq 10 (.len (.t 9)),
sq 11 (.mv (kI 0))])
 (.sem (.block 0 (.loop (.seq (.reg [sq 12 (.bin .lss (.t 11) (.t 10))])
 (.seq (.cond (.t 12)
 .skip
 (.exit 0))
 (.seq (.block 1 (.seq (.reg [sq 13 (.indexA 5 (.t 9) (.t 11)),
sq 14 (.load (some 5) (.t 13)),
sq 5 (.zbox [dI 0,dI 0,dS ⟨#[]⟩,dN,dN]),
su (.store 5 (.t 5) (.t 14))])
 (.reg [sq 15 (.mv (.t 3)),
sq 16 (.load (some 5) (.t 5)),
sq 17 (.call 88 [(.t 16)]),
sq 18 (.bin .add (.t 15) (.t 17)),
sq 3 (.mv (.t 18))])))
 (.reg [sq 19 (.bin .add (.t 11) (kI 1)),
sq 11 (.mv (.t 19))]))))))))
 (.seq (.seq (.reg [sq 20 (.fieldA 4 (.t 1)),
sq 21 (.load none (.t 20)),
sq 22 (.len (.t 21)),
sq 23 (.mv (kI 0))])
 (.sem (.block 2 (.loop (.seq (.reg [sq 24 (.bin .lss (.t 23) (.t 22))])
 (.seq (.cond (.t 24)
 .skip
 (.exit 2))
 (.seq (.block 3 (.seq (.reg [sq 25 (.indexA 6 (.t 21) (.t 23)),
sq 26 (.load (some 6) (.t 25)),
sq 7 (.zbox [dS ⟨#[]⟩,dI 0,dI 0,dS ⟨#[]⟩,dN,dN]),
su (.store 6 (.t 7) (.t 26))])
 (.reg [sq 27 (.mv (.t 3)),
sq 28 (.fieldA 1 (.t 7)),
sq 29 (.load (some 5) (.t 28)),
sq 30 (.call 88 [(.t 29)]),
sq 31 (.bin .add (.t 27) (.t 30)),
sq 3 (.mv (.t 31))])))
 (.reg [sq 32 (.bin .add (.t 23) (kI 1)),
sq 23 (.mv (.t 32))]))))))))
 (.seq (.reg [sq 33 (.mv (.t 3)),
sq 2 (.mv (.t 33))])
 .ret)))))⟩
theorem a88_ok:afn Try.prog 88=some a88.er:=by kernel_rfl
theorem F88_ok{rc29:TValue→Option (Int)}(ih29:∀{x0:TValue} {r:Int} (h:rc29 x0=some r),CallD Try.prog 88 [.agg [dI x0.Kind,dI x0.N,dS x0.S,dM (x0.List_.map eTValue),dM (x0.Fields.map eTField)]] [] (tupV [.c (dI r)]) []){x0:TValue}{r:Int}(h:F88 rc29 x0=some r):CallD Try.prog 88 [.agg [dI x0.Kind,dI x0.N,dS x0.S,dM (x0.List_.map eTValue),dM (x0.Fields.map eTField)]] [] (tupV [.c (dI r)]) []:=by
 refine callS a88_ok (by simp[a88]) ?_
 rw[F88]at h
 simp only[a88,VW.down,Nat.reduceEqDiff,reduceCtorEq,Nat.reduceAdd,Nat.reduceLeDiff,Nat.reduceLT,Nat.reduceBEq,Nat.reduceSub,EE.down]
 obtain⟨o1,ho,h⟩:=bi h
 refine cutS (fun s=>s=⟨[(1,.one (.c (.pt 0 0))),(3,.one (.c (dI o1)))],[some (.box [dI x0.Kind,dI x0.N,dS x0.S,dM (x0.List_.map eTValue),dM (x0.Fields.map eTField)])]⟩) ?_ ?_
 ·have h:=ho
  clear ho
  obtain⟨_,hk,h⟩:=bi h
  have hk:=ck_some hk
  refine ww ?_
  refine bL (fun j s=>∃(o1_1:Nat) (o1_0:Int),(o1_1≤x0.List_.length∧j=x0.List_.length-o1_1)∧s=⟨[(1,.one (.c (.pt 0 0))),(3,.one (.c (dI o1_0))),(9,.one (.c (dM (x0.List_.map eTValue)))),(10,.one (.c (dI ((x0.List_.length:Int))))),(11,.one (.c (dI ((o1_1:Int)))))],[some (.box [dI x0.Kind,dI x0.N,dS x0.S,dM (x0.List_.map eTValue),dM (x0.Fields.map eTField)])]⟩∧F88_l1 rc29 (x0.List_.drop o1_1) o1_1 o1_0=some o1) (x0.List_.length-0) [some 0] ⟨0,1,⟨hk.1,rfl⟩,rfl,h⟩ ?_
  rintro _ _ ⟨o1_1,o1_0,⟨hi,rfl⟩,rfl,h⟩
  refine ww ?_
  refine condS (fun c2=>?_) (fun c2=>?_)
  ·obtain⟨xo1,hxo1,hd⟩:=countY (show(o1_1:Int)<(x0.List_.length:Int)from c2)
   rw[hd,F88_l1]at h
   refine ww ?_
   refine t_idxF (enc:=eTValue) (xs:=x0.List_) rfl rfl hxo1 (by rw[eTValue_u];rfl) (ww ?_)
   obtain⟨t3,ht3,h⟩:=bi h
   refine cN [] (ih29 ht3) trivial (ww ?_)
   rw[wrapN (by omega)]
   exact eL' (x0.List_.length-(o1_1+1)) [some 0] ⟨o1_1+1,(IntKind.i64.wrap (o1_0+t3)),⟨by omega,rfl⟩,rfl,h⟩ (by omega)
  rw[countN (show¬((o1_1:Int)<(x0.List_.length:Int))from c2),F88_l1]at h
  refine ww ?_
  cases h
  exact eM [some 0] rfl
 rintro _ rfl
 clear ho
 refine ww ?_
 obtain⟨o5,ho,h⟩:=bi h
 refine cutS (fun s=>s=⟨[(3,.one (.c (dI o5)))],[]⟩) ?_ ?_
 ·have h:=ho
  clear ho
  obtain⟨_,hk,h⟩:=bi h
  have hk:=ck_some hk
  refine ww ?_
  refine bL (fun j s=>∃(o5_1:Nat) (o5_0:Int),(o5_1≤x0.Fields.length∧j=x0.Fields.length-o5_1)∧s=⟨[(3,.one (.c (dI o5_0))),(21,.one (.c (dM (x0.Fields.map eTField)))),(22,.one (.c (dI ((x0.Fields.length:Int))))),(23,.one (.c (dI ((o5_1:Int)))))],[]⟩∧F88_l5 rc29 (x0.Fields.drop o5_1) o5_1 o5_0=some o5) (x0.Fields.length-0) [] ⟨0,o1,⟨hk.1,rfl⟩,rfl,h⟩ ?_
  rintro _ _ ⟨o5_1,o5_0,⟨hi,rfl⟩,rfl,h⟩
  refine ww ?_
  refine condS (fun c6=>?_) (fun c6=>?_)
  ·obtain⟨xo5,hxo5,hd⟩:=countY (show(o5_1:Int)<(x0.Fields.length:Int)from c6)
   rw[hd,F88_l5]at h
   refine ww ?_
   refine t_idxF (enc:=eTField) (xs:=x0.Fields) rfl rfl hxo5 (by rw[eTField_u];rfl) (ww ?_)
   obtain⟨t7,ht7,h⟩:=bi h
   refine cN [] (ih29 ht7) trivial (ww ?_)
   rw[wrapN (by omega)]
   exact eL' (x0.Fields.length-(o5_1+1)) [] ⟨o5_1+1,(IntKind.i64.wrap (o5_0+t7)),⟨by omega,rfl⟩,rfl,h⟩ (by omega)
  rw[countN (show¬((o5_1:Int)<(x0.Fields.length:Int))from c6),F88_l5]at h
  refine ww ?_
  cases h
  exact eM [] rfl
 rintro _ rfl
 clear ho
 refine ww ?_
 cases h
 exact eF []
def F88k:Nat→TValue→Option (Int)
 |0=>fun _=>none
 |k+1=>F88 (F88k k)
theorem F88k_ok(k:Nat){x0:TValue}{r:Int}(h:F88k k x0=some r):CallD Try.prog 88 [.agg [dI x0.Kind,dI x0.N,dS x0.S,dM (x0.List_.map eTValue),dM (x0.Fields.map eTField)]] [] (tupV [.c (dI r)]) []:=by
 induction k generalizing x0 r with
 |zero=>cases(show(none:Option (Int))=some _ from h)
 |succ k ih=>exact F88_ok (fun h=>ih h) h
theorem a63_ok:afn Try.prog 63=some (cloneA 5 48):=by kernel_rfl
theorem F63_ok{x0 r:List Owner}(h:cloneI x0=some r):CallD Try.prog 63 [.c (dM (x0.map eOwner))] [] (tupV [.c (.own 0 1 0 r.length none)]) [some (.arr 1 5 (r.map eOwner))]:=L_clone a63_ok (fun _=>rfl) h
theorem a65_ok:afn Try.prog 65=some (cloneA 2 40):=by kernel_rfl
theorem F65_ok{x0 r:List Manager}(h:cloneI x0=some r):CallD Try.prog 65 [.c (dM (x0.map eManager))] [] (tupV [.c (.own 0 1 0 r.length none)]) [some (.arr 1 2 (r.map eManager))]:=L_clone a65_ok (fun _=>rfl) h
noncomputable def fn95:Func:=(Try.prog.funcs[95]?).getD default
theorem fn95_ok:Try.prog.funcs[95]? =some fn95:=by kernel_rfl
theorem ov95(e0 e1 o0 o1 l0 l1:Nat)(c0 c1:Option Nat)(r0 r1:List (List D)):
  CallD Try.prog 95 [.c (.own 0 e0 o0 l0 c0),.c (.own 1 e1 o1 l1 c1)] [some (.arr e0 23 r0),some (.arr e1 23 r1)] (.one (aB false)) [some (.arr e0 23 r0),some (.arr e1 23 r1)]:=
 ovl_callD (tS:=25) (tT:=4) (e:=41) (ps:= #[25,25]) (rs:= #[4]) fn95_ok (by kernel_rfl) (by kernel_rfl) (by kernel_rfl) (by kernel_rfl) rfl rfl (by kernel_rfl) (by kernel_rfl) e0 e1 o0 o1 l0 l1 c0 c1 r0 r1
def F90_l1:List Int→Nat→Option ((Int) ⊕ (Unit))
 |[],o1_0=>some (Sum.inr (()))
 |xo1::xs,o1_0=>(if¬(xo1=0)then(some xo1).map Sum.inl else F90_l1 xs (o1_0+1))
def F90(x0:(List Int)):Option (Int):=(((ck (0≤x0.length∧x0.length≤4294967290)).bind fun u4=>F90_l1 x0 0:Option ((Int) ⊕ (Unit))).bind fun o1=>match o1 with|Sum.inl f=>some f|Sum.inr po1=>some 0)
def a90:AFn:=⟨18,[(.tmp 2)],
 (.seq (.reg [sq 2 (.mv (kI 0))])
 (.seq (.reg [sq 3 (.mv (kI 0))])
 (.seq (.seq (.reg [sq 6 (.mv (.t 0)),
sq 7 (.len (.t 6)),
sq 8 (.mv (kI 0))])
 (.sem (.block 0 (.loop (.seq (.reg [sq 9 (.bin .lss (.t 8) (.t 7))])
 (.seq (.cond (.t 9)
 .skip
 (.exit 0))
 (.seq (.block 1 (.seq (.reg [sq 10 (.indexA 1 (.t 6) (.t 8)),
sq 11 (.load none (.t 10)),
sq 5 (.mv (.t 11))])
 (.seq (.reg [sq 12 (.mv (.t 5)),
sq 13 (.mv (.t 3)),
sq 14 (.bin .neq (.t 12) (.t 13))])
 (.cond (.t 14)
 (.seq (.reg [sq 15 (.mv (.t 5)),
sq 2 (.mv (.t 15))])
 .ret)
 .skip))))
 (.reg [sq 16 (.bin .add (.t 8) (kI 1)),
sq 8 (.mv (.t 16))]))))))))
 (.seq (.reg [sq 17 (.mv (.t 3)),
sq 2 (.mv (.t 17))])
 .ret))))⟩
theorem a90_ok:afn Try.prog 90=some a90.er:=by kernel_rfl
theorem F90_ok{x0 r}(h:F90 x0=some r):CallD Try.prog 90 [.c (dM (x0.map eI))] [] (tupV [.c (dI r)]) []:=by
 refine callS a90_ok (by simp[a90]) ?_
 rw[F90]at h
 simp only[a90,VW.down,Nat.reduceEqDiff,reduceCtorEq,Nat.reduceAdd,Nat.reduceLeDiff,Nat.reduceLT,Nat.reduceBEq,Nat.reduceSub,EE.down]
 obtain⟨o1,ho,h⟩:=bi h
 refine cutS (fun s=>∃po1,o1=Sum.inr po1∧s=⟨[(3,.one (.c (dI 0)))],[]⟩) ?_ ?_
 ·have h0o1:=h
  have h:=ho
  clear ho
  obtain⟨_,hk,h⟩:=bi h
  have hk:=ck_some hk
  refine ww ?_
  refine bL (fun j s=>∃(o1_0:Nat),(o1_0≤x0.length∧j=x0.length-o1_0)∧s=⟨[(3,.one (.c (dI 0))),(6,.one (.c (dM (x0.map eI)))),(7,.one (.c (dI ((x0.length:Int))))),(8,.one (.c (dI ((o1_0:Int)))))],[]⟩∧F90_l1 (x0.drop o1_0) o1_0=some o1) (x0.length-0) [] ⟨0,⟨hk.1,rfl⟩,rfl,h⟩ ?_
  rintro _ _ ⟨o1_0,⟨hi,rfl⟩,rfl,h⟩
  refine ww ?_
  refine condS (fun c2=>?_) (fun c2=>?_)
  ·obtain⟨xo1,hxo1,hd⟩:=countY (show(o1_0:Int)<(x0.length:Int)from c2)
   rw[hd,F90_l1]at h
   refine ww ?_
   refine t_idxF (enc:=eI) (xs:=x0) rfl rfl hxo1 rfl (ww ?_)
   refine condSh h (fun c3 h=>?_) (fun c3 h=>?_)
   ·refine ww ?_
    obtain⟨fh0o1,hfh0o1,rfl⟩:=Option.map_eq_some_iff.1 h
    have h:=hfh0o1.trans h0o1
    cases h
    exact eF []
   refine ww ?_
   rw[wrapN (by omega)]
   exact eL' (x0.length-(o1_0+1)) [] ⟨o1_0+1,⟨by omega,rfl⟩,rfl,h⟩ (by omega)
  rw[countN (show¬((o1_0:Int)<(x0.length:Int))from c2),F90_l1]at h
  refine ww ?_
  cases h
  exact eM [] ⟨_,rfl,rfl⟩
 rintro _ ⟨po1,rfl,rfl⟩
 clear ho
 dsimp only at h
 refine ww ?_
 cases h
 exact eF []
def F92_l1(rc49:TValue→TValue→Option (Int))(x1:(List TValue)):List TValue→Nat→Option ((Int) ⊕ (Unit))
 |[],o1_0=>some (Sum.inr (()))
 |xo1::xs,o1_0=>(if(x1.length:Int)≤(o1_0:Int)then(some 1).map Sum.inl else(rdI x1 ((o1_0:Int))).bind fun y4=>(rc49 xo1 y4).bind fun t5=>(if¬(t5=0)then(some t5).map Sum.inl else F92_l1 rc49 x1 xs (o1_0+1)))
def F92(rc49:TValue→TValue→Option (Int))(x0:(List TValue))(x1:(List TValue)):Option (Int):=(((ck (0≤x0.length∧x0.length≤4294967290)).bind fun u7=>F92_l1 rc49 x1 x0 0:Option ((Int) ⊕ (Unit))).bind fun o1=>match o1 with|Sum.inl f=>some f|Sum.inr po1=>(if(x0.length:Int)<(x1.length:Int)then some ((-1))else some 0))
def a92:AFn:=⟨39,[(.tmp 6)],
 (.seq (.reg [sq 6 (.mv (kI 0))])
 (.seq (.seq (.reg [sq 11 (.mv (.t 0)),
sq 12 (.len (.t 11)),
sq 13 (.mv (kI 0))])
 (.sem (.block 0 (.loop (.seq (.reg [sq 14 (.bin .lss (.t 13) (.t 12))])
 (.seq (.cond (.t 14)
 .skip
 (.exit 0))
 (.seq (.block 1 (.seq (.reg [sq 15 (.mv (.t 13)),
sq 16 (.indexA 5 (.t 11) (.t 13)),
sq 17 (.load (some 5) (.t 16)),
sq 8 (.zbox [dI 0,dI 0,dS ⟨#[]⟩,dN,dN]),
sq 7 (.mv (.t 15)),
su (.store 5 (.t 8) (.t 17))])
 (.seq (.seq (.reg [sq 18 (.mv (.t 7)),
sq 19 (.mv (.t 1)),
sq 20 (.len (.t 19)),
sq 21 (.bin .geq (.t 18) (.t 20))])
 (.cond (.t 21)
 (.seq (.reg [sq 6 (.mv (kI 1))])
 .ret)
 .skip))
 (.seq (.reg [sq 22 (.mv (.t 1)),
sq 23 (.mv (.t 7)),
sq 24 (.indexA 5 (.t 22) (.t 23)),
sq 25 (.load (some 5) (.t 24)),
sq 9 (.zbox [dI 0,dI 0,dS ⟨#[]⟩,dN,dN]),
su (.store 5 (.t 9) (.t 25))])
 (.seq (.reg [sq 26 (.mv (.t 2)),
sq 27 (.load (some 5) (.t 8)),
sq 28 (.load (some 5) (.t 9)),
sq 29 (.callv (.t 26) [(.t 27),(.t 28)]),
sq 10 (.mv (.t 29))])
 (.seq (.reg [sq 30 (.mv (.t 10)),
sq 31 (.bin .neq (.t 30) (kI 0))])
 (.cond (.t 31)
 (.seq (.reg [sq 32 (.mv (.t 10)),
sq 6 (.mv (.t 32))])
 .ret)
 .skip)))))))
 (.reg [sq 33 (.bin .add (.t 13) (kI 1)),
sq 13 (.mv (.t 33))]))))))))
 (.seq (.seq (.reg [sq 34 (.mv (.t 0)),
sq 35 (.len (.t 34)),
sq 36 (.mv (.t 1)),
sq 37 (.len (.t 36)),
sq 38 (.bin .lss (.t 35) (.t 37))])
 (.cond (.t 38)
 (.seq (.reg [sq 6 (.mv (kI (-1)))])
 .ret)
 .skip))
 (.seq (.reg [sq 6 (.mv (kI 0))])
 .ret))))⟩
theorem a92_ok:afn Try.prog 92=some a92.er:=by kernel_rfl
theorem F92_ok{rc49:TValue→TValue→Option (Int)}(ih49:∀{x0:TValue} {x1:TValue} {r:Int} (h:rc49 x0 x1=some r),CallD Try.prog 67 [.agg [dI x0.Kind,dI x0.N,dS x0.S,dM (x0.List_.map eTValue),dM (x0.Fields.map eTField)],.agg [dI x1.Kind,dI x1.N,dS x1.S,dM (x1.List_.map eTValue),dM (x1.Fields.map eTField)]] [] (tupV [.c (dI r)]) []){x0:(List TValue)}{x1:(List TValue)}{r:Int}(h:F92 rc49 x0 x1=some r):CallD Try.prog 92 [.c (dM (x0.map eTValue)),.c (dM (x1.map eTValue)),.c (.fn 67 [])] [] (tupV [.c (dI r)]) []:=by
 refine callS a92_ok (by simp[a92]) ?_
 rw[F92]at h
 simp only[a92,VW.down,Nat.reduceEqDiff,reduceCtorEq,Nat.reduceAdd,Nat.reduceLeDiff,Nat.reduceLT,Nat.reduceBEq,Nat.reduceSub,EE.down]
 obtain⟨o1,ho,h⟩:=bi h
 refine cutS (fun s=>∃po1,o1=Sum.inr po1∧s=⟨[(0,.one (.c (dM (x0.map eTValue)))),(1,.one (.c (dM (x1.map eTValue))))],[]⟩) ?_ ?_
 ·have h0o1:=h
  have h:=ho
  clear ho
  obtain⟨_,hk,h⟩:=bi h
  have hk:=ck_some hk
  refine ww ?_
  refine bL (fun j s=>∃(o1_0:Nat),(o1_0≤x0.length∧j=x0.length-o1_0)∧s=⟨[(0,.one (.c (dM (x0.map eTValue)))),(1,.one (.c (dM (x1.map eTValue)))),(2,.one (.c (.fn 67 []))),(11,.one (.c (dM (x0.map eTValue)))),(12,.one (.c (dI ((x0.length:Int))))),(13,.one (.c (dI ((o1_0:Int)))))],[]⟩∧F92_l1 rc49 x1 (x0.drop o1_0) o1_0=some o1) (x0.length-0) [] ⟨0,⟨hk.1,rfl⟩,rfl,h⟩ ?_
  rintro _ _ ⟨o1_0,⟨hi,rfl⟩,rfl,h⟩
  refine ww ?_
  refine condS (fun c2=>?_) (fun c2=>?_)
  ·obtain⟨xo1,hxo1,hd⟩:=countY (show(o1_0:Int)<(x0.length:Int)from c2)
   rw[hd,F92_l1]at h
   refine ww ?_
   refine t_idxF (enc:=eTValue) (xs:=x0) rfl rfl hxo1 (by rw[eTValue_u];rfl) (ww ?_)
   refine condSh h (fun c3 h=>?_) (fun c3 h=>?_)
   ·refine ww ?_
    obtain⟨fh0o1,hfh0o1,rfl⟩:=Option.map_eq_some_iff.1 h
    have h:=hfh0o1.trans h0o1
    cases h
    exact eF []
   refine ww ?_
   obtain⟨y4,hy4,h⟩:=bi h
   refine t_idxF (enc:=eTValue) (xs:=x1) rfl rfl hy4 (by rw[eTValue_u];rfl) (ww ?_)
   obtain⟨t5,ht5,h⟩:=bi h
   refine cN [] (ih49 ht5) trivial (ww ?_)
   refine condSh h (fun c6 h=>?_) (fun c6 h=>?_)
   ·refine ww ?_
    obtain⟨fh0o1,hfh0o1,rfl⟩:=Option.map_eq_some_iff.1 h
    have h:=hfh0o1.trans h0o1
    cases h
    exact eF []
   refine ww ?_
   rw[wrapN (by omega)]
   exact eL' (x0.length-(o1_0+1)) [] ⟨o1_0+1,⟨by omega,rfl⟩,rfl,h⟩ (by omega)
  rw[countN (show¬((o1_0:Int)<(x0.length:Int))from c2),F92_l1]at h
  refine ww ?_
  cases h
  exact eM [] ⟨_,rfl,rfl⟩
 rintro _ ⟨po1,rfl,rfl⟩
 clear ho
 dsimp only at h
 refine ww ?_
 refine condSh h (fun c8 h=>?_) (fun c8 h=>?_)
 ·refine ww ?_
  cases h
  exact eF []
 refine ww ?_
 cases h
 exact eF []
def F37(x0:Meta):Option (Unit):=some (())
def a37:AFn:=⟨10,[(.cell 2 (some 3))],
 (.seq (.reg [sq 1 (.box (.t 0)),
sq 2 (.zbox [dS ⟨#[]⟩,dS ⟨#[]⟩,dS ⟨#[]⟩])])
 (.seq (.reg [sq 3 (.fieldA 0 (.t 1)),
sq 4 (.load none (.t 3)),
sq 5 (.fieldA 1 (.t 1)),
sq 6 (.load none (.t 5)),
sq 7 (.fieldA 2 (.t 1)),
sq 8 (.load none (.t 7)),
sq 9 (.build [dS ⟨#[]⟩,dS ⟨#[]⟩,dS ⟨#[]⟩] [(0,1,(.t 4)),(1,1,(.t 6)),(2,1,(.t 8))]),
su (.store 3 (.t 2) (.t 9))])
 .ret))⟩
theorem a37_ok:afn Try.prog 37=some a37.er:=by kernel_rfl
theorem F37_ok{x0 r}(h:F37 x0=some r):CallD Try.prog 37 [.agg [dS x0.Kind,dS x0.Namespace,dS x0.Name,dI x0.Uid,dI x0.Version,dI x0.Generation,dI x0.Created,dB x0.Deleting,dI x0.DeleteAt,dM (x0.Labels.map eLabel),dM (x0.Owners.map eOwner),dM (x0.Finalizers.map eS),dM (x0.Managers.map eManager)]] [] (tupV [.agg [dS x0.Kind,dS x0.Namespace,dS x0.Name]]) []:=by
 refine callS a37_ok (by simp[a37]) ?_
 rw[F37]at h
 simp only[a37,VW.down,Nat.reduceEqDiff,reduceCtorEq,Nat.reduceAdd,Nat.reduceLeDiff,Nat.reduceLT,Nat.reduceBEq,Nat.reduceSub,EE.down]
 cases h
 exact eF []
def F38_l2(x1:(List Label)):List Label→Nat→Option ((Bool) ⊕ (Unit))
 |[],o2_0=>some (Sum.inr (()))
 |xo2::xs,o2_0=>(rdI x1 ((o2_0:Int))).bind fun y4=>(if¬(xo2.Key=y4.Key∧xo2.Value=y4.Value)then(some false).map Sum.inl else F38_l2 x1 xs (o2_0+1))
def F38(x0:(List Label))(x1:(List Label)):Option (Bool):=(if¬((x0.length:Int)=(x1.length:Int))then some false else(((ck (0≤x0.length∧x0.length≤4294967290)).bind fun u6=>F38_l2 x1 x0 0:Option ((Bool) ⊕ (Unit))).bind fun o2=>match o2 with|Sum.inl f=>some f|Sum.inr po2=>some true))
def a38:AFn:=⟨26,[(.tmp 4)],
 (.seq (.reg [sq 4 (.mv (kB false))])
 (.seq (.seq (.reg [sq 6 (.mv (.t 0)),
sq 7 (.len (.t 6)),
sq 8 (.mv (.t 1)),
sq 9 (.len (.t 8)),
sq 10 (.bin .neq (.t 7) (.t 9))])
 (.cond (.t 10)
 (.seq (.reg [sq 4 (.mv (kB false))])
 .ret)
 .skip))
 (.seq (.seq (.reg [sq 11 (.mv (.t 0)),
sq 12 (.len (.t 11)),
sq 13 (.mv (kI 0))])
 (.sem (.block 0 (.loop (.seq (.reg [sq 14 (.bin .lss (.t 13) (.t 12))])
 (.seq (.cond (.t 14)
 .skip
 (.exit 0))
 (.seq (.block 1 (.seq (.reg [sq 15 (.mv (.t 13)),
sq 5 (.mv (.t 15))])
 (.seq (.regd [sq 16 (.mv (.t 0)),
sq 17 (.mv (.t 5)),
sd 18 (.indexA 2 (.t 16) (.t 17)) [0,1],
sd 19 (.load (some 2) (.t 18)) [0,1,2],
sq 20 (.mv (.t 1)),
sq 21 (.mv (.t 5)),
sd 22 (.indexA 2 (.t 20) (.t 21)) [4,5],
sd 23 (.load (some 2) (.t 22)) [4,5,6],
zl 24 (.eqs true [(0,2),(1,2)] (.t 19) (.t 23)) [0,1,2,3,4,5,6,7] []])
 (.cond (.t 24)
 (.seq (.reg [sq 4 (.mv (kB false))])
 .ret)
 .skip))))
 (.reg [sq 25 (.bin .add (.t 13) (kI 1)),
sq 13 (.mv (.t 25))]))))))))
 (.seq (.reg [sq 4 (.mv (kB true))])
 .ret))))⟩
theorem a38_ok:afn Try.prog 38=some a38.er:=by kernel_rfl
theorem F38_ok{x0 x1 r}(h:F38 x0 x1=some r):CallD Try.prog 38 [.c (dM (x0.map eLabel)),.c (dM (x1.map eLabel))] [] (tupV [.c (dB r)]) []:=by
 refine callS a38_ok (by simp[a38]) ?_
 rw[F38]at h
 simp only[a38,VW.down,Nat.reduceEqDiff,reduceCtorEq,Nat.reduceAdd,Nat.reduceLeDiff,Nat.reduceLT,Nat.reduceBEq,Nat.reduceSub,EE.down]
 refine condSh h (fun c1 h=>?_) (fun c1 h=>?_)
 ·refine ww ?_
  cases h
  exact eF []
 refine ww ?_
 obtain⟨o2,ho,h⟩:=bi h
 refine cutS (fun s=>∃po2,o2=Sum.inr po2∧s=⟨[],[]⟩) ?_ ?_
 ·have h0o2:=h
  have h:=ho
  clear ho
  obtain⟨_,hk,h⟩:=bi h
  have hk:=ck_some hk
  refine ww ?_
  refine bL (fun j s=>∃(o2_0:Nat),(o2_0≤x0.length∧j=x0.length-o2_0)∧s=⟨[(0,.one (.c (dM (x0.map eLabel)))),(1,.one (.c (dM (x1.map eLabel)))),(12,.one (.c (dI ((x0.length:Int))))),(13,.one (.c (dI ((o2_0:Int)))))],[]⟩∧F38_l2 x1 (x0.drop o2_0) o2_0=some o2) (x0.length-0) [] ⟨0,⟨hk.1,rfl⟩,rfl,h⟩ ?_
  rintro _ _ ⟨o2_0,⟨hi,rfl⟩,rfl,h⟩
  refine ww ?_
  refine condS (fun c3=>?_) (fun c3=>?_)
  ·obtain⟨xo2,hxo2,hd⟩:=countY (show(o2_0:Int)<(x0.length:Int)from c3)
   rw[hd,F38_l2]at h
   refine ww ?_
   refine t_idxF (enc:=eLabel) (xs:=x0) rfl rfl hxo2 rfl (ww ?_)
   obtain⟨y4,hy4,h⟩:=bi h
   refine t_idxF (enc:=eLabel) (xs:=x1) rfl rfl hy4 rfl (ww ?_)
   refine condSh h (fun c5 h=>?_) (fun c5 h=>?_)
   ·refine ww ?_
    obtain⟨fh0o2,hfh0o2,rfl⟩:=Option.map_eq_some_iff.1 h
    have h:=hfh0o2.trans h0o2
    cases h
    exact eF []
   refine ww ?_
   rw[wrapN (by omega)]
   exact eL' (x0.length-(o2_0+1)) [] ⟨o2_0+1,⟨by omega,rfl⟩,rfl,h⟩ (by omega)
  rw[countN (show¬((o2_0:Int)<(x0.length:Int))from c3),F38_l2]at h
  refine ww ?_
  cases h
  exact eM [] ⟨_,rfl,rfl⟩
 rintro _ ⟨po2,rfl,rfl⟩
 clear ho
 dsimp only at h
 refine ww ?_
 cases h
 exact eF []
end Go.Proofs.Ytbopaemngpbdgaa
