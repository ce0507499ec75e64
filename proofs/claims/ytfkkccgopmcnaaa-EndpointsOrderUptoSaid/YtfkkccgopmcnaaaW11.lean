/- Each Go function as a function over typed data, and its walk. -/
import Derived.Test.YtfkkccgopmcnaaaW0
import Derived.Test.YtfkkccgopmcnaaaW1
import Derived.Test.YtfkkccgopmcnaaaW2
import Derived.Test.YtfkkccgopmcnaaaW3
import Derived.Test.YtfkkccgopmcnaaaW5
import Derived.Test.YtfkkccgopmcnaaaW7
import Derived.Test.YtfkkccgopmcnaaaW9
import Derived.Test.YtfkkccgopmcnaaaW10
namespace Go.Proofs.Ytfkkccgopmcnaaa
open Go Go.Fw Go.Shelf
set_option maxRecDepth 100000
set_option maxHeartbeats 4000000
set_option linter.unusedSimpArgs false
set_option linter.unusedVariables false
def F44_l1(x1:Int):Nat→(List Endpoint)→Int→Int→Option ((List Endpoint)×Int)
 |0,_,_,_=>none
 |k+1,o1_0,o1_1,o1_2=>(if o1_2≤x1 then(F55 o1_0 o1_1 o1_2).bind fun t3=>F44_l1 x1 k t3 o1_2 ((IntKind.i64.wrap (o1_2+20)))else some ((o1_0,o1_1)))
def F44_l7(o5_1:Int)(x1:Int):Nat→(List Endpoint)→Int→Int→Option ((List Endpoint)×Int)
 |0,_,_,_=>none
 |k+1,o7_0,o7_1,o7_2=>(if o7_2≤x1 then(F56k 1099511627776 o7_0 o7_1 ((IntKind.i64.wrap (o7_1+o5_1))) o7_2).bind fun t9=>F44_l7 o5_1 x1 k t9 o7_2 ((IntKind.i64.wrap (o7_2+((IntKind.i64.wrap (2*o5_1))))))else some ((o7_0,o7_1)))
def F44_l5(x1:Int):Nat→(List Endpoint)→Int→Option ((List Endpoint))
 |0,_,_=>none
 |k+1,o5_0,o5_1=>(if o5_1<x1 then((F44_l7 o5_1 x1 1099511627776 o5_0 0 ((IntKind.i64.wrap (2*o5_1)))).bind fun o7=>(((if(IntKind.i64.wrap (o7.2+o5_1))<x1 then(F56k 1099511627776 o7.1 o7.2 ((IntKind.i64.wrap (o7.2+o5_1))) x1).bind fun t12=>some t12 else some o7.1)).bind fun o10=>F44_l5 x1 k o10 ((IntKind.i64.wrap (o5_1*2)))))else some o5_0)
def F44i(x0:(List Endpoint))(x1:Int):Option ((List Endpoint)):=((F44_l1 x1 1099511627776 x0 0 20).bind fun o1=>(F55 o1.1 o1.2 x1).bind fun t4=>((F44_l5 x1 1099511627776 t4 20).bind fun o5=>some o5))
def F44(x0:(List Endpoint))(x1:Int):Option ((List Endpoint)):=(F44i x0 x1).bind fun r=>if r.length=x0.length then some r else none
theorem F44_len0{x0:(List Endpoint)}{x1:Int}{r:(List Endpoint)}(h:F44 x0 x1=some r):r.length=x0.length:=(guard_some h).2
def a44:AFn:=⟨63,[],
 (.seq (.reg [sq 6 (.mv (kI 20))])
 (.seq (.reg [sq 10 (.mv (.t 6)),
sq 7 (.mv (kI 0)),
sq 8 (.mv (.t 10))])
 (.seq (.sem (.block 0 (.loop (.seq (.seq (.reg [sq 11 (.mv (.t 8)),
sq 12 (.mv (.t 1)),
sq 13 (.bin .leq (.t 11) (.t 12))])
 (.cond (.t 13)
 .skip
 (.exit 0)))
 (.block 1 (.seq (.reg [sq 14 (.mv (.t 0)),
sq 15 (.mv (.t 7)),
sq 16 (.mv (.t 8)),
sq 17 (.mv (.t 2)),
zl 18 (.call 55 [(.t 14),(.t 15),(.t 16),(.t 17)]) [] []])
 (.seq (.reg [sq 19 (.mv (.t 8)),
sq 7 (.mv (.t 19))])
 (.reg [sq 20 (.mv (.t 8)),
sq 21 (.mv (.t 6)),
sq 22 (.bin .add (.t 20) (.t 21)),
sq 8 (.mv (.t 22))]))))))))
 (.seq (.reg [sq 23 (.mv (.t 0)),
sq 24 (.mv (.t 7)),
sq 25 (.mv (.t 1)),
sq 26 (.mv (.t 2)),
zl 27 (.call 55 [(.t 23),(.t 24),(.t 25),(.t 26)]) [] []])
 (.sem (.block 2 (.loop (.seq (.seq (.reg [sq 28 (.mv (.t 6)),
sq 29 (.mv (.t 1)),
sq 30 (.bin .lss (.t 28) (.t 29))])
 (.cond (.t 30)
 .skip
 (.exit 2)))
 (.block 3 (.seq (.reg [sq 31 (.mv (.t 6)),
sq 32 (.bin .mul (kI 2) (.t 31)),
sq 7 (.mv (kI 0)),
sq 8 (.mv (.t 32))])
 (.seq (.sem (.block 4 (.loop (.seq (.seq (.reg [sq 33 (.mv (.t 8)),
sq 34 (.mv (.t 1)),
sq 35 (.bin .leq (.t 33) (.t 34))])
 (.cond (.t 35)
 .skip
 (.exit 4)))
 (.block 5 (.seq (.reg [sq 36 (.mv (.t 0)),
sq 37 (.mv (.t 7)),
sq 38 (.mv (.t 7)),
sq 39 (.mv (.t 6)),
sq 40 (.bin .add (.t 38) (.t 39)),
sq 41 (.mv (.t 8)),
sq 42 (.mv (.t 2)),
zl 43 (.call 56 [(.t 36),(.t 37),(.t 40),(.t 41),(.t 42)]) [] []])
 (.seq (.reg [sq 44 (.mv (.t 8)),
sq 7 (.mv (.t 44))])
 (.reg [sq 45 (.mv (.t 8)),
sq 46 (.mv (.t 6)),
sq 47 (.bin .mul (kI 2) (.t 46)),
sq 48 (.bin .add (.t 45) (.t 47)),
sq 8 (.mv (.t 48))]))))))))
 (.seq (.sem (.seq (.reg [sq 49 (.mv (.t 7)),
sq 50 (.mv (.t 6)),
sq 51 (.bin .add (.t 49) (.t 50)),
sq 9 (.mv (.t 51))])
 (.seq (.reg [sq 52 (.mv (.t 9)),
sq 53 (.mv (.t 1)),
sq 54 (.bin .lss (.t 52) (.t 53))])
 (.cond (.t 54)
 (.reg [sq 55 (.mv (.t 0)),
sq 56 (.mv (.t 7)),
sq 57 (.mv (.t 9)),
sq 58 (.mv (.t 1)),
sq 59 (.mv (.t 2)),
zl 60 (.call 56 [(.t 55),(.t 56),(.t 57),(.t 58),(.t 59)]) [] []])
 .skip))))
 (.reg [sq 61 (.mv (.t 6)),
sq 62 (.bin .mul (.t 61) (kI 2)),
sq 6 (.mv (.t 62))])))))))))))))⟩
theorem F44_ok{x0 x1 r}{e0:Nat}(h:F44 x0 x1=some r):CallD Try.prog 44 [.c (.own 0 e0 0 (x0.length) none),.c (dI x1),.c (.fn 28 [])] [some (.arr e0 5 (x0.map eEndpoint))] (tupV []) [some (.arr e0 5 (r.map eEndpoint))]:=by
 replace h:=(guard_some h).1
 rw[F44i]at h
 refine zc a44 (by kernel_rfl) rfl (ww ?_)
 obtain⟨o1,ho,h⟩:=bi h
 refine cutS (fun s=>s=⟨[(0,.one (.c (.own 0 e0 0 (o1.1.length) none))),(1,.one (.c (dI x1))),(2,.one (.c (.fn 28 []))),(6,.one (.c (dI 20))),(7,.one (.c (dI o1.2)))],[some (.arr e0 5 (o1.1.map eEndpoint))]⟩) ?_ ?_
 ·have h:=ho
  clear ho
  refine ww ?_
  refine bL (fun j s=>∃(o1_0:List Endpoint) (o1_1:Int) (o1_2:Int),s=⟨[(0,.one (.c (.own 0 e0 0 (o1_0.length) none))),(1,.one (.c (dI x1))),(2,.one (.c (.fn 28 []))),(6,.one (.c (dI 20))),(7,.one (.c (dI o1_1))),(8,.one (.c (dI o1_2)))],[some (.arr e0 5 (o1_0.map eEndpoint))]⟩∧F44_l1 x1 j o1_0 o1_1 o1_2=some o1) 1099511627776 [some 0] ⟨x0,0,20,rfl,h⟩ ?_
  rintro j _ ⟨o1_0,o1_1,o1_2,rfl,h⟩
  cases j with
  |zero=>cases(show(none:Option _)=some _ from h)
  |succ j=>
   rw[F44_l1]at h
   refine ww ?_
   refine condSh h (fun c2 h=>?_) (fun c2 h=>?_)
   ·refine ww ?_
    obtain⟨t3,ht3,h⟩:=bi h
    refine cN [0] (F55_ok (e0:=e0) ht3) ⟨⟨rfl,trivial⟩,trivial⟩ ?_
    refine ww ?_
    exact eL' j [some 0] ⟨t3,o1_2,(IntKind.i64.wrap (o1_2+20)),rfl,h⟩ (Nat.lt_succ_self _) (hB:=by simp only[ZZ.down,Nat.reduceEqDiff,reduceCtorEq,Nat.reduceAdd,Nat.reduceLeDiff,Nat.reduceLT,Nat.reduceBNe,EE.down,F55_len0 ht3]) (hs:=by simp only[ZZ.down,Nat.reduceEqDiff,reduceCtorEq,Nat.reduceAdd,Nat.reduceLeDiff,Nat.reduceLT,Nat.reduceBNe,EE.down,F55_len0 ht3])
   ·refine ww ?_
    cases h
    exact eM [some 0] rfl
 rintro _ rfl
 clear ho
 refine ww ?_
 obtain⟨t4,ht4,h⟩:=bi h
 refine cN [0] (F55_ok (e0:=e0) ht4) ⟨⟨rfl,trivial⟩,trivial⟩ ?_
 refine ww ?_
 obtain⟨o5,ho,h⟩:=bi h
 refine cutS (fun s=>s=⟨[],[some (.arr e0 5 (o5.map eEndpoint))]⟩) ?_ ?_
 ·have h:=ho
  clear ho
  refine ww ?_
  refine bL (fun j s=>∃(o5_0:List Endpoint) (o5_1:Int),s=⟨[(0,.one (.c (.own 0 e0 0 (o5_0.length) none))),(1,.one (.c (dI x1))),(2,.one (.c (.fn 28 []))),(6,.one (.c (dI o5_1)))],[some (.arr e0 5 (o5_0.map eEndpoint))]⟩∧F44_l5 x1 j o5_0 o5_1=some o5) 1099511627776 [some 0] ⟨t4,20,rfl,h⟩ ?_ (hB:=by simp only[ZZ.down,Nat.reduceEqDiff,reduceCtorEq,Nat.reduceAdd,Nat.reduceLeDiff,Nat.reduceLT,Nat.reduceBNe,EE.down,F55_len0 ht4]) (hs:=by simp only[ZZ.down,Nat.reduceEqDiff,reduceCtorEq,Nat.reduceAdd,Nat.reduceLeDiff,Nat.reduceLT,Nat.reduceBNe,EE.down,F55_len0 ht4])
  rintro j _ ⟨o5_0,o5_1,rfl,h⟩
  cases j with
  |zero=>cases(show(none:Option _)=some _ from h)
  |succ j=>
   rw[F44_l5]at h
   refine ww ?_
   refine condSh h (fun c6 h=>?_) (fun c6 h=>?_)
   ·refine ww ?_
    obtain⟨o7,ho,h⟩:=bi h
    refine cutS (fun s=>s=⟨[(0,.one (.c (.own 0 e0 0 (o7.1.length) none))),(1,.one (.c (dI x1))),(2,.one (.c (.fn 28 []))),(6,.one (.c (dI o5_1))),(7,.one (.c (dI o7.2)))],[some (.arr e0 5 (o7.1.map eEndpoint))]⟩) ?_ ?_
    ·have h:=ho
     clear ho
     refine ww ?_
     refine bL (fun j s=>∃(o7_0:List Endpoint) (o7_1:Int) (o7_2:Int),s=⟨[(0,.one (.c (.own 0 e0 0 (o7_0.length) none))),(1,.one (.c (dI x1))),(2,.one (.c (.fn 28 []))),(6,.one (.c (dI o5_1))),(7,.one (.c (dI o7_1))),(8,.one (.c (dI o7_2)))],[some (.arr e0 5 (o7_0.map eEndpoint))]⟩∧F44_l7 o5_1 x1 j o7_0 o7_1 o7_2=some o7) 1099511627776 [some 0] ⟨o5_0,0,(IntKind.i64.wrap (2*o5_1)),rfl,h⟩ ?_ (hB:=by simp only[ZZ.down,Nat.reduceEqDiff,reduceCtorEq,Nat.reduceAdd,Nat.reduceLeDiff,Nat.reduceLT,Nat.reduceBNe,EE.down,F55_len0 ht4]) (hs:=by simp only[ZZ.down,Nat.reduceEqDiff,reduceCtorEq,Nat.reduceAdd,Nat.reduceLeDiff,Nat.reduceLT,Nat.reduceBNe,EE.down,F55_len0 ht4])
     rintro j _ ⟨o7_0,o7_1,o7_2,rfl,h⟩
     cases j with
     |zero=>cases(show(none:Option _)=some _ from h)
     |succ j=>
      rw[F44_l7]at h
      refine ww ?_
      refine condSh h (fun c8 h=>?_) (fun c8 h=>?_)
      ·refine ww ?_
       obtain⟨t9,ht9,h⟩:=bi h
       refine callX_n [0] (F56k_ok 1099511627776 (e0:=e0) ht9) ?_ ?_ ?_ ?_ ?_ ?_
       ·first|rfl|simp[nrmA,nrmC,nrm,A1.ren,C.ren,rn,List.length_set,F55_len0 ht4]
       ·simp[liveAll,A1.live,C.live,hp]
       ·rfl
       ·decide
       ·exact⟨⟨rfl,trivial⟩,trivial⟩
       refine ww ?_
       exact eL' j [some 0] ⟨t9,o7_2,(IntKind.i64.wrap (o7_2+((IntKind.i64.wrap (2*o5_1))))),rfl,h⟩ (Nat.lt_succ_self _) (hB:=by simp only[ZZ.down,Nat.reduceEqDiff,reduceCtorEq,Nat.reduceAdd,Nat.reduceLeDiff,Nat.reduceLT,Nat.reduceBNe,EE.down,F55_len0 ht4,F56k_len0 ht9]) (hs:=by simp only[ZZ.down,Nat.reduceEqDiff,reduceCtorEq,Nat.reduceAdd,Nat.reduceLeDiff,Nat.reduceLT,Nat.reduceBNe,EE.down,F55_len0 ht4,F56k_len0 ht9])
      ·refine ww ?_
       cases h
       exact eM [some 0] rfl (hB:=by simp only[ZZ.down,Nat.reduceEqDiff,reduceCtorEq,Nat.reduceAdd,Nat.reduceLeDiff,Nat.reduceLT,Nat.reduceBNe,EE.down,F55_len0 ht4]) (hs:=by simp only[ZZ.down,Nat.reduceEqDiff,reduceCtorEq,Nat.reduceAdd,Nat.reduceLeDiff,Nat.reduceLT,Nat.reduceBNe,EE.down,F55_len0 ht4])
    ·rintro _ rfl
     clear ho
     refine ww ?_
     obtain⟨o10,ho,h⟩:=bi h
     refine cutS (fun s=>s=⟨[(0,.one (.c (.own 0 e0 0 (o10.length) none))),(1,.one (.c (dI x1))),(2,.one (.c (.fn 28 []))),(6,.one (.c (dI o5_1)))],[some (.arr e0 5 (o10.map eEndpoint))]⟩) ?_ ?_
     ·have h:=ho
      clear ho
      refine ww ?_
      refine condSh h (fun c11 h=>?_) (fun c11 h=>?_)
      ·refine ww ?_
       obtain⟨t12,ht12,h⟩:=bi h
       refine callX_n [0] (F56k_ok 1099511627776 (e0:=e0) ht12) ?_ ?_ ?_ ?_ ?_ ?_
       ·first|rfl|simp[nrmA,nrmC,nrm,A1.ren,C.ren,rn,List.length_set,F55_len0 ht4]
       ·simp[liveAll,A1.live,C.live,hp]
       ·rfl
       ·decide
       ·exact⟨⟨rfl,trivial⟩,trivial⟩
       refine ww ?_
       cases h
       exact eM [some 0] rfl (hB:=by simp only[ZZ.down,Nat.reduceEqDiff,reduceCtorEq,Nat.reduceAdd,Nat.reduceLeDiff,Nat.reduceLT,Nat.reduceBNe,EE.down,F55_len0 ht4,F56k_len0 ht12]) (hs:=by simp only[ZZ.down,Nat.reduceEqDiff,reduceCtorEq,Nat.reduceAdd,Nat.reduceLeDiff,Nat.reduceLT,Nat.reduceBNe,EE.down,F55_len0 ht4,F56k_len0 ht12])
      ·refine ww ?_
       cases h
       exact eM [some 0] rfl (hB:=by simp only[ZZ.down,Nat.reduceEqDiff,reduceCtorEq,Nat.reduceAdd,Nat.reduceLeDiff,Nat.reduceLT,Nat.reduceBNe,EE.down,F55_len0 ht4]) (hs:=by simp only[ZZ.down,Nat.reduceEqDiff,reduceCtorEq,Nat.reduceAdd,Nat.reduceLeDiff,Nat.reduceLT,Nat.reduceBNe,EE.down,F55_len0 ht4])
     ·rintro _ rfl
      clear ho
      refine ww ?_
      exact eL' j [some 0] ⟨o10,(IntKind.i64.wrap (o5_1*2)),rfl,h⟩ (Nat.lt_succ_self _) (hB:=by simp only[ZZ.down,Nat.reduceEqDiff,reduceCtorEq,Nat.reduceAdd,Nat.reduceLeDiff,Nat.reduceLT,Nat.reduceBNe,EE.down,F55_len0 ht4]) (hs:=by simp only[ZZ.down,Nat.reduceEqDiff,reduceCtorEq,Nat.reduceAdd,Nat.reduceLeDiff,Nat.reduceLT,Nat.reduceBNe,EE.down,F55_len0 ht4])
   ·refine ww ?_
    cases h
    exact eM [some 0] rfl (hB:=by simp only[ZZ.down,Nat.reduceEqDiff,reduceCtorEq,Nat.reduceAdd,Nat.reduceLeDiff,Nat.reduceLT,Nat.reduceBNe,EE.down,F55_len0 ht4]) (hs:=by simp only[ZZ.down,Nat.reduceEqDiff,reduceCtorEq,Nat.reduceAdd,Nat.reduceLeDiff,Nat.reduceLT,Nat.reduceBNe,EE.down,F55_len0 ht4])
 rintro _ rfl
 clear ho
 refine ww ?_
 cases h
 exact eF [some 0] (hB:=by simp only[ZZ.down,Nat.reduceEqDiff,reduceCtorEq,Nat.reduceAdd,Nat.reduceLeDiff,Nat.reduceLT,Nat.reduceBNe,EE.down,F55_len0 ht4]) (hs:=by simp only[ZZ.down,Nat.reduceEqDiff,reduceCtorEq,Nat.reduceAdd,Nat.reduceLeDiff,Nat.reduceLT,Nat.reduceBNe,EE.down,F55_len0 ht4])
def F27i(x0:(List Endpoint)):Option ((List Endpoint)):=(F44 x0 ((x0.length:Int))).bind fun t1=>some t1
def F27(x0:(List Endpoint)):Option ((List Endpoint)):=(F27i x0).bind fun r=>if r.length=x0.length then some r else none
theorem F27_len0{x0:(List Endpoint)}{r:(List Endpoint)}(h:F27 x0=some r):r.length=x0.length:=(guard_some h).2
def a27:AFn:=⟨9,[],
 (.reg [sq 4 (.mv (.t 0)),
sq 5 (.mv (.t 0)),
sq 6 (.len (.t 5)),
sq 7 (.mv (.t 1)),
zl 8 (.call 44 [(.t 4),(.t 6),(.t 7)]) [] [5]])⟩
theorem F27_ok{x0 r}{e0:Nat}(h:F27 x0=some r):CallD Try.prog 27 [.c (.own 0 e0 0 (x0.length) none),.c (.fn 28 [])] [some (.arr e0 5 (x0.map eEndpoint))] (tupV []) [some (.arr e0 5 (r.map eEndpoint))]:=by
 replace h:=(guard_some h).1
 rw[F27i]at h
 refine zc a27 (by kernel_rfl) rfl (ww ?_)
 obtain⟨t1,ht1,h⟩:=bi h
 refine cN [0] (F44_ok (e0:=e0) ht1) ⟨⟨rfl,trivial⟩,trivial⟩ ?_
 refine ww ?_
 cases h
 exact eF [some 0] (hB:=by simp only[ZZ.down,Nat.reduceEqDiff,reduceCtorEq,Nat.reduceAdd,Nat.reduceLeDiff,Nat.reduceLT,Nat.reduceBNe,EE.down,F44_len0 ht1]) (hs:=by simp only[ZZ.down,Nat.reduceEqDiff,reduceCtorEq,Nat.reduceAdd,Nat.reduceLeDiff,Nat.reduceLT,Nat.reduceBNe,EE.down,F44_len0 ht1])
def F10_l2(x0:Service):List Pod→Nat→(List Endpoint)→Option ((List Endpoint))
 |[],o2_1,o2_0=>some o2_0
 |xo2::xs,o2_1,o2_0=>(((F25 x0 xo2).bind fun t5=>(if t5=true then(F26 xo2.Meta).bind fun t7=>(if xo2.Status.Ready=true then(apI o2_0 ([(⟨t7,xo2.Spec.Node,xo2.Status.Address,nb xo2.Meta.Deleting,xo2.Meta.Deleting⟩:Endpoint)])).bind fun a9=>some a9 else(apI o2_0 ([(⟨t7,xo2.Spec.Node,xo2.Status.Address,false,xo2.Meta.Deleting⟩:Endpoint)])).bind fun a10=>some a10)else some o2_0)).bind fun o4=>F10_l2 x0 xs (o2_1+1) o4)
def F10(x0:Service)(x1:(List Pod)):Option ((List ServicePort)×(List Endpoint)):=(cloneI x0.Ports).bind fun t1=>(((ck (0≤x1.length∧x1.length≤4294967290)).bind fun u11=>F10_l2 x0 x1 0 ([])).bind fun o2=>(F27 o2).bind fun t12=>some ((t1,t12)))
def a10:AFn:=⟨60,[(.cell 4 (some 15))],
 (.seq (.reg [sq 2 (.box (.t 0)),
sq 4 (.zbox [dS ⟨#[]⟩,dS ⟨#[]⟩,dS ⟨#[]⟩,dI 0,dI 0,dI 0,dI 0,dB false,dI 0,dN,dN,dN,dN,dN,dN])])
 (.seq (.regd [sq 8 (.fieldA 0 (.t 2)),
sd 9 (.fieldA 1 (.t 8)) [0],
sd 10 (.load none (.t 9)) [0,1],
sq 11 (.fieldA 0 (.t 2)),
sd 12 (.fieldA 2 (.t 11)) [3],
sd 13 (.load none (.t 12)) [3,4],
sd 14 (.build [dS ⟨#[]⟩,dS ⟨#[]⟩,dS ⟨#[]⟩,dI 0,dI 0,dI 0,dI 0,dB false,dI 0,dN,dN,dN,dN] [(0,1,(kS ⟨#[69,110,100,112,111,105,110,116,83,101,116]⟩)),(1,1,(.t 10)),(2,1,(.t 13))]) [0,1,2,3,4,5],
sq 15 (.fieldA 14 (.t 2)),
sd 16 (.load none (.t 15)) [7],
zn 17 (.call 24 [(.t 16)]) [7,8] [7,8],
sd 18 (.build [dS ⟨#[]⟩,dS ⟨#[]⟩,dS ⟨#[]⟩,dI 0,dI 0,dI 0,dI 0,dB false,dI 0,dN,dN,dN,dN,dN,dN] [(0,13,(.t 14)),(13,1,(.t 17))]) [0,1,2,3,4,5,6,7,8,9],
sq 5 (.zbox [dS ⟨#[]⟩,dS ⟨#[]⟩,dS ⟨#[]⟩,dI 0,dI 0,dI 0,dI 0,dB false,dI 0,dN,dN,dN,dN,dN,dN]),
⟨none,none,.store 15 (.t 5) (.t 18),[0,1,2,3,4,5,6,7,8,9,10,11],(.lone [])⟩])
 (.seq (.seq (.reg [sq 19 (.mv (.t 1)),
sq 20 (.len (.t 19)),
sq 21 (.mv (kI 0))])
 (.sem (.block 0 (.loop (.seq (.reg [sq 22 (.bin .lss (.t 21) (.t 20))])
 (.seq (.cond (.t 22)
 .skip
 (.exit 0))
 (.seq (.sem (.block 1 (.seq (.reg [sq 23 (.indexA 32 (.t 19) (.t 21)),
sq 24 (.load (some 32) (.t 23)),
sq 7 (.zbox [dS ⟨#[]⟩,dS ⟨#[]⟩,dS ⟨#[]⟩,dI 0,dI 0,dI 0,dI 0,dB false,dI 0,dN,dN,dN,dN,dS ⟨#[]⟩,dI 0,dI 0,dI 0,dN,dN,dN,dN,dN,dN,dI 0,dB false,dI 0,dI 0,dI 0,dN,dI 0,dS ⟨#[]⟩,dS ⟨#[]⟩]),
su (.store 32 (.t 7) (.t 24))])
 (.seq (.reg [sq 25 (.load (some 17) (.t 2)),
sq 26 (.load (some 32) (.t 7)),
zl 27 (.call 25 [(.t 25),(.t 26)]) [] [2,7]])
 (.cond (.t 27)
 (.regd [sq 28 (.fieldA 14 (.t 5)),
sd 29 (.load none (.t 28)) [0],
sq 30 (.fieldA 0 (.t 7)),
sd 31 (.load (some 13) (.t 30)) [2],
zn 32 (.call 26 [(.t 31)]) [2,3] [2,3],
sq 33 (.fieldA 13 (.t 7)),
sd 34 (.fieldA 0 (.t 33)) [5],
sd 35 (.load none (.t 34)) [5,6],
sq 36 (.fieldA 23 (.t 7)),
sd 37 (.fieldA 6 (.t 36)) [8],
sd 38 (.load none (.t 37)) [8,9],
sq 39 (.fieldA 23 (.t 7)),
sd 40 (.fieldA 1 (.t 39)) [11],
sd 41 (.load none (.t 40)) [11,12],
sd 42 (.mv (.t 41)) [2,3,4,11,12,13],
⟨(some 43),(some (42,true)),.fieldA 0 (.t 7),[2,3,4,11,12,13,14],(.new [])⟩,
⟨(some 44),(some (42,true)),.fieldA 7 (.t 43),[2,3,4,11,12,13,14,15],(.new [])⟩,
⟨(some 45),(some (42,true)),.load none (.t 44),[2,3,4,11,12,13,14,15,16],(.new [])⟩,
⟨(some 46),(some (42,true)),.not (.t 45),[2,3,4,11,12,13,14,15,16,17],(.new [])⟩,
sd 47 (.pick (.t 42) (.t 46) (kB false)) [2,3,4,11,12,13,14,15,16,17,18],
sq 48 (.fieldA 0 (.t 7)),
sd 49 (.fieldA 7 (.t 48)) [20],
sd 50 (.load none (.t 49)) [20,21],
zl 51 (.build [dS ⟨#[]⟩,dS ⟨#[]⟩,dI 0,dB false,dB false] [(0,1,(.t 32)),(1,1,(.t 35)),(2,1,(.t 38)),(3,1,(.t 47)),(4,1,(.t 50))]) [2,3,4,5,6,7,8,9,10,11,12,13,14,15,16,17,18,19,20,21,22] [5,28],
zl 52 (.bslice 5 [(.t 51)]) [2,3,4,5,6,7,8,9,10,11,12,13,14,15,16,17,18,19,20,21,22,23] [5,28],
zl 53 (.app 5 48 (.t 29) (.t 52)) [0,1,2,3,4,5,6,7,8,9,10,11,12,13,14,15,16,17,18,19,20,21,22,23,24] [],
sd 54 (.fieldA 14 (.t 5)) [0,1,2,3,4,5,6,7,8,9,10,11,12,13,14,15,16,17,18,19,20,21,22,23,24,25],
⟨none,none,.store 1 (.t 54) (.t 53),[0,1,2,3,4,5,6,7,8,9,10,11,12,13,14,15,16,17,18,19,20,21,22,23,24,25,26],(.lone [])⟩])
 .skip)))))
 (.reg [sq 55 (.bin .add (.t 21) (kI 1)),
sq 21 (.mv (.t 55))]))))))))
 (.seq (.reg [sq 56 (.fieldA 14 (.t 5)),
sq 57 (.load none (.t 56)),
zl 58 (.call 27 [(.t 57),(.f 28)]) [] [5,56]])
 (.seq (.reg [sq 59 (.load (some 15) (.t 5)),
⟨none,none,.store 15 (.t 4) (.t 59),[],(.lone [5])⟩])
 .ret)))))⟩
theorem F10_ok{x0 x1 r}(h:F10 x0 x1=some r):CallD Try.prog 10 [.agg [dS x0.Meta.Kind,dS x0.Meta.Namespace,dS x0.Meta.Name,dI x0.Meta.Uid,dI x0.Meta.Version,dI x0.Meta.Generation,dI x0.Meta.Created,dB x0.Meta.Deleting,dI x0.Meta.DeleteAt,dM (x0.Meta.Labels.map eLabel),dM (x0.Meta.Owners.map eOwner),dM (x0.Meta.Finalizers.map eS),dM (x0.Meta.Managers.map eManager),dM (x0.Selector.map eRequirement),dM (x0.Ports.map eServicePort),dB x0.Sticky,dI x0.Address],.c (dM (x1.map ePod))] [] (tupV [.agg [dS ((⟨#[69,110,100,112,111,105,110,116,83,101,116]⟩:ByteArray)),dS x0.Meta.Namespace,dS x0.Meta.Name,dI 0,dI 0,dI 0,dI 0,dB false,dI 0,dM (([]:List Label).map eLabel),dM (([]:List Owner).map eOwner),dM (([]:List ByteArray).map eS),dM (([]:List Manager).map eManager),.own 0 0 0 (r.1.length) none,.own 1 0 0 (r.2.length) none]]) [some (.arr 0 3 (r.1.map eServicePort)),some (.arr 0 5 (r.2.map eEndpoint))]:=by
 rw[F10]at h
 refine zc a10 (by kernel_rfl) rfl (ww ?_)
 obtain⟨t1,ht1,h⟩:=bi h
 refine cN [] (F24_ok ht1) trivial (ww ?_)
 refine kD_new (by simp[wrs,allW,hset]) (ww ?_)
 refine kD_new (by simp[wrs,allW,hset]) (ww ?_)
 obtain⟨o2,ho,h⟩:=bi h
 refine cutS (fun s=>s=⟨[(4,.one (.c (.pt 0 0))),(5,.one (.c (.pt 1 0)))],[some (.box [dS ((⟨#[]⟩:ByteArray)),dS ((⟨#[]⟩:ByteArray)),dS ((⟨#[]⟩:ByteArray)),dI 0,dI 0,dI 0,dI 0,dB false,dI 0,dN,dN,dN,dN,dN,dN]),some (.box [dS ((⟨#[69,110,100,112,111,105,110,116,83,101,116]⟩:ByteArray)),dS x0.Meta.Namespace,dS x0.Meta.Name,dI 0,dI 0,dI 0,dI 0,dB false,dI 0,dN,dN,dN,dN,.own 2 0 0 (t1.length) none,.own 3 0 0 (o2.length) none]),some (.arr 0 3 (t1.map eServicePort)),some (.arr 0 5 (o2.map eEndpoint))]⟩) ?_ ?_
 ·have h:=ho
  clear ho
  obtain⟨_,hk,h⟩:=bi h
  have hk:=ck_some hk
  refine ww ?_
  refine bL (fun j s=>∃(o2_1:Nat) (o2_0:List Endpoint),(o2_1≤x1.length∧j=x1.length-o2_1)∧s=⟨[(2,.one (.c (.pt 0 0))),(4,.one (.c (.pt 1 0))),(5,.one (.c (.pt 2 0))),(19,.one (.c (dM (x1.map ePod)))),(20,.one (.c (dI ((x1.length:Int))))),(21,.one (.c (dI ((o2_1:Int)))))],[some (.box [dS x0.Meta.Kind,dS x0.Meta.Namespace,dS x0.Meta.Name,dI x0.Meta.Uid,dI x0.Meta.Version,dI x0.Meta.Generation,dI x0.Meta.Created,dB x0.Meta.Deleting,dI x0.Meta.DeleteAt,dM (x0.Meta.Labels.map eLabel),dM (x0.Meta.Owners.map eOwner),dM (x0.Meta.Finalizers.map eS),dM (x0.Meta.Managers.map eManager),dM (x0.Selector.map eRequirement),dM (x0.Ports.map eServicePort),dB x0.Sticky,dI x0.Address]),some (.box [dS ((⟨#[]⟩:ByteArray)),dS ((⟨#[]⟩:ByteArray)),dS ((⟨#[]⟩:ByteArray)),dI 0,dI 0,dI 0,dI 0,dB false,dI 0,dN,dN,dN,dN,dN,dN]),some (.box [dS ((⟨#[69,110,100,112,111,105,110,116,83,101,116]⟩:ByteArray)),dS x0.Meta.Namespace,dS x0.Meta.Name,dI 0,dI 0,dI 0,dI 0,dB false,dI 0,dN,dN,dN,dN,.own 3 0 0 (t1.length) none,.own 4 0 0 (o2_0.length) none]),some (.arr 0 3 (t1.map eServicePort)),some (.arr 0 5 (o2_0.map eEndpoint))]⟩∧F10_l2 x0 (x1.drop o2_1) o2_1 o2_0=some o2) (x1.length-0) [some 0,some 1,some 3,some 2,none] ⟨0,[],⟨hk.1,rfl⟩,rfl,h⟩ ?_
  rintro _ _ ⟨o2_1,o2_0,⟨hi,rfl⟩,rfl,h⟩
  refine ww ?_
  refine condS (fun c3=>?_) (fun c3=>?_)
  ·obtain⟨xo2,hxo2,hd⟩:=countY (show(o2_1:Int)<(x1.length:Int)from c3)
   rw[hd,F10_l2]at h
   refine ww ?_
   obtain⟨o4,ho,h⟩:=bi h
   refine cutS (fun s=>s=⟨[(2,.one (.c (.pt 0 0))),(4,.one (.c (.pt 1 0))),(5,.one (.c (.pt 2 0))),(19,.one (.c (dM (x1.map ePod)))),(20,.one (.c (dI ((x1.length:Int))))),(21,.one (.c (dI ((o2_1:Int)))))],[some (.box [dS x0.Meta.Kind,dS x0.Meta.Namespace,dS x0.Meta.Name,dI x0.Meta.Uid,dI x0.Meta.Version,dI x0.Meta.Generation,dI x0.Meta.Created,dB x0.Meta.Deleting,dI x0.Meta.DeleteAt,dM (x0.Meta.Labels.map eLabel),dM (x0.Meta.Owners.map eOwner),dM (x0.Meta.Finalizers.map eS),dM (x0.Meta.Managers.map eManager),dM (x0.Selector.map eRequirement),dM (x0.Ports.map eServicePort),dB x0.Sticky,dI x0.Address]),some (.box [dS ((⟨#[]⟩:ByteArray)),dS ((⟨#[]⟩:ByteArray)),dS ((⟨#[]⟩:ByteArray)),dI 0,dI 0,dI 0,dI 0,dB false,dI 0,dN,dN,dN,dN,dN,dN]),some (.box [dS ((⟨#[69,110,100,112,111,105,110,116,83,101,116]⟩:ByteArray)),dS x0.Meta.Namespace,dS x0.Meta.Name,dI 0,dI 0,dI 0,dI 0,dB false,dI 0,dN,dN,dN,dN,.own 3 0 0 (t1.length) none,.own 4 0 0 (o4.length) none]),some (.arr 0 3 (t1.map eServicePort)),some (.arr 0 5 (o4.map eEndpoint))]⟩) ?_ ?_
   ·have h:=ho
    clear ho
    refine ww ?_
    refine t_idxF (enc:=ePod) (xs:=x1) rfl rfl hxo2 rfl (ww ?_)
    obtain⟨t5,ht5,h⟩:=bi h
    refine cN [] (F25_ok ht5) trivial (ww ?_)
    refine condBh h (fun c6 h=>?_) (fun c6 h=>?_)
    ·refine ww ?_
     obtain⟨t7,ht7,h⟩:=bi h
     refine cN [] (F26_ok ht7) trivial (ww ?_)
     refine guardDBh h (fun g8 h=>?_) (fun g8 h=>?_)
     ·refine ww ?_
      refine t_bslice (enc:=eEndpoint) (ys:=[(⟨t7,xo2.Spec.Node,xo2.Status.Address,nb xo2.Meta.Deleting,xo2.Meta.Deleting⟩:Endpoint)]) rfl rfl (by simp[A1.cells]) (by first|rfl|(simp only[List.drop_zero,take_mapL];rfl)|(simp only[lit,List.map_cons,List.map_nil,List.drop_zero,take_mapL,EE.down];done)|(simp only[lit,List.map_cons,List.map_nil,List.drop_zero,take_mapL,EE.down];rfl)) (ww ?_)
      obtain⟨a9,ha9,h⟩:=bi h
      refine t_app (enc:=eEndpoint) (xs:=o2_0) rfl rfl (by first|rfl|simp only[List.length_set]|exact(clrL_len (slI_len (by assumption))).symm) rfl (rows_full (enc:=eEndpoint) (by first|rfl|simp only[List.length_set]|exact(clrL_len (slI_len (by assumption))).symm) rfl) ha9 (ww ?_)
      cases h
      exact eM [some 0,some 1,some 2,some 3,some 4] rfl
     refine ww ?_
     refine t_bslice (enc:=eEndpoint) (ys:=[(⟨t7,xo2.Spec.Node,xo2.Status.Address,false,xo2.Meta.Deleting⟩:Endpoint)]) rfl rfl (by simp[A1.cells]) (by first|rfl|(simp only[List.drop_zero,take_mapL];rfl)|(simp only[lit,List.map_cons,List.map_nil,List.drop_zero,take_mapL,EE.down];done)|(simp only[lit,List.map_cons,List.map_nil,List.drop_zero,take_mapL,EE.down];rfl)) (ww ?_)
     obtain⟨a10,ha10,h⟩:=bi h
     refine t_app (enc:=eEndpoint) (xs:=o2_0) rfl rfl (by first|rfl|simp only[List.length_set]|exact(clrL_len (slI_len (by assumption))).symm) rfl (rows_full (enc:=eEndpoint) (by first|rfl|simp only[List.length_set]|exact(clrL_len (slI_len (by assumption))).symm) rfl) ha10 (ww ?_)
     cases h
     exact eM [some 0,some 1,some 2,some 3,some 4] rfl
    refine ww ?_
    cases h
    exact eM [some 0,some 1,some 2,some 3,some 4] rfl
   rintro _ rfl
   clear ho
   refine ww ?_
   rw[wrapN (by omega)]
   exact eL' (x1.length-(o2_1+1)) [some 0,some 1,some 2,some 3,some 4] ⟨o2_1+1,o4,⟨by omega,rfl⟩,rfl,h⟩ (by omega)
  rw[countN (show¬((o2_1:Int)<(x1.length:Int))from c3),F10_l2]at h
  refine ww ?_
  cases h
  exact eM [some 1,some 2,some 3,some 4] rfl
 rintro _ rfl
 clear ho
 refine ww ?_
 obtain⟨t12,ht12,h⟩:=bi h
 refine cN [3] (F27_ok (e0:=0) ht12) ⟨⟨rfl,trivial⟩,trivial⟩ ?_
 refine ww ?_
 cases h
 exact eF [some 2,some 3] (hB:=by simp only[ZZ.down,Nat.reduceEqDiff,reduceCtorEq,Nat.reduceAdd,Nat.reduceLeDiff,Nat.reduceLT,Nat.reduceBNe,EE.down,F27_len0 ht12]) (hs:=by simp only[ZZ.down,Nat.reduceEqDiff,reduceCtorEq,Nat.reduceAdd,Nat.reduceLeDiff,Nat.reduceLT,Nat.reduceBNe,EE.down,F27_len0 ht12])
def F9:Option (Bool):=(F23 ((⟨#[98]⟩:ByteArray)) ((⟨#[119,101,98]⟩:ByteArray)) 12).bind fun t1=>((some (())).bind fun o2=>(F23 ((⟨#[99]⟩:ByteArray)) ((⟨#[100,98]⟩:ByteArray)) 13).bind fun t3=>(F23 ((⟨#[97]⟩:ByteArray)) ((⟨#[119,101,98]⟩:ByteArray)) 11).bind fun t4=>(F23 ((⟨#[100]⟩:ByteArray)) ((⟨#[119,101,98]⟩:ByteArray)) 0).bind fun t5=>(F10 ((⟨(⟨(⟨#[]⟩:ByteArray),(⟨#[110]⟩:ByteArray),(⟨#[115]⟩:ByteArray),0,0,0,0,false,0,[],[],[],[]⟩:Meta),[(⟨(⟨#[97,112,112]⟩:ByteArray),1,[(⟨#[119,101,98]⟩:ByteArray)]⟩:Requirement)],[],false,0⟩:Service)) ((lit [(⟨(⟨(⟨#[80,111,100]⟩:ByteArray),(⟨#[110]⟩:ByteArray),((⟨#[98]⟩:ByteArray)),0,0,0,0,true,0,[(⟨(⟨#[97,112,112]⟩:ByteArray),((⟨#[119,101,98]⟩:ByteArray))⟩:Label)],[],[],[]⟩:Meta),(⟨(⟨#[]⟩:ByteArray),0,0,0,[],[],[],[],[],[]⟩:PodSpec),(⟨1,true,0,0,0,[],(12:Int),(⟨#[]⟩:ByteArray),(⟨#[]⟩:ByteArray)⟩:PodStatus)⟩:Pod),(⟨(⟨(⟨#[80,111,100]⟩:ByteArray),(⟨#[110]⟩:ByteArray),((⟨#[99]⟩:ByteArray)),0,0,0,0,false,0,[(⟨(⟨#[97,112,112]⟩:ByteArray),((⟨#[100,98]⟩:ByteArray))⟩:Label)],[],[],[]⟩:Meta),(⟨(⟨#[]⟩:ByteArray),0,0,0,[],[],[],[],[],[]⟩:PodSpec),(⟨1,true,0,0,0,[],(13:Int),(⟨#[]⟩:ByteArray),(⟨#[]⟩:ByteArray)⟩:PodStatus)⟩:Pod),(⟨(⟨(⟨#[80,111,100]⟩:ByteArray),(⟨#[110]⟩:ByteArray),((⟨#[97]⟩:ByteArray)),0,0,0,0,false,0,[(⟨(⟨#[97,112,112]⟩:ByteArray),((⟨#[119,101,98]⟩:ByteArray))⟩:Label)],[],[],[]⟩:Meta),(⟨(⟨#[]⟩:ByteArray),0,0,0,[],[],[],[],[],[]⟩:PodSpec),(⟨1,true,0,0,0,[],(11:Int),(⟨#[]⟩:ByteArray),(⟨#[]⟩:ByteArray)⟩:PodStatus)⟩:Pod),(⟨(⟨(⟨#[80,111,100]⟩:ByteArray),(⟨#[110]⟩:ByteArray),((⟨#[100]⟩:ByteArray)),0,0,0,0,false,0,[(⟨(⟨#[97,112,112]⟩:ByteArray),((⟨#[119,101,98]⟩:ByteArray))⟩:Label)],[],[],[]⟩:Meta),(⟨(⟨#[]⟩:ByteArray),0,0,0,[],[],[],[],[],[]⟩:PodSpec),(⟨1,true,0,0,0,[],(0:Int),(⟨#[]⟩:ByteArray),(⟨#[]⟩:ByteArray)⟩:PodStatus)⟩:Pod)]))).bind fun t6=>(F14 ((⟨(⟨(⟨#[]⟩:ByteArray),(⟨#[]⟩:ByteArray),(⟨#[]⟩:ByteArray),0,0,0,0,false,0,[],[],[],[]⟩:Meta),[],[(⟨(⟨#[97]⟩:ByteArray),(⟨#[]⟩:ByteArray),0,false,false⟩:Endpoint),(⟨(⟨#[98]⟩:ByteArray),(⟨#[]⟩:ByteArray),0,false,false⟩:Endpoint)]⟩:EndpointSet)) ((⟨(⟨(⟨#[]⟩:ByteArray),(⟨#[]⟩:ByteArray),(⟨#[]⟩:ByteArray),0,0,0,0,false,0,[],[],[],[]⟩:Meta),[],[(⟨(⟨#[98]⟩:ByteArray),(⟨#[]⟩:ByteArray),0,true,false⟩:Endpoint),(⟨(⟨#[99]⟩:ByteArray),(⟨#[]⟩:ByteArray),0,false,false⟩:Endpoint)]⟩:EndpointSet))).bind fun t7=>(((if True then(F13 t6.2 ([(⟨(⟨#[80,111,100,47,110,47,97]⟩:ByteArray),(⟨#[]⟩:ByteArray),11,true,false⟩:Endpoint),(⟨(⟨#[80,111,100,47,110,47,98]⟩:ByteArray),(⟨#[]⟩:ByteArray),12,false,true⟩:Endpoint)])).bind fun t10=>(if t10=true then(F16 t7.1 ([(⟨#[99]⟩:ByteArray)])).bind fun t12=>(if t12=true then(F16 t7.2.1 ([(⟨#[97]⟩:ByteArray)])).bind fun t14=>(if t14=true then(F16 t7.2.2 ([(⟨#[98]⟩:ByteArray)])).bind fun t16=>some t16 else some false)else some false)else some false)else some false)).bind fun o8=>some o8))
def a9:AFn:=⟨62,[(.tmp 0)],
 (.seq (.reg [sq 0 (.mv (kB false))])
 (.seq (.reg [sq 7 (.build [dS ⟨#[]⟩,dS ⟨#[]⟩,dS ⟨#[]⟩,dI 0,dI 0,dI 0,dI 0,dB false,dI 0,dN,dN,dN,dN] [(1,1,(kS ⟨#[110]⟩)),(2,1,(kS ⟨#[115]⟩))]),
sq 8 (.bslice 1 [(kS ⟨#[119,101,98]⟩)]),
sq 9 (.build [dS ⟨#[]⟩,dI 0,dN] [(0,1,(kS ⟨#[97,112,112]⟩)),(1,1,(kI 1)),(2,1,(.t 8))]),
sq 10 (.bslice 3 [(.t 9)]),
sq 11 (.build [dS ⟨#[]⟩,dS ⟨#[]⟩,dS ⟨#[]⟩,dI 0,dI 0,dI 0,dI 0,dB false,dI 0,dN,dN,dN,dN,dN,dN,dB false,dI 0] [(0,13,(.t 7)),(13,1,(.t 10))]),
sq 1 (.zbox [dS ⟨#[]⟩,dS ⟨#[]⟩,dS ⟨#[]⟩,dI 0,dI 0,dI 0,dI 0,dB false,dI 0,dN,dN,dN,dN,dN,dN,dB false,dI 0]),
su (.store 17 (.t 1) (.t 11))])
 (.seq (.reg [sq 12 (.call 23 [(kS ⟨#[98]⟩),(kS ⟨#[119,101,98]⟩),(kI 12)]),
sq 2 (.zbox [dS ⟨#[]⟩,dS ⟨#[]⟩,dS ⟨#[]⟩,dI 0,dI 0,dI 0,dI 0,dB false,dI 0,dN,dN,dN,dN,dS ⟨#[]⟩,dI 0,dI 0,dI 0,dN,dN,dN,dN,dN,dN,dI 0,dB false,dI 0,dI 0,dI 0,dN,dI 0,dS ⟨#[]⟩,dS ⟨#[]⟩]),
su (.store 32 (.t 2) (.t 12))])
 (.seq (.sem (.reg [sq 13 (.fieldA 0 (.t 2)),
sq 14 (.fieldA 7 (.t 13)),
⟨none,none,.store 1 (.t 14) (kB true),[],(.lone [2,13])⟩]))
 (.seq (.regd [sq 15 (.load (some 17) (.t 1)),
sq 16 (.load (some 32) (.t 2)),
sq 17 (.call 23 [(kS ⟨#[99]⟩),(kS ⟨#[100,98]⟩),(kI 13)]),
zn 18 (.call 23 [(kS ⟨#[97]⟩),(kS ⟨#[119,101,98]⟩),(kI 11)]) [2] [2],
zn 19 (.call 23 [(kS ⟨#[100]⟩),(kS ⟨#[119,101,98]⟩),(kI 0)]) [2,3] [2,3],
zn 20 (.bslice 32 [(.t 16),(.t 17),(.t 18),(.t 19)]) [1,2,3,4] [1,2,3,4],
zn 21 (.call 10 [(.t 15),(.t 20)]) [0,1,2,3,4,5] [0,1,2,3,4,5],
sq 3 (.zbox [dS ⟨#[]⟩,dS ⟨#[]⟩,dS ⟨#[]⟩,dI 0,dI 0,dI 0,dI 0,dB false,dI 0,dN,dN,dN,dN,dN,dN]),
⟨none,none,.store 15 (.t 3) (.t 21),[0,1,2,3,4,5,6,7],(.lone [])⟩])
 (.seq (.reg [sq 23 (.build [dS ⟨#[]⟩,dS ⟨#[]⟩,dI 0,dB false,dB false] [(0,1,(kS ⟨#[97]⟩))]),
sq 24 (.build [dS ⟨#[]⟩,dS ⟨#[]⟩,dI 0,dB false,dB false] [(0,1,(kS ⟨#[98]⟩))]),
sq 25 (.bslice 5 [(.t 23),(.t 24)]),
sq 26 (.build [dS ⟨#[]⟩,dS ⟨#[]⟩,dS ⟨#[]⟩,dI 0,dI 0,dI 0,dI 0,dB false,dI 0,dN,dN,dN,dN,dN,dN] [(14,1,(.t 25))]),
sq 27 (.build [dS ⟨#[]⟩,dS ⟨#[]⟩,dI 0,dB false,dB false] [(0,1,(kS ⟨#[98]⟩)),(3,1,(kB true))]),
sq 28 (.build [dS ⟨#[]⟩,dS ⟨#[]⟩,dI 0,dB false,dB false] [(0,1,(kS ⟨#[99]⟩))]),
sq 29 (.bslice 5 [(.t 27),(.t 28)]),
sq 30 (.build [dS ⟨#[]⟩,dS ⟨#[]⟩,dS ⟨#[]⟩,dI 0,dI 0,dI 0,dI 0,dB false,dI 0,dN,dN,dN,dN,dN,dN] [(14,1,(.t 29))]),
sq 31 (.call 14 [(.t 26),(.t 30)]),
sq 22 (.mv (.t 31)),
sq 32 (.ext (.t 22) 0),
sq 33 (.ext (.t 22) 1),
sq 34 (.ext (.t 22) 2),
sq 4 (.mv (.t 32)),
sq 5 (.mv (.t 33)),
sq 6 (.mv (.t 34))])
 (.seq (.sem (.reg [sq 35 (.fieldA 0 (.t 3)),
sq 36 (.fieldA 0 (.t 35)),
sq 37 (.load none (.t 36)),
sq 38 (.bin .eql (.t 37) (kS ⟨#[69,110,100,112,111,105,110,116,83,101,116]⟩)),
sq 39 (.mv (.t 38)),
zg 40 39 true (.fieldA 14 (.t 3)),
zg 41 39 true (.load none (.t 40)),
zg 42 39 true (.build [dS ⟨#[]⟩,dS ⟨#[]⟩,dI 0,dB false,dB false] [(0,1,(kS ⟨#[80,111,100,47,110,47,97]⟩)),(2,1,(kI 11)),(3,1,(kB true))]),
zg 43 39 true (.build [dS ⟨#[]⟩,dS ⟨#[]⟩,dI 0,dB false,dB false] [(0,1,(kS ⟨#[80,111,100,47,110,47,98]⟩)),(2,1,(kI 12)),(4,1,(kB true))]),
zg 44 39 true (.bslice 5 [(.t 42),(.t 43)]),
zg 45 39 true (.call 13 [(.t 41),(.t 44)]),
sq 46 (.pick (.t 39) (.t 45) (kB false)),
sq 47 (.mv (.t 46)),
zg 48 47 true (.mv (.t 4)),
zg 49 47 true (.bslice 1 [(kS ⟨#[99]⟩)]),
zg 50 47 true (.call 16 [(.t 48),(.t 49)]),
sq 51 (.pick (.t 47) (.t 50) (kB false)),
sq 52 (.mv (.t 51)),
zg 53 52 true (.mv (.t 5)),
zg 54 52 true (.bslice 1 [(kS ⟨#[97]⟩)]),
zg 55 52 true (.call 16 [(.t 53),(.t 54)]),
sq 56 (.pick (.t 52) (.t 55) (kB false)),
sq 57 (.mv (.t 56)),
zg 58 57 true (.mv (.t 6)),
zg 59 57 true (.bslice 1 [(kS ⟨#[98]⟩)]),
zg 60 57 true (.call 16 [(.t 58),(.t 59)]),
sq 61 (.pick (.t 57) (.t 60) (kB false)),
sq 0 (.mv (.t 61))]))
 .ret)))))))⟩
theorem F9_ok{r}(h:F9=some r):CallD Try.prog 9 [] [] (tupV [.c (dB r)]) []:=by
 rw[F9]at h
 refine zc a9 (by kernel_rfl) rfl (ww ?_)
 refine t_bslice (enc:=eS) (ys:=[(⟨#[119,101,98]⟩:ByteArray)]) rfl rfl (by simp[A1.cells]) (by first|rfl|(simp only[List.drop_zero,take_mapL];rfl)|(simp only[lit,List.map_cons,List.map_nil,List.drop_zero,take_mapL,EE.down];done)|(simp only[lit,List.map_cons,List.map_nil,List.drop_zero,take_mapL,EE.down];rfl)) (ww ?_)
 refine t_bslice (enc:=eRequirement) (ys:=[(⟨(⟨#[97,112,112]⟩:ByteArray),1,[(⟨#[119,101,98]⟩:ByteArray)]⟩:Requirement)]) rfl rfl (by simp[A1.cells]) (by first|rfl|(simp only[List.drop_zero,take_mapL];rfl)|(simp only[lit,List.map_cons,List.map_nil,List.drop_zero,take_mapL,EE.down];done)|(simp only[lit,List.map_cons,List.map_nil,List.drop_zero,take_mapL,EE.down];rfl)) (ww ?_)
 obtain⟨t1,ht1,h⟩:=bi h
 refine cN [] (F23_ok ht1) trivial (ww ?_)
 obtain⟨o2,ho,h⟩:=bi h
 refine cutS (fun s=>s=⟨[(1,.one (.c (.pt 0 0))),(2,.one (.c (.pt 1 0)))],[some (.box [dS ((⟨#[]⟩:ByteArray)),dS ((⟨#[110]⟩:ByteArray)),dS ((⟨#[115]⟩:ByteArray)),dI 0,dI 0,dI 0,dI 0,dB false,dI 0,dN,dN,dN,dN,dM (([(⟨(⟨#[97,112,112]⟩:ByteArray),1,[(⟨#[119,101,98]⟩:ByteArray)]⟩:Requirement)]).map eRequirement),dN,dB false,dI 0]),some (.box [dS ((⟨#[80,111,100]⟩:ByteArray)),dS ((⟨#[110]⟩:ByteArray)),dS (((⟨#[98]⟩:ByteArray))),dI 0,dI 0,dI 0,dI 0,dB true,dI 0,dM (([(⟨(⟨#[97,112,112]⟩:ByteArray),((⟨#[119,101,98]⟩:ByteArray))⟩:Label)]).map eLabel),dM (([]:List Owner).map eOwner),dM (([]:List ByteArray).map eS),dM (([]:List Manager).map eManager),dS ((⟨#[]⟩:ByteArray)),dI 0,dI 0,dI 0,dM (([]:List Container).map eContainer),dM (([]:List Requirement).map eRequirement),dM (([]:List NodeTerm).map eNodeTerm),dM (([]:List PodTerm).map ePodTerm),dM (([]:List SpreadRule).map eSpreadRule),dM (([]:List Toleration).map eToleration),dI 1,dB true,dI 0,dI 0,dI 0,dM (([]:List ContainerStatus).map eContainerStatus),dI ((12:Int)),dS ((⟨#[]⟩:ByteArray)),dS ((⟨#[]⟩:ByteArray))])]⟩) ?_ ?_
 ·have h:=ho
  clear ho
  refine ww ?_
  cases h
  exact eM [some 2,some 4] rfl
 rintro _ rfl
 clear ho
 refine ww ?_
 obtain⟨t3,ht3,h⟩:=bi h
 refine cN [] (F23_ok ht3) trivial (ww ?_)
 refine kD_new (by simp[wrs,allW,hset]) (ww ?_)
 obtain⟨t4,ht4,h⟩:=bi h
 refine cN [] (F23_ok ht4) trivial (ww ?_)
 refine kD_new (by simp[wrs,allW,hset]) (ww ?_)
 obtain⟨t5,ht5,h⟩:=bi h
 refine cN [] (F23_ok ht5) trivial (ww ?_)
 refine kD_new (by simp[wrs,allW,hset]) (ww ?_)
 refine t_bslice (enc:=ePod) (ys:=(lit [(⟨(⟨(⟨#[80,111,100]⟩:ByteArray),(⟨#[110]⟩:ByteArray),((⟨#[98]⟩:ByteArray)),0,0,0,0,true,0,[(⟨(⟨#[97,112,112]⟩:ByteArray),((⟨#[119,101,98]⟩:ByteArray))⟩:Label)],[],[],[]⟩:Meta),(⟨(⟨#[]⟩:ByteArray),0,0,0,[],[],[],[],[],[]⟩:PodSpec),(⟨1,true,0,0,0,[],(12:Int),(⟨#[]⟩:ByteArray),(⟨#[]⟩:ByteArray)⟩:PodStatus)⟩:Pod),(⟨(⟨(⟨#[80,111,100]⟩:ByteArray),(⟨#[110]⟩:ByteArray),((⟨#[99]⟩:ByteArray)),0,0,0,0,false,0,[(⟨(⟨#[97,112,112]⟩:ByteArray),((⟨#[100,98]⟩:ByteArray))⟩:Label)],[],[],[]⟩:Meta),(⟨(⟨#[]⟩:ByteArray),0,0,0,[],[],[],[],[],[]⟩:PodSpec),(⟨1,true,0,0,0,[],(13:Int),(⟨#[]⟩:ByteArray),(⟨#[]⟩:ByteArray)⟩:PodStatus)⟩:Pod),(⟨(⟨(⟨#[80,111,100]⟩:ByteArray),(⟨#[110]⟩:ByteArray),((⟨#[97]⟩:ByteArray)),0,0,0,0,false,0,[(⟨(⟨#[97,112,112]⟩:ByteArray),((⟨#[119,101,98]⟩:ByteArray))⟩:Label)],[],[],[]⟩:Meta),(⟨(⟨#[]⟩:ByteArray),0,0,0,[],[],[],[],[],[]⟩:PodSpec),(⟨1,true,0,0,0,[],(11:Int),(⟨#[]⟩:ByteArray),(⟨#[]⟩:ByteArray)⟩:PodStatus)⟩:Pod),(⟨(⟨(⟨#[80,111,100]⟩:ByteArray),(⟨#[110]⟩:ByteArray),((⟨#[100]⟩:ByteArray)),0,0,0,0,false,0,[(⟨(⟨#[97,112,112]⟩:ByteArray),((⟨#[119,101,98]⟩:ByteArray))⟩:Label)],[],[],[]⟩:Meta),(⟨(⟨#[]⟩:ByteArray),0,0,0,[],[],[],[],[],[]⟩:PodSpec),(⟨1,true,0,0,0,[],(0:Int),(⟨#[]⟩:ByteArray),(⟨#[]⟩:ByteArray)⟩:PodStatus)⟩:Pod)])) rfl rfl (by simp[A1.cells]) (by first|rfl|(simp only[List.drop_zero,take_mapL];rfl)|(simp only[lit,List.map_cons,List.map_nil,List.drop_zero,take_mapL,EE.down];done)|(simp only[lit,List.map_cons,List.map_nil,List.drop_zero,take_mapL,EE.down];rfl)) (ww ?_)
 refine kD_own (by simp[wrs,allW,hset,ownW]) (ww ?_)
 obtain⟨t6,ht6,h⟩:=bi h
 refine callX_gen (as1:=[.agg [dS ((⟨#[]⟩:ByteArray)),dS ((⟨#[110]⟩:ByteArray)),dS ((⟨#[115]⟩:ByteArray)),dI 0,dI 0,dI 0,dI 0,dB false,dI 0,dM [],dM [],dM [],dM [],dM (([(⟨(⟨#[97,112,112]⟩:ByteArray),1,[(⟨#[119,101,98]⟩:ByteArray)]⟩:Requirement)]).map eRequirement),dM [],dB false,dI 0],.c (dM (((lit [(⟨(⟨(⟨#[80,111,100]⟩:ByteArray),(⟨#[110]⟩:ByteArray),((⟨#[98]⟩:ByteArray)),0,0,0,0,true,0,[(⟨(⟨#[97,112,112]⟩:ByteArray),((⟨#[119,101,98]⟩:ByteArray))⟩:Label)],[],[],[]⟩:Meta),(⟨(⟨#[]⟩:ByteArray),0,0,0,[],[],[],[],[],[]⟩:PodSpec),(⟨1,true,0,0,0,[],(12:Int),(⟨#[]⟩:ByteArray),(⟨#[]⟩:ByteArray)⟩:PodStatus)⟩:Pod),(⟨(⟨(⟨#[80,111,100]⟩:ByteArray),(⟨#[110]⟩:ByteArray),((⟨#[99]⟩:ByteArray)),0,0,0,0,false,0,[(⟨(⟨#[97,112,112]⟩:ByteArray),((⟨#[100,98]⟩:ByteArray))⟩:Label)],[],[],[]⟩:Meta),(⟨(⟨#[]⟩:ByteArray),0,0,0,[],[],[],[],[],[]⟩:PodSpec),(⟨1,true,0,0,0,[],(13:Int),(⟨#[]⟩:ByteArray),(⟨#[]⟩:ByteArray)⟩:PodStatus)⟩:Pod),(⟨(⟨(⟨#[80,111,100]⟩:ByteArray),(⟨#[110]⟩:ByteArray),((⟨#[97]⟩:ByteArray)),0,0,0,0,false,0,[(⟨(⟨#[97,112,112]⟩:ByteArray),((⟨#[119,101,98]⟩:ByteArray))⟩:Label)],[],[],[]⟩:Meta),(⟨(⟨#[]⟩:ByteArray),0,0,0,[],[],[],[],[],[]⟩:PodSpec),(⟨1,true,0,0,0,[],(11:Int),(⟨#[]⟩:ByteArray),(⟨#[]⟩:ByteArray)⟩:PodStatus)⟩:Pod),(⟨(⟨(⟨#[80,111,100]⟩:ByteArray),(⟨#[110]⟩:ByteArray),((⟨#[100]⟩:ByteArray)),0,0,0,0,false,0,[(⟨(⟨#[97,112,112]⟩:ByteArray),((⟨#[119,101,98]⟩:ByteArray))⟩:Label)],[],[],[]⟩:Meta),(⟨(⟨#[]⟩:ByteArray),0,0,0,[],[],[],[],[],[]⟩:PodSpec),(⟨1,true,0,0,0,[],(0:Int),(⟨#[]⟩:ByteArray),(⟨#[]⟩:ByteArray)⟩:PodStatus)⟩:Pod)])).map ePod))]) [(5,.arr 1 32 [])] [some 0,some 1,some 2,some 3,some 4,none] [] (F10_ok ht6) ⟨?_,rfl,?_⟩ ?_ ?_ ?_ ?_ ?_ ?_ ?_ ?_
 ·simp only[ZZ.down,Nat.reduceEqDiff,reduceCtorEq,Nat.reduceAdd,Nat.reduceLeDiff,Nat.reduceLT,Nat.reduceBNe,EE.down]
 ·simp only[ZZ.down,Nat.reduceEqDiff,reduceCtorEq,Nat.reduceAdd,Nat.reduceLeDiff,Nat.reduceLT,Nat.reduceBNe,EE.down]
 ·simp only[ZZ.down,Nat.reduceEqDiff,reduceCtorEq,Nat.reduceAdd,Nat.reduceLeDiff,Nat.reduceLT,Nat.reduceBNe,EE.down]
 ·rfl
 ·rfl
 ·simp[liveAll,A1.live,C.live]
 ·rfl
 ·decide
 ·exact trivial
 refine ww ?_
 refine kD_own (by simp[wrs,allW,hset,ownW]) (ww ?_)
 refine kD_new (by simp[wrs,allW,hset]) (ww ?_)
 refine t_bslice (enc:=eEndpoint) (ys:=[(⟨(⟨#[97]⟩:ByteArray),(⟨#[]⟩:ByteArray),0,false,false⟩:Endpoint),(⟨(⟨#[98]⟩:ByteArray),(⟨#[]⟩:ByteArray),0,false,false⟩:Endpoint)]) rfl rfl (by simp[A1.cells]) (by first|rfl|(simp only[List.drop_zero,take_mapL];rfl)|(simp only[lit,List.map_cons,List.map_nil,List.drop_zero,take_mapL,EE.down];done)|(simp only[lit,List.map_cons,List.map_nil,List.drop_zero,take_mapL,EE.down];rfl)) (ww ?_)
 refine t_bslice (enc:=eEndpoint) (ys:=[(⟨(⟨#[98]⟩:ByteArray),(⟨#[]⟩:ByteArray),0,true,false⟩:Endpoint),(⟨(⟨#[99]⟩:ByteArray),(⟨#[]⟩:ByteArray),0,false,false⟩:Endpoint)]) rfl rfl (by simp[A1.cells]) (by first|rfl|(simp only[List.drop_zero,take_mapL];rfl)|(simp only[lit,List.map_cons,List.map_nil,List.drop_zero,take_mapL,EE.down];done)|(simp only[lit,List.map_cons,List.map_nil,List.drop_zero,take_mapL,EE.down];rfl)) (ww ?_)
 obtain⟨t7,ht7,h⟩:=bi h
 refine callX_borF (F14_ok ht7) (by simp only[borAs,bors,hp,List.getElem?_cons_zero,List.getElem?_cons_succ,Option.join_some,List.drop_zero,bor_full',true_and,Nat.zero_add,List.length_map,Nat.le_refl,nrm,List.length_cons,List.length_nil,Nat.reduceAdd,Nat.reduceLeDiff,List.take_succ_cons,List.take_zero,List.take_nil,List.map_cons,List.map_nil,List.length_set,EE.down]) rfl ⟨flat_rows (enc:=eS) (fun _=>rfl) _,flat_rows (enc:=eS) (fun _=>rfl) _,flat_rows (enc:=eS) (fun _=>rfl) _,trivial⟩ ?_
 refine ww ?_
 obtain⟨o8,ho,h⟩:=bi h
 refine cutS (fun s=>s=⟨[(0,.one (.c (dB o8)))],[]⟩) ?_ ?_
 ·have h:=ho
  clear ho
  refine ww ?_
  refine guardSh h (fun g9 h=>?_) (fun g9 h=>?_)
  ·refine ww ?_
   refine t_bslice (enc:=eEndpoint) (ys:=[(⟨(⟨#[80,111,100,47,110,47,97]⟩:ByteArray),(⟨#[]⟩:ByteArray),11,true,false⟩:Endpoint),(⟨(⟨#[80,111,100,47,110,47,98]⟩:ByteArray),(⟨#[]⟩:ByteArray),12,false,true⟩:Endpoint)]) rfl rfl (by simp[A1.cells]) (by first|rfl|(simp only[List.drop_zero,take_mapL];rfl)|(simp only[lit,List.map_cons,List.map_nil,List.drop_zero,take_mapL,EE.down];done)|(simp only[lit,List.map_cons,List.map_nil,List.drop_zero,take_mapL,EE.down];rfl)) (ww ?_)
   obtain⟨t10,ht10,h⟩:=bi h
   refine callX_bor (F13_ok ht10) (by simp only[borAs,bors,hp,List.getElem?_cons_zero,List.getElem?_cons_succ,Option.join_some,List.drop_zero,bor_full',true_and,Nat.zero_add,List.length_map,Nat.le_refl,nrm,List.length_cons,List.length_nil,Nat.reduceAdd,Nat.reduceLeDiff,List.take_succ_cons,List.take_zero,List.take_nil,List.map_cons,List.map_nil,List.length_set,EE.down]) rfl ?_
   refine ww ?_
   refine guardSBh h (fun g11 h=>?_) (fun g11 h=>?_)
   ·refine ww ?_
    refine t_bslice (enc:=eS) (ys:=[(⟨#[99]⟩:ByteArray)]) rfl rfl (by simp[A1.cells]) (by first|rfl|(simp only[List.drop_zero,take_mapL];rfl)|(simp only[lit,List.map_cons,List.map_nil,List.drop_zero,take_mapL,EE.down];done)|(simp only[lit,List.map_cons,List.map_nil,List.drop_zero,take_mapL,EE.down];rfl)) (ww ?_)
    obtain⟨t12,ht12,h⟩:=bi h
    refine callX_bor (F16_ok ht12) (by simp only[borAs,bors,hp,List.getElem?_cons_zero,List.getElem?_cons_succ,Option.join_some,List.drop_zero,bor_full',true_and,Nat.zero_add,List.length_map,Nat.le_refl,nrm,List.length_cons,List.length_nil,Nat.reduceAdd,Nat.reduceLeDiff,List.take_succ_cons,List.take_zero,List.take_nil,List.map_cons,List.map_nil,List.length_set,EE.down]) rfl ?_
    refine ww ?_
    refine guardSBh h (fun g13 h=>?_) (fun g13 h=>?_)
    ·refine ww ?_
     refine t_bslice (enc:=eS) (ys:=[(⟨#[97]⟩:ByteArray)]) rfl rfl (by simp[A1.cells]) (by first|rfl|(simp only[List.drop_zero,take_mapL];rfl)|(simp only[lit,List.map_cons,List.map_nil,List.drop_zero,take_mapL,EE.down];done)|(simp only[lit,List.map_cons,List.map_nil,List.drop_zero,take_mapL,EE.down];rfl)) (ww ?_)
     obtain⟨t14,ht14,h⟩:=bi h
     refine callX_bor (F16_ok ht14) (by simp only[borAs,bors,hp,List.getElem?_cons_zero,List.getElem?_cons_succ,Option.join_some,List.drop_zero,bor_full',true_and,Nat.zero_add,List.length_map,Nat.le_refl,nrm,List.length_cons,List.length_nil,Nat.reduceAdd,Nat.reduceLeDiff,List.take_succ_cons,List.take_zero,List.take_nil,List.map_cons,List.map_nil,List.length_set,EE.down]) rfl ?_
     refine ww ?_
     refine guardSBh h (fun g15 h=>?_) (fun g15 h=>?_)
     ·refine ww ?_
      refine t_bslice (enc:=eS) (ys:=[(⟨#[98]⟩:ByteArray)]) rfl rfl (by simp[A1.cells]) (by first|rfl|(simp only[List.drop_zero,take_mapL];rfl)|(simp only[lit,List.map_cons,List.map_nil,List.drop_zero,take_mapL,EE.down];done)|(simp only[lit,List.map_cons,List.map_nil,List.drop_zero,take_mapL,EE.down];rfl)) (ww ?_)
      obtain⟨t16,ht16,h⟩:=bi h
      refine callX_bor (F16_ok ht16) (by simp only[borAs,bors,hp,List.getElem?_cons_zero,List.getElem?_cons_succ,Option.join_some,List.drop_zero,bor_full',true_and,Nat.zero_add,List.length_map,Nat.le_refl,nrm,List.length_cons,List.length_nil,Nat.reduceAdd,Nat.reduceLeDiff,List.take_succ_cons,List.take_zero,List.take_nil,List.map_cons,List.map_nil,List.length_set,EE.down]) rfl ?_
      refine ww ?_
      cases h
      exact eM [] rfl
     refine ww ?_
     cases h
     exact eM [] rfl
    refine ww ?_
    cases h
    exact eM [] rfl
   refine ww ?_
   cases h
   exact eM [] rfl
  refine ww ?_
  cases h
  exact eM [] rfl
 rintro _ rfl
 clear ho
 refine ww ?_
 cases h
 exact eF []
end Go.Proofs.Ytfkkccgopmcnaaa
