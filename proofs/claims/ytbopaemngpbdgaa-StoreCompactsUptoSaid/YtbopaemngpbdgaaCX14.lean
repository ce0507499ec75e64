/- Each Go function as a function over typed data, and its walk. -/
import Derived.Test.YtbopaemngpbdgaaCX
import Derived.Test.YtbopaemngpbdgaaCX3
import Derived.Test.YtbopaemngpbdgaaCX4
import Derived.Test.YtbopaemngpbdgaaCX5
import Derived.Test.YtbopaemngpbdgaaCX6
import Derived.Test.YtbopaemngpbdgaaCX7
import Derived.Test.YtbopaemngpbdgaaCX8
import Derived.Test.YtbopaemngpbdgaaCX9
import Derived.Test.YtbopaemngpbdgaaCX11
import Derived.Test.YtbopaemngpbdgaaCX12
namespace Go.Proofs.Ytbopaemngpbdgaa
open Go Go.Fw Go.Shelf
set_option maxRecDepth 100000
set_option maxHeartbeats 4000000
set_option linter.unusedSimpArgs false
set_option linter.unusedVariables false
def F58(x0:Meta):Option (Bool):=(((if(if x0.DeleteAt<(if x0.Created<(if x0.Generation<(if x0.Version<x0.Uid then x0.Version else x0.Uid)then x0.Generation else(if x0.Version<x0.Uid then x0.Version else x0.Uid))then x0.Created else(if x0.Generation<(if x0.Version<x0.Uid then x0.Version else x0.Uid)then x0.Generation else(if x0.Version<x0.Uid then x0.Version else x0.Uid)))then x0.DeleteAt else(if x0.Created<(if x0.Generation<(if x0.Version<x0.Uid then x0.Version else x0.Uid)then x0.Generation else(if x0.Version<x0.Uid then x0.Version else x0.Uid))then x0.Created else(if x0.Generation<(if x0.Version<x0.Uid then x0.Version else x0.Uid)then x0.Generation else(if x0.Version<x0.Uid then x0.Version else x0.Uid))))<0 then some true else(if(nb x0.Deleting)=true then some (decide (¬(x0.DeleteAt=0)))else some false))).bind fun o1=>(if o1=true then some false else(((F80 x0.Kind).bind fun t6=>(if t6=true then(F81 x0.Namespace).bind fun t8=>(if t8=true then(F82 x0.Name).bind fun t10=>(if t10=true then(F83 x0.Labels).bind fun t12=>(if t12=true then(F84 x0.Owners).bind fun t14=>(if t14=true then(F85 x0.Finalizers).bind fun t16=>(if t16=true then(F86 x0.Managers).bind fun t18=>some t18 else some false)else some false)else some false)else some false)else some false)else some false)).bind fun o5=>some o5)))
def a58:AFn:=⟨58,[(.tmp 2)],
 (.seq (.reg [sq 1 (.box (.t 0)),
sq 2 (.mv (kB false))])
 (.seq (.seq (.sem (.reg [sq 3 (.fieldA 3 (.t 1)),
sq 4 (.load none (.t 3)),
sq 5 (.fieldA 4 (.t 1)),
sq 6 (.load none (.t 5)),
sq 7 (.fieldA 5 (.t 1)),
sq 8 (.load none (.t 7)),
sq 9 (.fieldA 6 (.t 1)),
sq 10 (.load none (.t 9)),
sq 11 (.fieldA 8 (.t 1)),
sq 12 (.load none (.t 11)),
sq 13 (.mins (.t 4) [(.t 6),(.t 8),(.t 10),(.t 12)]),
sq 14 (.bin .lss (.t 13) (kI 0)),
sq 15 (.mv (.t 14)),
zg 16 15 false (.fieldA 7 (.t 1)),
zg 17 15 false (.load none (.t 16)),
zg 18 15 false (.not (.t 17)),
zg 19 15 false (.mv (.t 18)),
zg 20 19 true (.fieldA 8 (.t 1)),
zg 21 19 true (.load none (.t 20)),
zg 22 19 true (.bin .neq (.t 21) (kI 0)),
zg 23 15 false (.pick (.t 19) (.t 22) (kB false)),
sq 24 (.pick (.t 15) (kB true) (.t 23))]))
 (.cond (.t 24)
 (.seq (.reg [sq 2 (.mv (kB false))])
 .ret)
 .skip))
 (.seq (.sem (.reg [sq 25 (.fieldA 0 (.t 1)),
sq 26 (.load none (.t 25)),
sq 27 (.call 80 [(.t 26)]),
sq 28 (.mv (.t 27)),
zg 29 28 true (.fieldA 1 (.t 1)),
zg 30 28 true (.load none (.t 29)),
zg 31 28 true (.call 81 [(.t 30)]),
sq 32 (.pick (.t 28) (.t 31) (kB false)),
sq 33 (.mv (.t 32)),
zg 34 33 true (.fieldA 2 (.t 1)),
zg 35 33 true (.load none (.t 34)),
zg 36 33 true (.call 82 [(.t 35)]),
sq 37 (.pick (.t 33) (.t 36) (kB false)),
sq 38 (.mv (.t 37)),
zg 39 38 true (.fieldA 9 (.t 1)),
zg 40 38 true (.load none (.t 39)),
zg 41 38 true (.call 83 [(.t 40)]),
sq 42 (.pick (.t 38) (.t 41) (kB false)),
sq 43 (.mv (.t 42)),
zg 44 43 true (.fieldA 10 (.t 1)),
zg 45 43 true (.load none (.t 44)),
zg 46 43 true (.call 84 [(.t 45)]),
sq 47 (.pick (.t 43) (.t 46) (kB false)),
sq 48 (.mv (.t 47)),
zg 49 48 true (.fieldA 11 (.t 1)),
zg 50 48 true (.load none (.t 49)),
zg 51 48 true (.call 85 [(.t 50)]),
sq 52 (.pick (.t 48) (.t 51) (kB false)),
sq 53 (.mv (.t 52)),
zg 54 53 true (.fieldA 12 (.t 1)),
zg 55 53 true (.load none (.t 54)),
zg 56 53 true (.call 86 [(.t 55)]),
sq 57 (.pick (.t 53) (.t 56) (kB false)),
sq 2 (.mv (.t 57))]))
 .ret)))⟩
theorem a58_ok:afn Try.prog 58=some a58.er:=by kernel_rfl
theorem F58_ok{x0 r}(h:F58 x0=some r):CallD Try.prog 58 [.agg [dS x0.Kind,dS x0.Namespace,dS x0.Name,dI x0.Uid,dI x0.Version,dI x0.Generation,dI x0.Created,dB x0.Deleting,dI x0.DeleteAt,dM (x0.Labels.map eLabel),dM (x0.Owners.map eOwner),dM (x0.Finalizers.map eS),dM (x0.Managers.map eManager)]] [] (tupV [.c (dB r)]) []:=by
 refine callS a58_ok (by simp[a58]) ?_
 rw[F58]at h
 simp only[a58,VW.down,Nat.reduceEqDiff,reduceCtorEq,Nat.reduceAdd,Nat.reduceLeDiff,Nat.reduceLT,Nat.reduceBEq,Nat.reduceSub,EE.down]
 obtain⟨o1,ho,h⟩:=bi h
 refine cutS (fun s=>s=⟨[(1,.one (.c (.pt 0 0))),(24,.one (.c (dB o1)))],[some (.box [dS x0.Kind,dS x0.Namespace,dS x0.Name,dI x0.Uid,dI x0.Version,dI x0.Generation,dI x0.Created,dB x0.Deleting,dI x0.DeleteAt,dM (x0.Labels.map eLabel),dM (x0.Owners.map eOwner),dM (x0.Finalizers.map eS),dM (x0.Managers.map eManager)])]⟩) ?_ ?_
 ·have h:=ho
  clear ho
  refine ww ?_
  refine guardSh h (fun g2 h=>?_) (fun g2 h=>?_)
  ·refine ww ?_
   cases h
   exact eM [some 0] rfl
  refine ww ?_
  refine guardSBh h (fun g3 h=>?_) (fun g3 h=>?_)
  ·refine ww ?_
   cases h
   exact eM [some 0] rfl
  refine ww ?_
  cases h
  exact eM [some 0] rfl
 rintro _ rfl
 clear ho
 refine ww ?_
 refine condBh h (fun c4 h=>?_) (fun c4 h=>?_)
 ·refine ww ?_
  cases h
  exact eF []
 refine ww ?_
 obtain⟨o5,ho,h⟩:=bi h
 refine cutS (fun s=>s=⟨[(2,.one (.c (dB o5)))],[]⟩) ?_ ?_
 ·have h:=ho
  clear ho
  refine ww ?_
  obtain⟨t6,ht6,h⟩:=bi h
  refine cN [] (F80_ok ht6) trivial (ww ?_)
  refine guardSBh h (fun g7 h=>?_) (fun g7 h=>?_)
  ·refine ww ?_
   obtain⟨t8,ht8,h⟩:=bi h
   refine cN [] (F81_ok ht8) trivial (ww ?_)
   refine guardSBh h (fun g9 h=>?_) (fun g9 h=>?_)
   ·refine ww ?_
    obtain⟨t10,ht10,h⟩:=bi h
    refine cN [] (F82_ok ht10) trivial (ww ?_)
    refine guardSBh h (fun g11 h=>?_) (fun g11 h=>?_)
    ·refine ww ?_
     obtain⟨t12,ht12,h⟩:=bi h
     refine cN [] (F83_ok ht12) trivial (ww ?_)
     refine guardSBh h (fun g13 h=>?_) (fun g13 h=>?_)
     ·refine ww ?_
      obtain⟨t14,ht14,h⟩:=bi h
      refine cN [] (F84_ok ht14) trivial (ww ?_)
      refine guardSBh h (fun g15 h=>?_) (fun g15 h=>?_)
      ·refine ww ?_
       obtain⟨t16,ht16,h⟩:=bi h
       refine cN [] (F85_ok ht16) trivial (ww ?_)
       refine guardSBh h (fun g17 h=>?_) (fun g17 h=>?_)
       ·refine ww ?_
        obtain⟨t18,ht18,h⟩:=bi h
        refine cN [] (F86_ok ht18) trivial (ww ?_)
        cases h
        exact eM [] rfl
       refine ww ?_
       cases h
       exact eM [] rfl
      refine ww ?_
      cases h
      exact eM [] rfl
     refine ww ?_
     cases h
     exact eM [] rfl
    refine ww ?_
    cases h
    exact eM [] rfl
   refine ww ?_
   cases h
   exact eM [] rfl
  refine ww ?_
  cases h
  exact eM [] rfl
 rintro _ rfl
 clear ho
 refine ww ?_
 cases h
 exact eF []
def F59(x0:TValue):Option (Bool):=(((F87k 1099511627776 x0 12).bind fun t2=>(if t2=true then(F88k 1099511627776 x0).bind fun t4=>some (decide (t4≤600))else some false)).bind fun o1=>some o1)
def a59:AFn:=⟨10,[(.tmp 2)],
 (.seq (.reg [sq 1 (.box (.t 0)),
sq 2 (.mv (kB false))])
 (.seq (.sem (.reg [sq 3 (.load (some 5) (.t 1)),
sq 4 (.call 87 [(.t 3),(kI 12)]),
sq 5 (.mv (.t 4)),
zg 6 5 true (.load (some 5) (.t 1)),
zg 7 5 true (.call 88 [(.t 6)]),
zg 8 5 true (.bin .leq (.t 7) (kI 600)),
sq 9 (.pick (.t 5) (.t 8) (kB false)),
sq 2 (.mv (.t 9))]))
 .ret))⟩
theorem a59_ok:afn Try.prog 59=some a59.er:=by kernel_rfl
theorem F59_ok{x0 r}(h:F59 x0=some r):CallD Try.prog 59 [.agg [dI x0.Kind,dI x0.N,dS x0.S,dM (x0.List_.map eTValue),dM (x0.Fields.map eTField)]] [] (tupV [.c (dB r)]) []:=by
 refine callS a59_ok (by simp[a59]) ?_
 rw[F59]at h
 simp only[a59,VW.down,Nat.reduceEqDiff,reduceCtorEq,Nat.reduceAdd,Nat.reduceLeDiff,Nat.reduceLT,Nat.reduceBEq,Nat.reduceSub,EE.down]
 obtain⟨o1,ho,h⟩:=bi h
 refine cutS (fun s=>s=⟨[(2,.one (.c (dB o1)))],[]⟩) ?_ ?_
 ·have h:=ho
  clear ho
  refine ww ?_
  obtain⟨t2,ht2,h⟩:=bi h
  refine cN [] (F87k_ok 1099511627776 ht2) trivial (ww ?_)
  refine guardSBh h (fun g3 h=>?_) (fun g3 h=>?_)
  ·refine ww ?_
   obtain⟨t4,ht4,h⟩:=bi h
   refine cN [] (F88k_ok 1099511627776 ht4) trivial (ww ?_)
   cases h
   exact eM [] rfl
  refine ww ?_
  cases h
  exact eM [] rfl
 rintro _ rfl
 clear ho
 refine ww ?_
 cases h
 exact eF []
def F31(x0:Object):Option (Bool):=(((F58 x0.Meta).bind fun t2=>(if t2=true then(F59 x0.Spec).bind fun t4=>(if t4=true then(F59 x0.Status).bind fun t6=>some t6 else some false)else some false)).bind fun o1=>some o1)
def a31:AFn:=⟨16,[(.tmp 2)],
 (.seq (.reg [sq 1 (.box (.t 0)),
sq 2 (.mv (kB false))])
 (.seq (.sem (.reg [sq 3 (.fieldA 0 (.t 1)),
sq 4 (.load (some 13) (.t 3)),
sq 5 (.call 58 [(.t 4)]),
sq 6 (.mv (.t 5)),
zg 7 6 true (.fieldA 13 (.t 1)),
zg 8 6 true (.load (some 5) (.t 7)),
zg 9 6 true (.call 59 [(.t 8)]),
sq 10 (.pick (.t 6) (.t 9) (kB false)),
sq 11 (.mv (.t 10)),
zg 12 11 true (.fieldA 18 (.t 1)),
zg 13 11 true (.load (some 5) (.t 12)),
zg 14 11 true (.call 59 [(.t 13)]),
sq 15 (.pick (.t 11) (.t 14) (kB false)),
sq 2 (.mv (.t 15))]))
 .ret))⟩
theorem a31_ok:afn Try.prog 31=some a31.er:=by kernel_rfl
theorem F31_ok{x0 r}(h:F31 x0=some r):CallD Try.prog 31 [.agg [dS x0.Meta.Kind,dS x0.Meta.Namespace,dS x0.Meta.Name,dI x0.Meta.Uid,dI x0.Meta.Version,dI x0.Meta.Generation,dI x0.Meta.Created,dB x0.Meta.Deleting,dI x0.Meta.DeleteAt,dM (x0.Meta.Labels.map eLabel),dM (x0.Meta.Owners.map eOwner),dM (x0.Meta.Finalizers.map eS),dM (x0.Meta.Managers.map eManager),dI x0.Spec.Kind,dI x0.Spec.N,dS x0.Spec.S,dM (x0.Spec.List_.map eTValue),dM (x0.Spec.Fields.map eTField),dI x0.Status.Kind,dI x0.Status.N,dS x0.Status.S,dM (x0.Status.List_.map eTValue),dM (x0.Status.Fields.map eTField)]] [] (tupV [.c (dB r)]) []:=by
 refine callS a31_ok (by simp[a31]) ?_
 rw[F31]at h
 simp only[a31,VW.down,Nat.reduceEqDiff,reduceCtorEq,Nat.reduceAdd,Nat.reduceLeDiff,Nat.reduceLT,Nat.reduceBEq,Nat.reduceSub,EE.down]
 obtain⟨o1,ho,h⟩:=bi h
 refine cutS (fun s=>s=⟨[(2,.one (.c (dB o1)))],[]⟩) ?_ ?_
 ·have h:=ho
  clear ho
  refine ww ?_
  obtain⟨t2,ht2,h⟩:=bi h
  refine cN [] (F58_ok ht2) trivial (ww ?_)
  refine guardSBh h (fun g3 h=>?_) (fun g3 h=>?_)
  ·refine ww ?_
   obtain⟨t4,ht4,h⟩:=bi h
   refine cN [] (F59_ok ht4) trivial (ww ?_)
   refine guardSBh h (fun g5 h=>?_) (fun g5 h=>?_)
   ·refine ww ?_
    obtain⟨t6,ht6,h⟩:=bi h
    refine cN [] (F59_ok ht6) trivial (ww ?_)
    cases h
    exact eM [] rfl
   refine ww ?_
   cases h
   exact eM [] rfl
  refine ww ?_
  cases h
  exact eM [] rfl
 rintro _ rfl
 clear ho
 refine ww ?_
 cases h
 exact eF []
def F43_l1(x0:(List Object))(x1:Int)(x2:Int):List Object→Nat→(List (Int×Bool))→Option ((Bool) ⊕ (Unit))
 |[],o1_1,o1_0=>some (Sum.inr (()))
 |xo1::xs,o1_1,o1_0=>(((F31 xo1).bind fun t4=>(if(nb t4)=true then some true else(if 0<(o1_1:Int)then(F33 xo1.Meta).bind fun t7=>(rdI x0 ((IntKind.i64.wrap (((o1_1:Int))-1)))).bind fun y8=>(F33 y8.Meta).bind fun t9=>(if((Op.bytesLess t7.toList t9.toList||decide (t7=t9)))=true then some true else(if xo1.Meta.Uid<1 then some true else(if x2≤xo1.Meta.Uid then some true else(if(((getM xo1.Meta.Uid o1_0).getD false))=true then some true else(if xo1.Meta.Version<1 then some true else(if x1<xo1.Meta.Version then some true else some (decide (xo1.Meta.Generation<1))))))))else(if xo1.Meta.Uid<1 then some true else(if x2≤xo1.Meta.Uid then some true else(if(((getM xo1.Meta.Uid o1_0).getD false))=true then some true else(if xo1.Meta.Version<1 then some true else(if x1<xo1.Meta.Version then some true else some (decide (xo1.Meta.Generation<1)))))))))).bind fun o3=>(if o3=true then(some false).map Sum.inl else F43_l1 x0 x1 x2 xs (o1_1+1) ((putM xo1.Meta.Uid true o1_0))))
def F43(x0:(List Object))(x1:Int)(x2:Int):Option (Bool):=(((ck (0≤x0.length∧x0.length≤4294967290)).bind fun u22=>F43_l1 x0 x1 x2 x0 0 ([]):Option ((Bool) ⊕ (Unit))).bind fun o1=>match o1 with|Sum.inl f=>some f|Sum.inr po1=>some (decide ((x0.length:Int)≤500)))
def a43:AFn:=⟨80,[(.tmp 6)],
 (.seq (.reg [sq 6 (.mv (kB false))])
 (.seq (.reg [sq 11 (.mkmap),
sq 7 (.mv (.t 11))])
 (.seq (.seq (.reg [sq 12 (.mv (.t 0)),
sq 13 (.len (.t 12)),
sq 14 (.mv (kI 0))])
 (.sem (.block 0 (.loop (.seq (.reg [sq 15 (.bin .lss (.t 14) (.t 13))])
 (.seq (.cond (.t 15)
 .skip
 (.exit 0))
 (.seq (.block 1 (.seq (.reg [sq 16 (.mv (.t 14)),
sq 17 (.indexA 23 (.t 12) (.t 14)),
sq 18 (.load (some 23) (.t 17)),
sq 9 (.zbox [dS ⟨#[]⟩,dS ⟨#[]⟩,dS ⟨#[]⟩,dI 0,dI 0,dI 0,dI 0,dB false,dI 0,dN,dN,dN,dN,dI 0,dI 0,dS ⟨#[]⟩,dN,dN,dI 0,dI 0,dS ⟨#[]⟩,dN,dN]),
sq 8 (.mv (.t 16)),
su (.store 23 (.t 9) (.t 18))])
 (.seq (.reg [sq 19 (.fieldA 0 (.t 9)),
sq 20 (.load (some 13) (.t 19)),
sq 10 (.zbox [dS ⟨#[]⟩,dS ⟨#[]⟩,dS ⟨#[]⟩,dI 0,dI 0,dI 0,dI 0,dB false,dI 0,dN,dN,dN,dN]),
su (.store 13 (.t 10) (.t 20))])
 (.seq (.seq (.sem (.regd [sq 21 (.load (some 23) (.t 9)),
zl 22 (.call 31 [(.t 21)]) [0] [],
sd 23 (.not (.t 22)) [0,1],
sd 24 (.mv (.t 23)) [0,1,2],
⟨(some 25),(some (24,false)),.mv (.t 8),[0,1,2,3],(.new [])⟩,
⟨(some 26),(some (24,false)),.bin .gtr (.t 25) (kI 0),[0,1,2,3,4],(.new [])⟩,
⟨(some 27),(some (24,false)),.mv (.t 26),[0,1,2,3,4,5],(.new [])⟩,
⟨(some 28),(some (27,true)),.load (some 13) (.t 10),[0,1,2,3,4,5,6],(.new [])⟩,
⟨(some 29),(some (27,true)),.call 33 [(.t 28)],[0,1,2,3,4,5,6,7],(.new [7])⟩,
⟨(some 30),(some (27,true)),.mv (.t 0),[0,1,2,3,4,5,6],(.new [])⟩,
⟨(some 31),(some (27,true)),.mv (.t 8),[0,1,2,3,4,5,6],(.new [])⟩,
⟨(some 32),(some (27,true)),.bin .sub (.t 31) (kI 1),[0,1,2,3,4,5,6,10],(.new [])⟩,
⟨(some 33),(some (27,true)),.indexA 23 (.t 30) (.t 32),[0,1,2,3,4,5,6,9,10,11],(.new [])⟩,
⟨(some 34),(some (27,true)),.fieldA 0 (.t 33),[0,1,2,3,4,5,6,9,10,11,12],(.new [])⟩,
⟨(some 35),(some (27,true)),.load (some 13) (.t 34),[0,1,2,3,4,5,6,9,10,11,12,13],(.new [])⟩,
⟨(some 36),(some (27,true)),.call 33 [(.t 35)],[0,1,2,3,4,5,6,7,8,9,10,11,12,13,14],(.lone [])⟩,
⟨(some 37),(some (27,true)),.bin .leq (.t 29) (.t 36),[0,1,2,3,4,5,6,7,8,9,10,11,12,13,14,15],(.new [])⟩,
⟨(some 38),(some (24,false)),.pick (.t 27) (.t 37) (kB false),[0,1,2,3,4,5,6,7,8,9,10,11,12,13,14,15,16],(.lone [])⟩,
zl 39 (.pick (.t 24) (kB true) (.t 38)) [0,1,2,3,4,5,6,7,8,9,10,11,12,13,14,15,16,17] [],
sd 40 (.mv (.t 39)) [0,1,2,3,4,5,6,7,8,9,10,11,12,13,14,15,16,17,18],
⟨(some 41),(some (40,false)),.fieldA 3 (.t 10),[0,1,2,3,4,5,6,7,8,9,10,11,12,13,14,15,16,17,18,19],(.new [])⟩,
⟨(some 42),(some (40,false)),.load none (.t 41),[0,1,2,3,4,5,6,7,8,9,10,11,12,13,14,15,16,17,18,19,20],(.new [])⟩,
⟨(some 43),(some (40,false)),.bin .lss (.t 42) (kI 1),[0,1,2,3,4,5,6,7,8,9,10,11,12,13,14,15,16,17,18,19,20,21],(.new [])⟩,
zl 44 (.pick (.t 40) (kB true) (.t 43)) [0,1,2,3,4,5,6,7,8,9,10,11,12,13,14,15,16,17,18,19,20,21,22] [],
sd 45 (.mv (.t 44)) [0,1,2,3,4,5,6,7,8,9,10,11,12,13,14,15,16,17,18,19,20,21,22,23],
⟨(some 46),(some (45,false)),.fieldA 3 (.t 10),[0,1,2,3,4,5,6,7,8,9,10,11,12,13,14,15,16,17,18,19,20,21,22,23,24],(.new [])⟩,
⟨(some 47),(some (45,false)),.load none (.t 46),[0,1,2,3,4,5,6,7,8,9,10,11,12,13,14,15,16,17,18,19,20,21,22,23,24,25],(.new [])⟩,
⟨(some 48),(some (45,false)),.mv (.t 2),[0,1,2,3,4,5,6,7,8,9,10,11,12,13,14,15,16,17,18,19,20,21,22,23,24],(.new [])⟩,
⟨(some 49),(some (45,false)),.bin .geq (.t 47) (.t 48),[0,1,2,3,4,5,6,7,8,9,10,11,12,13,14,15,16,17,18,19,20,21,22,23,24,25,26,27],(.new [])⟩,
zl 50 (.pick (.t 45) (kB true) (.t 49)) [0,1,2,3,4,5,6,7,8,9,10,11,12,13,14,15,16,17,18,19,20,21,22,23,24,25,26,27,28] [],
sd 51 (.mv (.t 50)) [0,1,2,3,4,5,6,7,8,9,10,11,12,13,14,15,16,17,18,19,20,21,22,23,24,25,26,27,28,29],
⟨(some 52),(some (51,false)),.mv (.t 7),[0,1,2,3,4,5,6,7,8,9,10,11,12,13,14,15,16,17,18,19,20,21,22,23,24,25,26,27,28,29,30],(.new [])⟩,
⟨(some 53),(some (51,false)),.fieldA 3 (.t 10),[0,1,2,3,4,5,6,7,8,9,10,11,12,13,14,15,16,17,18,19,20,21,22,23,24,25,26,27,28,29,30],(.new [])⟩,
⟨(some 54),(some (51,false)),.load none (.t 53),[0,1,2,3,4,5,6,7,8,9,10,11,12,13,14,15,16,17,18,19,20,21,22,23,24,25,26,27,28,29,30,32],(.new [])⟩,
⟨(some 55),(some (51,false)),.mget 0 false (.c (dB false)) (.t 52) (.t 54),[0,1,2,3,4,5,6,7,8,9,10,11,12,13,14,15,16,17,18,19,20,21,22,23,24,25,26,27,28,29,30,31,32,33],(.lone [])⟩,
zl 56 (.pick (.t 51) (kB true) (.t 55)) [0,1,2,3,4,5,6,7,8,9,10,11,12,13,14,15,16,17,18,19,20,21,22,23,24,25,26,27,28,29,30,31,32,33,34] [],
sd 57 (.mv (.t 56)) [0,1,2,3,4,5,6,7,8,9,10,11,12,13,14,15,16,17,18,19,20,21,22,23,24,25,26,27,28,29,30,31,32,33,34,35],
⟨(some 58),(some (57,false)),.fieldA 4 (.t 10),[0,1,2,3,4,5,6,7,8,9,10,11,12,13,14,15,16,17,18,19,20,21,22,23,24,25,26,27,28,29,30,31,32,33,34,35,36],(.new [])⟩,
⟨(some 59),(some (57,false)),.load none (.t 58),[0,1,2,3,4,5,6,7,8,9,10,11,12,13,14,15,16,17,18,19,20,21,22,23,24,25,26,27,28,29,30,31,32,33,34,35,36,37],(.new [])⟩,
⟨(some 60),(some (57,false)),.bin .lss (.t 59) (kI 1),[0,1,2,3,4,5,6,7,8,9,10,11,12,13,14,15,16,17,18,19,20,21,22,23,24,25,26,27,28,29,30,31,32,33,34,35,36,37,38],(.new [])⟩,
zl 61 (.pick (.t 57) (kB true) (.t 60)) [0,1,2,3,4,5,6,7,8,9,10,11,12,13,14,15,16,17,18,19,20,21,22,23,24,25,26,27,28,29,30,31,32,33,34,35,36,37,38,39] [],
sd 62 (.mv (.t 61)) [0,1,2,3,4,5,6,7,8,9,10,11,12,13,14,15,16,17,18,19,20,21,22,23,24,25,26,27,28,29,30,31,32,33,34,35,36,37,38,39,40],
⟨(some 63),(some (62,false)),.fieldA 4 (.t 10),[0,1,2,3,4,5,6,7,8,9,10,11,12,13,14,15,16,17,18,19,20,21,22,23,24,25,26,27,28,29,30,31,32,33,34,35,36,37,38,39,40,41],(.new [])⟩,
⟨(some 64),(some (62,false)),.load none (.t 63),[0,1,2,3,4,5,6,7,8,9,10,11,12,13,14,15,16,17,18,19,20,21,22,23,24,25,26,27,28,29,30,31,32,33,34,35,36,37,38,39,40,41,42],(.new [])⟩,
⟨(some 65),(some (62,false)),.mv (.t 1),[0,1,2,3,4,5,6,7,8,9,10,11,12,13,14,15,16,17,18,19,20,21,22,23,24,25,26,27,28,29,30,31,32,33,34,35,36,37,38,39,40,41],(.new [])⟩,
⟨(some 66),(some (62,false)),.bin .gtr (.t 64) (.t 65),[0,1,2,3,4,5,6,7,8,9,10,11,12,13,14,15,16,17,18,19,20,21,22,23,24,25,26,27,28,29,30,31,32,33,34,35,36,37,38,39,40,41,42,43,44],(.new [])⟩,
zl 67 (.pick (.t 62) (kB true) (.t 66)) [0,1,2,3,4,5,6,7,8,9,10,11,12,13,14,15,16,17,18,19,20,21,22,23,24,25,26,27,28,29,30,31,32,33,34,35,36,37,38,39,40,41,42,43,44,45] [],
sd 68 (.mv (.t 67)) [0,1,2,3,4,5,6,7,8,9,10,11,12,13,14,15,16,17,18,19,20,21,22,23,24,25,26,27,28,29,30,31,32,33,34,35,36,37,38,39,40,41,42,43,44,45,46],
⟨(some 69),(some (68,false)),.fieldA 5 (.t 10),[0,1,2,3,4,5,6,7,8,9,10,11,12,13,14,15,16,17,18,19,20,21,22,23,24,25,26,27,28,29,30,31,32,33,34,35,36,37,38,39,40,41,42,43,44,45,46,47],(.new [])⟩,
⟨(some 70),(some (68,false)),.load none (.t 69),[0,1,2,3,4,5,6,7,8,9,10,11,12,13,14,15,16,17,18,19,20,21,22,23,24,25,26,27,28,29,30,31,32,33,34,35,36,37,38,39,40,41,42,43,44,45,46,47,48],(.new [])⟩,
⟨(some 71),(some (68,false)),.bin .lss (.t 70) (kI 1),[0,1,2,3,4,5,6,7,8,9,10,11,12,13,14,15,16,17,18,19,20,21,22,23,24,25,26,27,28,29,30,31,32,33,34,35,36,37,38,39,40,41,42,43,44,45,46,47,48,49],(.new [])⟩,
zl 72 (.pick (.t 68) (kB true) (.t 71)) [0,1,2,3,4,5,6,7,8,9,10,11,12,13,14,15,16,17,18,19,20,21,22,23,24,25,26,27,28,29,30,31,32,33,34,35,36,37,38,39,40,41,42,43,44,45,46,47,48,49,50] []]))
 (.cond (.t 72)
 (.seq (.reg [sq 6 (.mv (kB false))])
 .ret)
 .skip))
 (.reg [sq 73 (.mv (.t 7)),
sq 74 (.fieldA 3 (.t 10)),
sq 75 (.load none (.t 74)),
⟨none,none,.mset 0 (.t 73) (.t 75) (kB true),[],(.lone [10,74])⟩])))))
 (.reg [sq 76 (.bin .add (.t 14) (kI 1)),
sq 14 (.mv (.t 76))]))))))))
 (.seq (.reg [sq 77 (.mv (.t 0)),
sq 78 (.len (.t 77)),
sq 79 (.bin .leq (.t 78) (kI 500)),
sq 6 (.mv (.t 79))])
 .ret))))⟩
theorem a43_ok:afn Try.prog 43=some a43.er:=by kernel_rfl
theorem F43_ok{x0 x1 x2 r}(h:F43 x0 x1 x2=some r):CallD Try.prog 43 [.c (dM (x0.map eObject)),.c (dI x1),.c (dI x2)] [] (tupV [.c (dB r)]) []:=by
 refine callS a43_ok (by simp[a43]) ?_
 rw[F43]at h
 simp only[a43,VW.down,Nat.reduceEqDiff,reduceCtorEq,Nat.reduceAdd,Nat.reduceLeDiff,Nat.reduceLT,Nat.reduceBEq,Nat.reduceSub,EE.down]
 refine t_mkmap1 (κ:=Int) (α:=Bool) (enc:=(fun x=> .v (.bool x))) (Value.int .i64) (ww ?_)
 obtain⟨o1,ho,h⟩:=bi h
 refine cutS (fun s=>∃po1,o1=Sum.inr po1∧s=⟨[(0,.one (.c (dM (x0.map eObject))))],[]⟩) ?_ ?_
 ·have h0o1:=h
  have h:=ho
  clear ho
  obtain⟨_,hk,h⟩:=bi h
  have hk:=ck_some hk
  refine ww ?_
  refine bL (fun j s=>∃(o1_1:Nat) (o1_0:List (Int×Bool)),(o1_1≤x0.length∧j=x0.length-o1_1)∧s=⟨[(0,.one (.c (dM (x0.map eObject)))),(1,.one (.c (dI x1))),(2,.one (.c (dI x2))),(7,.one (.c (.mref 0))),(12,.one (.c (dM (x0.map eObject)))),(13,.one (.c (dI ((x0.length:Int))))),(14,.one (.c (dI ((o1_1:Int)))))],[some (.map (eM1 (Value.int .i64) (fun x=> .v (.bool x)) o1_0))]⟩∧F43_l1 x0 x1 x2 (x0.drop o1_1) o1_1 o1_0=some o1) (x0.length-0) [some 0] ⟨0,[],⟨hk.1,rfl⟩,rfl,h⟩ ?_
  rintro _ _ ⟨o1_1,o1_0,⟨hi,rfl⟩,rfl,h⟩
  refine ww ?_
  refine condS (fun c2=>?_) (fun c2=>?_)
  ·obtain⟨xo1,hxo1,hd⟩:=countY (show(o1_1:Int)<(x0.length:Int)from c2)
   rw[hd,F43_l1]at h
   refine ww ?_
   refine t_idxF (enc:=eObject) (xs:=x0) rfl rfl hxo1 rfl (ww ?_)
   obtain⟨o3,ho,h⟩:=bi h
   refine cutS (fun s=>s=⟨[(0,.one (.c (dM (x0.map eObject)))),(1,.one (.c (dI x1))),(2,.one (.c (dI x2))),(7,.one (.c (.mref 0))),(10,.one (.c (.pt 1 0))),(12,.one (.c (dM (x0.map eObject)))),(13,.one (.c (dI ((x0.length:Int))))),(14,.one (.c (dI ((o1_1:Int))))),(72,.one (.c (dB o3)))],[some (.map (eM1 (Value.int .i64) (fun x=> .v (.bool x)) o1_0)),some (.box [dS xo1.Meta.Kind,dS xo1.Meta.Namespace,dS xo1.Meta.Name,dI xo1.Meta.Uid,dI xo1.Meta.Version,dI xo1.Meta.Generation,dI xo1.Meta.Created,dB xo1.Meta.Deleting,dI xo1.Meta.DeleteAt,dM (xo1.Meta.Labels.map eLabel),dM (xo1.Meta.Owners.map eOwner),dM (xo1.Meta.Finalizers.map eS),dM (xo1.Meta.Managers.map eManager)])]⟩) ?_ ?_
   ·have h:=ho
    clear ho
    refine ww ?_
    obtain⟨t4,ht4,h⟩:=bi h
    refine cN [] (F31_ok ht4) trivial (ww ?_)
    refine guardDBh h (fun g5 h=>?_) (fun g5 h=>?_)
    ·refine ww ?_
     cases h
     exact eM [some 0,some 2] rfl
    refine ww ?_
    refine guardDh h (fun g6 h=>?_) (fun g6 h=>?_)
    ·refine ww ?_
     obtain⟨t7,ht7,h⟩:=bi h
     refine cN [] (F33_ok ht7) trivial (ww ?_)
     obtain⟨y8,hy8,h⟩:=bi h
     refine t_idxF (enc:=eObject) (xs:=x0) rfl rfl hy8 rfl (ww ?_)
     obtain⟨t9,ht9,h⟩:=bi h
     refine cN [] (F33_ok ht9) trivial (ww ?_)
     refine guardDBh h (fun g10 h=>?_) (fun g10 h=>?_)
     ·refine ww ?_
      cases h
      exact eM [some 0,some 2] rfl
     refine ww ?_
     refine guardDh h (fun g11 h=>?_) (fun g11 h=>?_)
     ·refine ww ?_
      cases h
      exact eM [some 0,some 2] rfl
     refine ww ?_
     refine guardDh h (fun g12 h=>?_) (fun g12 h=>?_)
     ·refine ww ?_
      cases h
      exact eM [some 0,some 2] rfl
     refine ww ?_
     refine t_mget1 (enc:=(fun x=> .v (.bool x))) (l:=o1_0) (z:=false) kkI rfl rfl rfl rfl (ww ?_)
     refine guardDBh h (fun g13 h=>?_) (fun g13 h=>?_)
     ·refine ww ?_
      cases h
      exact eM [some 0,some 2] rfl
     refine ww ?_
     refine guardDh h (fun g14 h=>?_) (fun g14 h=>?_)
     ·refine ww ?_
      cases h
      exact eM [some 0,some 2] rfl
     refine ww ?_
     refine guardDh h (fun g15 h=>?_) (fun g15 h=>?_)
     ·refine ww ?_
      cases h
      exact eM [some 0,some 2] rfl
     refine ww ?_
     cases h
     exact eM [some 0,some 2] rfl
    refine ww ?_
    refine guardDh h (fun g16 h=>?_) (fun g16 h=>?_)
    ·refine ww ?_
     cases h
     exact eM [some 0,some 2] rfl
    refine ww ?_
    refine guardDh h (fun g17 h=>?_) (fun g17 h=>?_)
    ·refine ww ?_
     cases h
     exact eM [some 0,some 2] rfl
    refine ww ?_
    refine t_mget1 (enc:=(fun x=> .v (.bool x))) (l:=o1_0) (z:=false) kkI rfl rfl rfl rfl (ww ?_)
    refine guardDBh h (fun g18 h=>?_) (fun g18 h=>?_)
    ·refine ww ?_
     cases h
     exact eM [some 0,some 2] rfl
    refine ww ?_
    refine guardDh h (fun g19 h=>?_) (fun g19 h=>?_)
    ·refine ww ?_
     cases h
     exact eM [some 0,some 2] rfl
    refine ww ?_
    refine guardDh h (fun g20 h=>?_) (fun g20 h=>?_)
    ·refine ww ?_
     cases h
     exact eM [some 0,some 2] rfl
    refine ww ?_
    cases h
    exact eM [some 0,some 2] rfl
   rintro _ rfl
   clear ho
   refine ww ?_
   refine condBh h (fun c21 h=>?_) (fun c21 h=>?_)
   ·refine ww ?_
    obtain⟨fh0o1,hfh0o1,rfl⟩:=Option.map_eq_some_iff.1 h
    have h:=hfh0o1.trans h0o1
    cases h
    exact eF []
   refine ww ?_
   refine t_mset1 (enc:=(fun x=> .v (.bool x))) (l:=o1_0) (x:=true) kkI rfl rfl rfl rfl (ww ?_)
   rw[wrapN (by omega)]
   exact eL' (x0.length-(o1_1+1)) [some 0] ⟨o1_1+1,(putM xo1.Meta.Uid true o1_0),⟨by omega,rfl⟩,rfl,h⟩ (by omega)
  rw[countN (show¬((o1_1:Int)<(x0.length:Int))from c2),F43_l1]at h
  refine ww ?_
  cases h
  exact eM [] ⟨_,rfl,rfl⟩
 rintro _ ⟨po1,rfl,rfl⟩
 clear ho
 dsimp only at h
 refine ww ?_
 cases h
 exact eF []
end Go.Proofs.Ytbopaemngpbdgaa
