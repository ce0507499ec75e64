/- Each Go function as a function over typed data, and its walk. -/
import Derived.Test.YtdejhahgpojnoaaW0
import Derived.Test.YtdejhahgpojnoaaW5
import Derived.Test.YtdejhahgpojnoaaW6
namespace Go.Proofs.Ytdejhahgpojnoaa
open Go Go.Fw Go.Shelf
set_option maxRecDepth 100000
set_option maxHeartbeats 4000000
set_option linter.unusedSimpArgs false
set_option linter.unusedVariables false
def F23(x0:ByteArray)(x1:ByteArray):Option (Int):=(F43 x0 x1).bind fun t1=>some t1
def a23:AFn:=⟨8,[(.tmp 4)],
 (.seq (.reg [Qe 4 0])
 (.seq (.reg [Qa 5 0,
Qa 6 1,
Ql 7 43 5 6,
Qa 4 7])
 .ret))⟩
theorem F23_ok{x0 x1 r}(h:F23 x0 x1=some r):CallD Try.prog 23 [.c (dS x0),.c (dS x1)] [] (tupV [.c (dI r)]) []:=by
 rw[F23]at h
 refine zc a23 (by kernel_rfl) rfl (ww ?_)
 obtain⟨t1,ht1,h⟩:=bi h
 refine cN [] (F43_ok ht1) trivial (ww ?_)
 cases h
 exact eF []
def F22(x0:GcAction)(x1:GcAction):Option (Int):=(F23 x0.Key x1.Key).bind fun t1=>some t1
def a22:AFn:=⟨10,[(.tmp 4)],
 (.seq (.reg [Qg 2 0,
Qg 3 1,
Qe 4 0])
 (.seq (.reg [Qb 5 1 2,
Qd 6 5,
Qb 7 1 3,
Qd 8 7,
Ql 9 23 6 8,
Qa 4 9])
 .ret))⟩
theorem F22_ok{x0 x1 r}(h:F22 x0 x1=some r):CallD Try.prog 22 [.agg (bGcAction x0),.agg (bGcAction x1)] [] (tupV [.c (dI r)]) []:=by
 rw[F22]at h
 refine zc a22 (by kernel_rfl) rfl (ww ?_)
 obtain⟨t1,ht1,h⟩:=bi h
 refine cN [] (F23_ok ht1) trivial (ww ?_)
 cases h
 exact eF []
def F56_l3(x1:Int):Nat→(List GcAction)→Int→Option ((List GcAction))
 |0,_,_=>none
 |k+1,o3_0,o3_1=>(((if x1<o3_1 then(rdI o3_0 o3_1).bind fun y6=>(rdI o3_0 ((IntKind.i64.wrap (o3_1-1)))).bind fun y7=>(F22 y6 y7).bind fun t8=>some (decide (t8<0))else some false)).bind fun o4=>(if o4=true then(rdI o3_0 ((IntKind.i64.wrap (o3_1-1)))).bind fun y10=>(rdI o3_0 o3_1).bind fun y11=>(rdI o3_0 o3_1).bind fun y12=>(rdI ((o3_0.set o3_1.toNat y10)) ((IntKind.i64.wrap (o3_1-1)))).bind fun y13=>F56_l3 x1 k ((((o3_0.set o3_1.toNat y10)).set ((IntKind.i64.wrap (o3_1-1))).toNat y11)) ((IntKind.i64.wrap (o3_1-1)))else some o3_0))
def F56_l1(x1:Int)(x2:Int):Nat→(List GcAction)→Int→Option ((List GcAction))
 |0,_,_=>none
 |k+1,o1_0,o1_1=>(if o1_1<x2 then((F56_l3 x1 1099511627776 o1_0 o1_1).bind fun o3=>F56_l1 x1 x2 k o3 ((IntKind.i64.wrap (o1_1+1))))else some o1_0)
def F56i(x0:(List GcAction))(x1:Int)(x2:Int):Option ((List GcAction)):=((F56_l1 x1 x2 1099511627776 x0 ((IntKind.i64.wrap (x1+1)))).bind fun o1=>some o1)
def F56(x0:(List GcAction))(x1:Int)(x2:Int):Option ((List GcAction)):=(F56i x0 x1 x2).bind fun r=>if r.length=x0.length then some r else none
theorem F56_len0{x0:(List GcAction)}{x1:Int}{x2:Int}{r:(List GcAction)}(h:F56 x0 x1 x2=some r):r.length=x0.length:=(guard_some h).2
def a56:AFn:=⟨53,[],
 (.seq (.reg [Qa 10 1,
Qm 11 10 1,
Qa 8 11])
 (.sem (.block 0 (.loop (.seq (.seq (.reg [Qa 12 8,
Qa 13 2,
Qn 14 12 13])
 (.cond (.t 14)
 .skip
 (.exit 0)))
 (.seq (.block 1 (.seq (.reg [Qa 17 8,
Qa 9 17])
 (.sem (.block 2 (.loop (.seq (.seq (.sem (.regd [Qa 18 9,
Qa 19 1,
sd 20 (.bin .gtr (.t 18) (.t 19)) [0,1],
sd 21 (.mv (.t 20)) [0,1,2],
⟨(some 22),(some (21,true)),.mv (.t 3),[0,1,2,3],(.new [])⟩,
⟨(some 23),(some (21,true)),.mv (.t 0),[0,1,2,3],(.new [])⟩,
⟨(some 24),(some (21,true)),.mv (.t 9),[0,1,2,3],(.new [])⟩,
⟨(some 25),(some (21,true)),.indexA 5 (.t 23) (.t 24),[0,1,2,3,5,6],(.new [])⟩,
⟨(some 26),(some (21,true)),.load (some 5) (.t 25),[0,1,2,3,5,6,7],(.new [])⟩,
⟨(some 27),(some (21,true)),.mv (.t 0),[0,1,2,3],(.new [])⟩,
⟨(some 28),(some (21,true)),.mv (.t 9),[0,1,2,3],(.new [])⟩,
⟨(some 29),(some (21,true)),.bin .sub (.t 28) (kI 1),[0,1,2,3,10],(.new [])⟩,
⟨(some 30),(some (21,true)),.indexA 5 (.t 27) (.t 29),[0,1,2,3,9,10,11],(.new [])⟩,
⟨(some 31),(some (21,true)),.load (some 5) (.t 30),[0,1,2,3,9,10,11,12],(.new [])⟩,
⟨(some 32),(some (21,true)),.callv (.t 22) [(.t 26),(.t 31)],[0,1,2,3,4,5,6,7,8,9,10,11,12,13],(.lone [])⟩,
⟨(some 33),(some (21,true)),.bin .lss (.t 32) (kI 0),[0,1,2,3,4,5,6,7,8,9,10,11,12,13,14],(.new [])⟩,
zl 34 (.pick (.t 21) (.t 33) (kB false)) [0,1,2,3,4,5,6,7,8,9,10,11,12,13,14,15] []]))
 (.cond (.t 34)
 .skip
 (.exit 2)))
 (.seq (.block 3 (.regd [Qa 37 0,
Qa 38 9,
Qa 39 0,
Qa 40 9,
sd 41 (.bin .sub (.t 40) (kI 1)) [3],
Qa 42 0,
Qa 43 9,
sd 44 (.bin .sub (.t 43) (kI 1)) [6],
sd 45 (.indexA 5 (.t 42) (.t 44)) [5,6,7],
sd 46 (.load (some 5) (.t 45)) [5,6,7,8],
Qa 47 0,
Qa 48 9,
sd 49 (.indexA 5 (.t 47) (.t 48)) [10,11],
sd 50 (.load (some 5) (.t 49)) [10,11,12],
sd 51 (.indexA 5 (.t 37) (.t 38)) [0,1,5,6,7,8,9,10,11,12,13],
⟨none,none,.store 5 (.t 51) (.t 46),[0,1,5,6,7,8,9,10,11,12,13,14],(.lone [])⟩,
sd 52 (.indexA 5 (.t 39) (.t 41)) [0,1,2,3,4,5,6,7,8,9,10,11,12,13,14,15],
⟨none,none,.store 5 (.t 52) (.t 50),[0,1,2,3,4,5,6,7,8,9,10,11,12,13,14,15,16],(.lone [])⟩]))
 (.reg [Qa 35 9,
sq 36 (.bin .sub (.t 35) (kI 1)),
Qa 9 36]))))))))
 (.reg [Qa 15 8,
Qm 16 15 1,
Qa 8 16])))))))⟩
theorem F56_ok{x0 x1 x2 r}{e0:Nat}(h:F56 x0 x1 x2=some r):CallD Try.prog 56 [.c (.own 0 e0 0 (x0.length) none),.c (dI x1),.c (dI x2),.c (.fn 22 [])] [some (.arr e0 5 (x0.map eGcAction))] (tupV []) [some (.arr e0 5 (r.map eGcAction))]:=by
 replace h:=(guard_some h).1
 rw[F56i]at h
 refine zc a56 (by kernel_rfl) rfl (ww ?_)
 obtain⟨o1,ho,h⟩:=bi h
 refine cutS (fun s=>s=⟨[],[some (.arr e0 5 (o1.map eGcAction))]⟩) ?_ ?_
 ·have h:=ho
  clear ho
  refine ww ?_
  refine bL (fun j s=>∃(o1_0:List GcAction) (o1_1:Int),s=⟨[(0,oc (.own 0 e0 0 (o1_0.length) none)),(1,oc (dI x1)),(2,oc (dI x2)),(3,oc (.fn 22 [])),(8,oc (dI o1_1))],[some (.arr e0 5 (o1_0.map eGcAction))]⟩∧F56_l1 x1 x2 j o1_0 o1_1=some o1) 1099511627776 [some 0] ⟨x0,(IntKind.i64.wrap (x1+1)),rfl,h⟩ ?_
  rintro j _ ⟨o1_0,o1_1,rfl,h⟩
  cases j with
  |zero=>cases(show(none:Option _)=some _ from h)
  |succ j=>
   rw[F56_l1]at h
   refine ww ?_
   refine condSh h (fun c2 h=>ww ?_) (fun c2 h=>?_)
   ·obtain⟨o3,ho,h⟩:=bi h
    refine cutS (fun s=>s=⟨[(0,oc (.own 0 e0 0 (o3.length) none)),(1,oc (dI x1)),(2,oc (dI x2)),(3,oc (.fn 22 [])),(8,oc (dI o1_1))],[some (.arr e0 5 (o3.map eGcAction))]⟩) ?_ ?_
    ·have h:=ho
     clear ho
     refine ww ?_
     refine bL (fun j s=>∃(o3_0:List GcAction) (o3_1:Int),s=⟨[(0,oc (.own 0 e0 0 (o3_0.length) none)),(1,oc (dI x1)),(2,oc (dI x2)),(3,oc (.fn 22 [])),(8,oc (dI o1_1)),(9,oc (dI o3_1))],[some (.arr e0 5 (o3_0.map eGcAction))]⟩∧F56_l3 x1 j o3_0 o3_1=some o3) 1099511627776 [some 0] ⟨o1_0,o1_1,rfl,h⟩ ?_
     rintro j _ ⟨o3_0,o3_1,rfl,h⟩
     cases j with
     |zero=>cases(show(none:Option _)=some _ from h)
     |succ j=>
      rw[F56_l3]at h
      refine ww ?_
      obtain⟨o4,ho,h⟩:=bi h
      refine cutS (fun s=>s=⟨[(0,oc (.own 0 e0 0 (o3_0.length) none)),(1,oc (dI x1)),(2,oc (dI x2)),(3,oc (.fn 22 [])),(8,oc (dI o1_1)),(9,oc (dI o3_1)),(34,oc (dB o4))],[some (.arr e0 5 (o3_0.map eGcAction))]⟩) ?_ ?_
      ·have h:=ho
       clear ho
       refine ww ?_
       refine guardDh h (fun g5 h=>ww ?_) (fun g5 h=>?_)
       ·obtain⟨y6,hy6,h⟩:=bi h
        refine t_idxO (enc:=eGcAction) (xs:=o3_0) rfl rfl rfl (by first|rfl|simp only[List.length_set]|exact(clrL_len (slI_len (by assumption))).symm) hy6 (ww ?_)
        refine LdRow.rd (rdI_some hy6).2.1 (ww ?_)
        obtain⟨y7,hy7,h⟩:=bi h
        refine t_idxO (enc:=eGcAction) (xs:=o3_0) rfl rfl rfl (by first|rfl|simp only[List.length_set]|exact(clrL_len (slI_len (by assumption))).symm) hy7 (ww ?_)
        refine LdRow.rd (rdI_some hy7).2.1 (ww ?_)
        obtain⟨t8,ht8,h⟩:=bi h
        refine cN [] (F22_ok ht8) trivial (ww ?_)
        cases h
        exact eM [some 0] rfl
       ·refine ww ?_
        cases h
        exact eM [some 0] rfl
      ·rintro _ rfl
       clear ho
       refine ww ?_
       refine condBh h (fun c9 h=>ww ?_) (fun c9 h=>?_)
       ·obtain⟨y10,hy10,h⟩:=bi h
        refine t_idxO (enc:=eGcAction) (xs:=o3_0) rfl rfl rfl (by first|rfl|simp only[List.length_set]|exact(clrL_len (slI_len (by assumption))).symm) hy10 (ww ?_)
        refine LdRow.rd (rdI_some hy10).2.1 (ww ?_)
        obtain⟨y11,hy11,h⟩:=bi h
        refine t_idxO (enc:=eGcAction) (xs:=o3_0) rfl rfl rfl (by first|rfl|simp only[List.length_set]|exact(clrL_len (slI_len (by assumption))).symm) hy11 (ww ?_)
        refine LdRow.rd (rdI_some hy11).2.1 (ww ?_)
        obtain⟨y12,hy12,h⟩:=bi h
        refine t_idxO (enc:=eGcAction) (xs:=o3_0) rfl rfl rfl (by first|rfl|simp only[List.length_set]|exact(clrL_len (slI_len (by assumption))).symm) hy12 (ww ?_)
        refine StRow.rd (y':=y10) (rdI_some hy12).2.1 (by simp[EE.down]) (by first|rfl|(simp only[bor_full'];rfl)) (ww ?_)
        obtain⟨y13,hy13,h⟩:=bi h
        refine t_idxO (enc:=eGcAction) (xs:=((o3_0.set o3_1.toNat y10))) rfl rfl rfl (by first|rfl|simp only[List.length_set]|exact(clrL_len (slI_len (by assumption))).symm) hy13 (ww ?_)
        refine StRow.rd (y':=y11) (rdI_some hy13).2.1 (by simp[EE.down]) (by first|rfl|(simp only[bor_full'];rfl)) (ww ?_)
        exact eL' j [some 0] ⟨(((o3_0.set o3_1.toNat y10)).set ((IntKind.i64.wrap (o3_1-1))).toNat y11),(IntKind.i64.wrap (o3_1-1)),rfl,h⟩ (Nat.lt_succ_self _)
       ·refine ww ?_
        cases h
        exact eM [some 0] rfl
    ·rintro _ rfl
     clear ho
     refine ww ?_
     exact eL' j [some 0] ⟨o3,(IntKind.i64.wrap (o1_1+1)),rfl,h⟩ (Nat.lt_succ_self _)
   ·refine ww ?_
    cases h
    exact eM [some 0] rfl
 rintro _ rfl
 clear ho
 refine ww ?_
 cases h
 exact eF [some 0]
def F57_l2(x0:(List GcAction))(x1:Int):Nat→Int→Int→Option (Int)
 |0,_,_=>none
 |k+1,o2_0,o2_1=>(if o2_0<o2_1 then(rdI x0 ((IntKind.i64.wrap ((shrV .u64 ((IntKind.u64.wrap ((IntKind.i64.wrap (o2_0+o2_1))))) 1))))).bind fun y4=>(rdI x0 x1).bind fun y5=>(F22 y4 y5).bind fun t6=>(if t6<0 then F57_l2 x0 x1 k ((IntKind.i64.wrap (((IntKind.i64.wrap ((shrV .u64 ((IntKind.u64.wrap ((IntKind.i64.wrap (o2_0+o2_1))))) 1))))+1))) o2_1 else F57_l2 x0 x1 k o2_0 ((IntKind.i64.wrap ((shrV .u64 ((IntKind.u64.wrap ((IntKind.i64.wrap (o2_0+o2_1))))) 1)))))else some o2_0)
def F57_l8(o2:Int):Nat→(List GcAction)→Int→Option ((List GcAction))
 |0,_,_=>none
 |k+1,o8_0,o8_1=>(if o8_1<(IntKind.i64.wrap (o2-1))then(rdI o8_0 ((IntKind.i64.wrap (o8_1+1)))).bind fun y10=>(rdI o8_0 o8_1).bind fun y11=>(rdI o8_0 o8_1).bind fun y12=>(rdI ((o8_0.set o8_1.toNat y10)) ((IntKind.i64.wrap (o8_1+1)))).bind fun y13=>F57_l8 o2 k ((((o8_0.set o8_1.toNat y10)).set ((IntKind.i64.wrap (o8_1+1))).toNat y11)) ((IntKind.i64.wrap (o8_1+1)))else some o8_0)
def F57_l15(x0:(List GcAction))(x2:Int):Nat→Int→Int→Option (Int)
 |0,_,_=>none
 |k+1,o15_0,o15_1=>(if o15_0<o15_1 then(rdI x0 x2).bind fun y17=>(rdI x0 ((IntKind.i64.wrap ((shrV .u64 ((IntKind.u64.wrap ((IntKind.i64.wrap (o15_0+o15_1))))) 1))))).bind fun y18=>(F22 y17 y18).bind fun t19=>(if¬(t19<0)then F57_l15 x0 x2 k ((IntKind.i64.wrap (((IntKind.i64.wrap ((shrV .u64 ((IntKind.u64.wrap ((IntKind.i64.wrap (o15_0+o15_1))))) 1))))+1))) o15_1 else F57_l15 x0 x2 k o15_0 ((IntKind.i64.wrap ((shrV .u64 ((IntKind.u64.wrap ((IntKind.i64.wrap (o15_0+o15_1))))) 1)))))else some o15_0)
def F57_l21(o15:Int):Nat→(List GcAction)→Int→Option ((List GcAction))
 |0,_,_=>none
 |k+1,o21_0,o21_1=>(if o15<o21_1 then(rdI o21_0 ((IntKind.i64.wrap (o21_1-1)))).bind fun y23=>(rdI o21_0 o21_1).bind fun y24=>(rdI o21_0 o21_1).bind fun y25=>(rdI ((o21_0.set o21_1.toNat y23)) ((IntKind.i64.wrap (o21_1-1)))).bind fun y26=>F57_l21 o15 k ((((o21_0.set o21_1.toNat y23)).set ((IntKind.i64.wrap (o21_1-1))).toNat y24)) ((IntKind.i64.wrap (o21_1-1)))else some o21_0)
def F57_l29(x0:(List GcAction))(x1:Int)(x2:Int)(x3:Int):Nat→Int→Int→Option (Int)
 |0,_,_=>none
 |k+1,o29_0,o29_1=>(if o29_0<o29_1 then(rdI x0 ((IntKind.i64.wrap (((IntKind.i64.wrap (((IntKind.i64.wrap (((IntKind.i64.wrap ((shrV .u64 ((IntKind.u64.wrap ((IntKind.i64.wrap (x1+x3))))) 1))))+x2)))-1)))-((IntKind.i64.wrap ((shrV .u64 ((IntKind.u64.wrap ((IntKind.i64.wrap (o29_0+o29_1))))) 1)))))))).bind fun y31=>(rdI x0 ((IntKind.i64.wrap ((shrV .u64 ((IntKind.u64.wrap ((IntKind.i64.wrap (o29_0+o29_1))))) 1))))).bind fun y32=>(F22 y31 y32).bind fun t33=>(if¬(t33<0)then F57_l29 x0 x1 x2 x3 k ((IntKind.i64.wrap (((IntKind.i64.wrap ((shrV .u64 ((IntKind.u64.wrap ((IntKind.i64.wrap (o29_0+o29_1))))) 1))))+1))) o29_1 else F57_l29 x0 x1 x2 x3 k o29_0 ((IntKind.i64.wrap ((shrV .u64 ((IntKind.u64.wrap ((IntKind.i64.wrap (o29_0+o29_1))))) 1)))))else some o29_0)
def F57i(rc41:(List GcAction)→Int→Int→Int→Option ((List GcAction)))(x0:(List GcAction))(x1:Int)(x2:Int)(x3:Int):Option ((List GcAction)):=(if(IntKind.i64.wrap (x2-x1))=1 then((F57_l2 x0 x1 1099511627776 x2 x3).bind fun o2=>((F57_l8 o2 1099511627776 x0 x1).bind fun o8=>some o8))else(if(IntKind.i64.wrap (x3-x2))=1 then((F57_l15 x0 x2 1099511627776 x1 x2).bind fun o15=>((F57_l21 o15 1099511627776 x0 x2).bind fun o21=>some o21))else(((if(IntKind.i64.wrap ((shrV .u64 ((IntKind.u64.wrap ((IntKind.i64.wrap (x1+x3))))) 1)))<x2 then some (((IntKind.i64.wrap (((IntKind.i64.wrap (((IntKind.i64.wrap ((shrV .u64 ((IntKind.u64.wrap ((IntKind.i64.wrap (x1+x3))))) 1))))+x2)))-x3)),(IntKind.i64.wrap ((shrV .u64 ((IntKind.u64.wrap ((IntKind.i64.wrap (x1+x3))))) 1)))))else some ((x1,x2)))).bind fun o27=>((F57_l29 x0 x1 x2 x3 1099511627776 o27.1 o27.2).bind fun o29=>(((((if o29<x2 then some (decide (x2<(IntKind.i64.wrap (((IntKind.i64.wrap (((IntKind.i64.wrap ((shrV .u64 ((IntKind.u64.wrap ((IntKind.i64.wrap (x1+x3))))) 1))))+x2)))-o29))))else some false)).bind fun o36=>(if o36=true then(F71 x0 o29 x2 ((IntKind.i64.wrap (((IntKind.i64.wrap (((IntKind.i64.wrap ((shrV .u64 ((IntKind.u64.wrap ((IntKind.i64.wrap (x1+x3))))) 1))))+x2)))-o29)))).bind fun t39=>some t39 else some x0))).bind fun o35=>(((((if x1<o29 then some (decide (o29<(IntKind.i64.wrap ((shrV .u64 ((IntKind.u64.wrap ((IntKind.i64.wrap (x1+x3))))) 1)))))else some false)).bind fun o41=>(if o41=true then(rc41 o35 x1 o29 ((IntKind.i64.wrap ((shrV .u64 ((IntKind.u64.wrap ((IntKind.i64.wrap (x1+x3))))) 1))))).bind fun t44=>some t44 else some o35))).bind fun o40=>(((if(IntKind.i64.wrap ((shrV .u64 ((IntKind.u64.wrap ((IntKind.i64.wrap (x1+x3))))) 1)))<(IntKind.i64.wrap (((IntKind.i64.wrap (((IntKind.i64.wrap ((shrV .u64 ((IntKind.u64.wrap ((IntKind.i64.wrap (x1+x3))))) 1))))+x2)))-o29))then some (decide ((IntKind.i64.wrap (((IntKind.i64.wrap (((IntKind.i64.wrap ((shrV .u64 ((IntKind.u64.wrap ((IntKind.i64.wrap (x1+x3))))) 1))))+x2)))-o29))<x3))else some false)).bind fun o45=>(if o45=true then(rc41 o40 ((IntKind.i64.wrap ((shrV .u64 ((IntKind.u64.wrap ((IntKind.i64.wrap (x1+x3))))) 1)))) ((IntKind.i64.wrap (((IntKind.i64.wrap (((IntKind.i64.wrap ((shrV .u64 ((IntKind.u64.wrap ((IntKind.i64.wrap (x1+x3))))) 1))))+x2)))-o29))) x3).bind fun t48=>some t48 else some o40))))))))
def F57(rc41:(List GcAction)→Int→Int→Int→Option ((List GcAction)))(x0:(List GcAction))(x1:Int)(x2:Int)(x3:Int):Option ((List GcAction)):=(F57i rc41 x0 x1 x2 x3).bind fun r=>if r.length=x0.length then some r else none
theorem F57_len0{rc41:(List GcAction)→Int→Int→Int→Option ((List GcAction))}{x0:(List GcAction)}{x1:Int}{x2:Int}{x3:Int}{r:(List GcAction)}(h:F57 rc41 x0 x1 x2 x3=some r):r.length=x0.length:=(guard_some h).2
def a57:AFn:=⟨220,[],
 (.seq (.seq (.reg [Qa 25 2,
Qa 26 1,
sq 27 (.bin .sub (.t 25) (.t 26)),
Qr 28 27 1])
 (.cond (.t 28)
 (.seq (.reg [Qa 29 2,
Qa 10 29])
 (.seq (.reg [Qa 30 3,
Qa 11 30])
 (.seq (.sem (.block 0 (.loop (.seq (.seq (.reg [Qa 31 10,
Qa 32 11,
Qn 33 31 32])
 (.cond (.t 33)
 .skip
 (.exit 0)))
 (.block 1 (.seq (.reg [Qa 34 10,
Qa 35 11,
sq 36 (.bin .add (.t 34) (.t 35)),
sq 37 (.conv .u64 (.t 36)),
sq 38 (.bin .shr (.t 37) (.k (.c (.d (.v (.int .u64 1)))))),
sq 39 (.conv .i64 (.t 38)),
Qa 12 39])
 (.seq (.regd [Qa 40 4,
Qa 41 0,
Qa 42 12,
sd 43 (.indexA 5 (.t 41) (.t 42)) [1,2],
sd 44 (.load (some 5) (.t 43)) [1,2,3],
Qa 45 0,
Qa 46 1,
sd 47 (.indexA 5 (.t 45) (.t 46)) [5,6],
sd 48 (.load (some 5) (.t 47)) [5,6,7],
zl 49 (.callv (.t 40) [(.t 44),(.t 48)]) [0,1,2,3,4,5,6,7,8] [],
sd 50 (.bin .lss (.t 49) (kI 0)) [0,1,2,3,4,5,6,7,8,9]])
 (.cond (.t 50)
 (.reg [Qa 51 12,
Qm 52 51 1,
Qa 10 52])
 (.reg [Qa 53 12,
Qa 11 53])))))))))
 (.seq (.seq (.reg [Qa 54 1,
Qa 13 54])
 (.sem (.block 2 (.loop (.seq (.seq (.reg [Qa 55 13,
Qa 56 10,
sq 57 (.bin .sub (.t 56) (kI 1)),
Qn 58 55 57])
 (.cond (.t 58)
 .skip
 (.exit 2)))
 (.seq (.block 3 (.regd [Qa 61 0,
Qa 62 13,
Qa 63 0,
Qa 64 13,
sd 65 (.bin .add (.t 64) (kI 1)) [3],
Qa 66 0,
Qa 67 13,
sd 68 (.bin .add (.t 67) (kI 1)) [6],
sd 69 (.indexA 5 (.t 66) (.t 68)) [5,6,7],
sd 70 (.load (some 5) (.t 69)) [5,6,7,8],
Qa 71 0,
Qa 72 13,
sd 73 (.indexA 5 (.t 71) (.t 72)) [10,11],
sd 74 (.load (some 5) (.t 73)) [10,11,12],
sd 75 (.indexA 5 (.t 61) (.t 62)) [0,1,5,6,7,8,9,10,11,12,13],
⟨none,none,.store 5 (.t 75) (.t 70),[0,1,5,6,7,8,9,10,11,12,13,14],(.lone [])⟩,
sd 76 (.indexA 5 (.t 63) (.t 65)) [0,1,2,3,4,5,6,7,8,9,10,11,12,13,14,15],
⟨none,none,.store 5 (.t 76) (.t 74),[0,1,2,3,4,5,6,7,8,9,10,11,12,13,14,15,16],(.lone [])⟩]))
 (.reg [Qa 59 13,
Qm 60 59 1,
Qa 13 60])))))))
 .ret))))
 .skip))
 (.seq (.seq (.reg [Qa 77 3,
Qa 78 2,
sq 79 (.bin .sub (.t 77) (.t 78)),
Qr 80 79 1])
 (.cond (.t 80)
 (.seq (.reg [Qa 81 1,
Qa 14 81])
 (.seq (.reg [Qa 82 2,
Qa 15 82])
 (.seq (.sem (.block 4 (.loop (.seq (.seq (.reg [Qa 83 14,
Qa 84 15,
Qn 85 83 84])
 (.cond (.t 85)
 .skip
 (.exit 4)))
 (.block 5 (.seq (.reg [Qa 86 14,
Qa 87 15,
sq 88 (.bin .add (.t 86) (.t 87)),
sq 89 (.conv .u64 (.t 88)),
sq 90 (.bin .shr (.t 89) (.k (.c (.d (.v (.int .u64 1)))))),
sq 91 (.conv .i64 (.t 90)),
Qa 16 91])
 (.seq (.regd [Qa 92 4,
Qa 93 0,
Qa 94 2,
sd 95 (.indexA 5 (.t 93) (.t 94)) [1,2],
sd 96 (.load (some 5) (.t 95)) [1,2,3],
Qa 97 0,
Qa 98 16,
sd 99 (.indexA 5 (.t 97) (.t 98)) [5,6],
sd 100 (.load (some 5) (.t 99)) [5,6,7],
zl 101 (.callv (.t 92) [(.t 96),(.t 100)]) [0,1,2,3,4,5,6,7,8] [],
sd 102 (.bin .lss (.t 101) (kI 0)) [0,1,2,3,4,5,6,7,8,9],
sd 103 (.not (.t 102)) [0,1,2,3,4,5,6,7,8,9,10]])
 (.cond (.t 103)
 (.reg [Qa 104 16,
Qm 105 104 1,
Qa 14 105])
 (.reg [Qa 106 16,
Qa 15 106])))))))))
 (.seq (.seq (.reg [Qa 107 2,
Qa 17 107])
 (.sem (.block 6 (.loop (.seq (.seq (.reg [Qa 108 17,
Qa 109 14,
sq 110 (.bin .gtr (.t 108) (.t 109))])
 (.cond (.t 110)
 .skip
 (.exit 6)))
 (.seq (.block 7 (.regd [Qa 113 0,
Qa 114 17,
Qa 115 0,
Qa 116 17,
sd 117 (.bin .sub (.t 116) (kI 1)) [3],
Qa 118 0,
Qa 119 17,
sd 120 (.bin .sub (.t 119) (kI 1)) [6],
sd 121 (.indexA 5 (.t 118) (.t 120)) [5,6,7],
sd 122 (.load (some 5) (.t 121)) [5,6,7,8],
Qa 123 0,
Qa 124 17,
sd 125 (.indexA 5 (.t 123) (.t 124)) [10,11],
sd 126 (.load (some 5) (.t 125)) [10,11,12],
sd 127 (.indexA 5 (.t 113) (.t 114)) [0,1,5,6,7,8,9,10,11,12,13],
⟨none,none,.store 5 (.t 127) (.t 122),[0,1,5,6,7,8,9,10,11,12,13,14],(.lone [])⟩,
sd 128 (.indexA 5 (.t 115) (.t 117)) [0,1,2,3,4,5,6,7,8,9,10,11,12,13,14,15],
⟨none,none,.store 5 (.t 128) (.t 126),[0,1,2,3,4,5,6,7,8,9,10,11,12,13,14,15,16],(.lone [])⟩]))
 (.reg [Qa 111 17,
sq 112 (.bin .sub (.t 111) (kI 1)),
Qa 17 112])))))))
 .ret))))
 .skip))
 (.seq (.reg [Qa 129 1,
Qa 130 3,
sq 131 (.bin .add (.t 129) (.t 130)),
sq 132 (.conv .u64 (.t 131)),
sq 133 (.bin .shr (.t 132) (.k (.c (.d (.v (.int .u64 1)))))),
sq 134 (.conv .i64 (.t 133)),
Qa 18 134])
 (.seq (.reg [Qa 135 18,
Qa 136 2,
sq 137 (.bin .add (.t 135) (.t 136)),
Qa 19 137])
 (.seq (.reg [Qe 20 0,
Qe 21 0])
 (.seq (.sem (.seq (.reg [Qa 138 2,
Qa 139 18,
sq 140 (.bin .gtr (.t 138) (.t 139))])
 (.cond (.t 140)
 (.seq (.reg [Qa 141 19,
Qa 142 3,
sq 143 (.bin .sub (.t 141) (.t 142)),
Qa 20 143])
 (.reg [Qa 144 18,
Qa 21 144]))
 (.seq (.reg [Qa 145 1,
Qa 20 145])
 (.reg [Qa 146 2,
Qa 21 146])))))
 (.seq (.reg [Qa 147 19,
sq 148 (.bin .sub (.t 147) (kI 1)),
Qa 22 148])
 (.seq (.sem (.block 8 (.loop (.seq (.seq (.reg [Qa 149 20,
Qa 150 21,
Qn 151 149 150])
 (.cond (.t 151)
 .skip
 (.exit 8)))
 (.block 9 (.seq (.reg [Qa 152 20,
Qa 153 21,
sq 154 (.bin .add (.t 152) (.t 153)),
sq 155 (.conv .u64 (.t 154)),
sq 156 (.bin .shr (.t 155) (.k (.c (.d (.v (.int .u64 1)))))),
sq 157 (.conv .i64 (.t 156)),
Qa 23 157])
 (.seq (.regd [Qa 158 4,
Qa 159 0,
Qa 160 22,
Qa 161 23,
sd 162 (.bin .sub (.t 160) (.t 161)) [2,3],
sd 163 (.indexA 5 (.t 159) (.t 162)) [1,2,3,4],
sd 164 (.load (some 5) (.t 163)) [1,2,3,4,5],
Qa 165 0,
Qa 166 23,
sd 167 (.indexA 5 (.t 165) (.t 166)) [7,8],
sd 168 (.load (some 5) (.t 167)) [7,8,9],
zl 169 (.callv (.t 158) [(.t 164),(.t 168)]) [0,1,2,3,4,5,6,7,8,9,10] [],
sd 170 (.bin .lss (.t 169) (kI 0)) [0,1,2,3,4,5,6,7,8,9,10,11],
sd 171 (.not (.t 170)) [0,1,2,3,4,5,6,7,8,9,10,11,12]])
 (.cond (.t 171)
 (.reg [Qa 172 23,
Qm 173 172 1,
Qa 20 173])
 (.reg [Qa 174 23,
Qa 21 174])))))))))
 (.seq (.reg [Qa 175 19,
Qa 176 20,
sq 177 (.bin .sub (.t 175) (.t 176)),
Qa 24 177])
 (.seq (.sem (.seq (.sem (.reg [Qa 178 20,
Qa 179 2,
Qn 180 178 179,
Qa 181 180,
Qv 182 181 true 2,
Qv 183 181 true 24,
zg 184 181 true (.bin .lss (.t 182) (.t 183)),
zl 185 (.pick (.t 181) (.t 184) (kB false)) [] []]))
 (.cond (.t 185)
 (.reg [Qa 186 0,
Qa 187 20,
Qa 188 2,
Qa 189 24,
Qa 190 4,
zl 191 (.call 71 [(.t 186),(.t 187),(.t 188),(.t 189),(.t 190)]) [] []])
 .skip)))
 (.seq (.sem (.seq (.sem (.reg [Qa 192 1,
Qa 193 20,
Qn 194 192 193,
Qa 195 194,
Qv 196 195 true 20,
Qv 197 195 true 18,
zg 198 195 true (.bin .lss (.t 196) (.t 197)),
zl 199 (.pick (.t 195) (.t 198) (kB false)) [] []]))
 (.cond (.t 199)
 (.reg [Qa 200 0,
Qa 201 1,
Qa 202 20,
Qa 203 18,
Qa 204 4,
zl 205 (.call 57 [(.t 200),(.t 201),(.t 202),(.t 203),(.t 204)]) [] []])
 .skip)))
 (.seq (.sem (.reg [Qa 206 18,
Qa 207 24,
Qn 208 206 207,
Qa 209 208,
Qv 210 209 true 24,
Qv 211 209 true 3,
zg 212 209 true (.bin .lss (.t 210) (.t 211)),
zl 213 (.pick (.t 209) (.t 212) (kB false)) [] []]))
 (.cond (.t 213)
 (.reg [Qa 214 0,
Qa 215 18,
Qa 216 24,
Qa 217 3,
Qa 218 4,
zl 219 (.call 57 [(.t 214),(.t 215),(.t 216),(.t 217),(.t 218)]) [] []])
 .skip)))))))))))))⟩
theorem F57_ok{rc41:(List GcAction)→Int→Int→Int→Option ((List GcAction))}(ih41:∀{x0:(List GcAction)} {x1:Int} {x2:Int} {x3:Int} {r:(List GcAction)} {e0:Nat} (h:rc41 x0 x1 x2 x3=some r),CallD Try.prog 57 [.c (.own 0 e0 0 (x0.length) none),.c (dI x1),.c (dI x2),.c (dI x3),.c (.fn 22 [])] [some (.arr e0 5 (x0.map eGcAction))] (tupV []) [some (.arr e0 5 (r.map eGcAction))])(il41_len0:∀{x0:(List GcAction)} {x1:Int} {x2:Int} {x3:Int} {r:(List GcAction)} (h:rc41 x0 x1 x2 x3=some r),r.length=x0.length){x0:(List GcAction)}{x1:Int}{x2:Int}{x3:Int}{r:(List GcAction)}{e0:Nat}(h:F57 rc41 x0 x1 x2 x3=some r):CallD Try.prog 57 [.c (.own 0 e0 0 (x0.length) none),.c (dI x1),.c (dI x2),.c (dI x3),.c (.fn 22 [])] [some (.arr e0 5 (x0.map eGcAction))] (tupV []) [some (.arr e0 5 (r.map eGcAction))]:=by
 replace h:=(guard_some h).1
 rw[F57i]at h
 refine zc a57 (by kernel_rfl) rfl (ww ?_)
 refine condSh h (fun c1 h=>ww ?_) (fun c1 h=>ww ?_)
 ·obtain⟨o2,ho,h⟩:=bi h
  refine cutS (fun s=>s=⟨[(0,oc (.own 0 e0 0 (x0.length) none)),(1,oc (dI x1)),(10,oc (dI o2))],[some (.arr e0 5 (x0.map eGcAction))]⟩) ?_ ?_
  ·have h:=ho
   clear ho
   refine ww ?_
   refine bL (fun j s=>∃(o2_0:Int) (o2_1:Int),s=⟨[(0,oc (.own 0 e0 0 (x0.length) none)),(1,oc (dI x1)),(4,oc (.fn 22 [])),(10,oc (dI o2_0)),(11,oc (dI o2_1))],[some (.arr e0 5 (x0.map eGcAction))]⟩∧F57_l2 x0 x1 j o2_0 o2_1=some o2) 1099511627776 [some 0] ⟨x2,x3,rfl,h⟩ ?_
   rintro j _ ⟨o2_0,o2_1,rfl,h⟩
   cases j with
   |zero=>cases(show(none:Option _)=some _ from h)
   |succ j=>
    rw[F57_l2]at h
    refine ww ?_
    refine condSh h (fun c3 h=>ww ?_) (fun c3 h=>?_)
    ·refine⟨by decide,?_⟩
     refine ww ?_
     obtain⟨y4,hy4,h⟩:=bi h
     refine t_idxO (enc:=eGcAction) (xs:=x0) rfl rfl rfl (by first|rfl|simp only[List.length_set]|exact(clrL_len (slI_len (by assumption))).symm) hy4 (ww ?_)
     refine LdRow.rd (rdI_some hy4).2.1 (ww ?_)
     obtain⟨y5,hy5,h⟩:=bi h
     refine t_idxO (enc:=eGcAction) (xs:=x0) rfl rfl rfl (by first|rfl|simp only[List.length_set]|exact(clrL_len (slI_len (by assumption))).symm) hy5 (ww ?_)
     refine LdRow.rd (rdI_some hy5).2.1 (ww ?_)
     obtain⟨t6,ht6,h⟩:=bi h
     refine cN [] (F22_ok ht6) trivial (ww ?_)
     refine condSh h (fun c7 h=>ww ?_) (fun c7 h=>?_)
     ·exact eL' j [some 0] ⟨(IntKind.i64.wrap (((IntKind.i64.wrap ((shrV .u64 ((IntKind.u64.wrap ((IntKind.i64.wrap (o2_0+o2_1))))) 1))))+1)),o2_1,rfl,h⟩ (Nat.lt_succ_self _)
     ·refine ww ?_
      exact eL' j [some 0] ⟨o2_0,(IntKind.i64.wrap ((shrV .u64 ((IntKind.u64.wrap ((IntKind.i64.wrap (o2_0+o2_1))))) 1))),rfl,h⟩ (Nat.lt_succ_self _)
    ·refine ww ?_
     cases h
     exact eM [some 0] rfl
  rintro _ rfl
  clear ho
  refine ww ?_
  obtain⟨o8,ho,h⟩:=bi h
  refine cutS (fun s=>s=⟨[],[some (.arr e0 5 (o8.map eGcAction))]⟩) ?_ ?_
  ·have h:=ho
   clear ho
   refine ww ?_
   refine bL (fun j s=>∃(o8_0:List GcAction) (o8_1:Int),s=⟨[(0,oc (.own 0 e0 0 (o8_0.length) none)),(10,oc (dI o2)),(13,oc (dI o8_1))],[some (.arr e0 5 (o8_0.map eGcAction))]⟩∧F57_l8 o2 j o8_0 o8_1=some o8) 1099511627776 [some 0] ⟨x0,x1,rfl,h⟩ ?_
   rintro j _ ⟨o8_0,o8_1,rfl,h⟩
   cases j with
   |zero=>cases(show(none:Option _)=some _ from h)
   |succ j=>
    rw[F57_l8]at h
    refine ww ?_
    refine condSh h (fun c9 h=>ww ?_) (fun c9 h=>?_)
    ·obtain⟨y10,hy10,h⟩:=bi h
     refine t_idxO (enc:=eGcAction) (xs:=o8_0) rfl rfl rfl (by first|rfl|simp only[List.length_set]|exact(clrL_len (slI_len (by assumption))).symm) hy10 (ww ?_)
     refine LdRow.rd (rdI_some hy10).2.1 (ww ?_)
     obtain⟨y11,hy11,h⟩:=bi h
     refine t_idxO (enc:=eGcAction) (xs:=o8_0) rfl rfl rfl (by first|rfl|simp only[List.length_set]|exact(clrL_len (slI_len (by assumption))).symm) hy11 (ww ?_)
     refine LdRow.rd (rdI_some hy11).2.1 (ww ?_)
     obtain⟨y12,hy12,h⟩:=bi h
     refine t_idxO (enc:=eGcAction) (xs:=o8_0) rfl rfl rfl (by first|rfl|simp only[List.length_set]|exact(clrL_len (slI_len (by assumption))).symm) hy12 (ww ?_)
     refine StRow.rd (y':=y10) (rdI_some hy12).2.1 (by simp[EE.down]) (by first|rfl|(simp only[bor_full'];rfl)) (ww ?_)
     obtain⟨y13,hy13,h⟩:=bi h
     refine t_idxO (enc:=eGcAction) (xs:=((o8_0.set o8_1.toNat y10))) rfl rfl rfl (by first|rfl|simp only[List.length_set]|exact(clrL_len (slI_len (by assumption))).symm) hy13 (ww ?_)
     refine StRow.rd (y':=y11) (rdI_some hy13).2.1 (by simp[EE.down]) (by first|rfl|(simp only[bor_full'];rfl)) (ww ?_)
     exact eL' j [some 0] ⟨(((o8_0.set o8_1.toNat y10)).set ((IntKind.i64.wrap (o8_1+1))).toNat y11),(IntKind.i64.wrap (o8_1+1)),rfl,h⟩ (Nat.lt_succ_self _)
    ·refine ww ?_
     cases h
     exact eM [some 0] rfl
  rintro _ rfl
  clear ho
  refine ww ?_
  cases h
  exact eF [some 0]
 refine condSh h (fun c14 h=>ww ?_) (fun c14 h=>ww ?_)
 ·obtain⟨o15,ho,h⟩:=bi h
  refine cutS (fun s=>s=⟨[(0,oc (.own 0 e0 0 (x0.length) none)),(2,oc (dI x2)),(14,oc (dI o15))],[some (.arr e0 5 (x0.map eGcAction))]⟩) ?_ ?_
  ·have h:=ho
   clear ho
   refine ww ?_
   refine bL (fun j s=>∃(o15_0:Int) (o15_1:Int),s=⟨[(0,oc (.own 0 e0 0 (x0.length) none)),(2,oc (dI x2)),(4,oc (.fn 22 [])),(14,oc (dI o15_0)),(15,oc (dI o15_1))],[some (.arr e0 5 (x0.map eGcAction))]⟩∧F57_l15 x0 x2 j o15_0 o15_1=some o15) 1099511627776 [some 0] ⟨x1,x2,rfl,h⟩ ?_
   rintro j _ ⟨o15_0,o15_1,rfl,h⟩
   cases j with
   |zero=>cases(show(none:Option _)=some _ from h)
   |succ j=>
    rw[F57_l15]at h
    refine ww ?_
    refine condSh h (fun c16 h=>ww ?_) (fun c16 h=>?_)
    ·refine⟨by decide,?_⟩
     refine ww ?_
     obtain⟨y17,hy17,h⟩:=bi h
     refine t_idxO (enc:=eGcAction) (xs:=x0) rfl rfl rfl (by first|rfl|simp only[List.length_set]|exact(clrL_len (slI_len (by assumption))).symm) hy17 (ww ?_)
     refine LdRow.rd (rdI_some hy17).2.1 (ww ?_)
     obtain⟨y18,hy18,h⟩:=bi h
     refine t_idxO (enc:=eGcAction) (xs:=x0) rfl rfl rfl (by first|rfl|simp only[List.length_set]|exact(clrL_len (slI_len (by assumption))).symm) hy18 (ww ?_)
     refine LdRow.rd (rdI_some hy18).2.1 (ww ?_)
     obtain⟨t19,ht19,h⟩:=bi h
     refine cN [] (F22_ok ht19) trivial (ww ?_)
     refine condSh h (fun c20 h=>ww ?_) (fun c20 h=>?_)
     ·exact eL' j [some 0] ⟨(IntKind.i64.wrap (((IntKind.i64.wrap ((shrV .u64 ((IntKind.u64.wrap ((IntKind.i64.wrap (o15_0+o15_1))))) 1))))+1)),o15_1,rfl,h⟩ (Nat.lt_succ_self _)
     ·refine ww ?_
      exact eL' j [some 0] ⟨o15_0,(IntKind.i64.wrap ((shrV .u64 ((IntKind.u64.wrap ((IntKind.i64.wrap (o15_0+o15_1))))) 1))),rfl,h⟩ (Nat.lt_succ_self _)
    ·refine ww ?_
     cases h
     exact eM [some 0] rfl
  rintro _ rfl
  clear ho
  refine ww ?_
  obtain⟨o21,ho,h⟩:=bi h
  refine cutS (fun s=>s=⟨[],[some (.arr e0 5 (o21.map eGcAction))]⟩) ?_ ?_
  ·have h:=ho
   clear ho
   refine ww ?_
   refine bL (fun j s=>∃(o21_0:List GcAction) (o21_1:Int),s=⟨[(0,oc (.own 0 e0 0 (o21_0.length) none)),(14,oc (dI o15)),(17,oc (dI o21_1))],[some (.arr e0 5 (o21_0.map eGcAction))]⟩∧F57_l21 o15 j o21_0 o21_1=some o21) 1099511627776 [some 0] ⟨x0,x2,rfl,h⟩ ?_
   rintro j _ ⟨o21_0,o21_1,rfl,h⟩
   cases j with
   |zero=>cases(show(none:Option _)=some _ from h)
   |succ j=>
    rw[F57_l21]at h
    refine ww ?_
    refine condSh h (fun c22 h=>ww ?_) (fun c22 h=>?_)
    ·obtain⟨y23,hy23,h⟩:=bi h
     refine t_idxO (enc:=eGcAction) (xs:=o21_0) rfl rfl rfl (by first|rfl|simp only[List.length_set]|exact(clrL_len (slI_len (by assumption))).symm) hy23 (ww ?_)
     refine LdRow.rd (rdI_some hy23).2.1 (ww ?_)
     obtain⟨y24,hy24,h⟩:=bi h
     refine t_idxO (enc:=eGcAction) (xs:=o21_0) rfl rfl rfl (by first|rfl|simp only[List.length_set]|exact(clrL_len (slI_len (by assumption))).symm) hy24 (ww ?_)
     refine LdRow.rd (rdI_some hy24).2.1 (ww ?_)
     obtain⟨y25,hy25,h⟩:=bi h
     refine t_idxO (enc:=eGcAction) (xs:=o21_0) rfl rfl rfl (by first|rfl|simp only[List.length_set]|exact(clrL_len (slI_len (by assumption))).symm) hy25 (ww ?_)
     refine StRow.rd (y':=y23) (rdI_some hy25).2.1 (by simp[EE.down]) (by first|rfl|(simp only[bor_full'];rfl)) (ww ?_)
     obtain⟨y26,hy26,h⟩:=bi h
     refine t_idxO (enc:=eGcAction) (xs:=((o21_0.set o21_1.toNat y23))) rfl rfl rfl (by first|rfl|simp only[List.length_set]|exact(clrL_len (slI_len (by assumption))).symm) hy26 (ww ?_)
     refine StRow.rd (y':=y24) (rdI_some hy26).2.1 (by simp[EE.down]) (by first|rfl|(simp only[bor_full'];rfl)) (ww ?_)
     exact eL' j [some 0] ⟨(((o21_0.set o21_1.toNat y23)).set ((IntKind.i64.wrap (o21_1-1))).toNat y24),(IntKind.i64.wrap (o21_1-1)),rfl,h⟩ (Nat.lt_succ_self _)
    ·refine ww ?_
     cases h
     exact eM [some 0] rfl
  rintro _ rfl
  clear ho
  refine ww ?_
  cases h
  exact eF [some 0]
 refine⟨by decide,?_⟩
 refine ww ?_
 obtain⟨o27,ho,h⟩:=bi h
 refine cutS (fun s=>s=⟨[(0,oc (.own 0 e0 0 (x0.length) none)),(1,oc (dI x1)),(2,oc (dI x2)),(3,oc (dI x3)),(4,oc (.fn 22 [])),(18,oc (dI ((IntKind.i64.wrap ((shrV .u64 ((IntKind.u64.wrap ((IntKind.i64.wrap (x1+x3))))) 1)))))),(19,oc (dI ((IntKind.i64.wrap (((IntKind.i64.wrap ((shrV .u64 ((IntKind.u64.wrap ((IntKind.i64.wrap (x1+x3))))) 1))))+x2))))),(20,oc (dI o27.1)),(21,oc (dI o27.2))],[some (.arr e0 5 (x0.map eGcAction))]⟩) ?_ ?_
 ·have h:=ho
  clear ho
  refine ww ?_
  refine condSh h (fun c28 h=>ww ?_) (fun c28 h=>ww ?_)
  ·cases h
   exact eM [some 0] rfl
  cases h
  exact eM [some 0] rfl
 rintro _ rfl
 clear ho
 refine ww ?_
 obtain⟨o29,ho,h⟩:=bi h
 refine cutS (fun s=>s=⟨[(0,oc (.own 0 e0 0 (x0.length) none)),(1,oc (dI x1)),(2,oc (dI x2)),(3,oc (dI x3)),(4,oc (.fn 22 [])),(18,oc (dI ((IntKind.i64.wrap ((shrV .u64 ((IntKind.u64.wrap ((IntKind.i64.wrap (x1+x3))))) 1)))))),(19,oc (dI ((IntKind.i64.wrap (((IntKind.i64.wrap ((shrV .u64 ((IntKind.u64.wrap ((IntKind.i64.wrap (x1+x3))))) 1))))+x2))))),(20,oc (dI o29))],[some (.arr e0 5 (x0.map eGcAction))]⟩) ?_ ?_
 ·have h:=ho
  clear ho
  refine ww ?_
  refine bL (fun j s=>∃(o29_0:Int) (o29_1:Int),s=⟨[(0,oc (.own 0 e0 0 (x0.length) none)),(1,oc (dI x1)),(2,oc (dI x2)),(3,oc (dI x3)),(4,oc (.fn 22 [])),(18,oc (dI ((IntKind.i64.wrap ((shrV .u64 ((IntKind.u64.wrap ((IntKind.i64.wrap (x1+x3))))) 1)))))),(19,oc (dI ((IntKind.i64.wrap (((IntKind.i64.wrap ((shrV .u64 ((IntKind.u64.wrap ((IntKind.i64.wrap (x1+x3))))) 1))))+x2))))),(20,oc (dI o29_0)),(21,oc (dI o29_1)),(22,oc (dI ((IntKind.i64.wrap (((IntKind.i64.wrap (((IntKind.i64.wrap ((shrV .u64 ((IntKind.u64.wrap ((IntKind.i64.wrap (x1+x3))))) 1))))+x2)))-1)))))],[some (.arr e0 5 (x0.map eGcAction))]⟩∧F57_l29 x0 x1 x2 x3 j o29_0 o29_1=some o29) 1099511627776 [some 0] ⟨o27.1,o27.2,rfl,h⟩ ?_
  rintro j _ ⟨o29_0,o29_1,rfl,h⟩
  cases j with
  |zero=>cases(show(none:Option _)=some _ from h)
  |succ j=>
   rw[F57_l29]at h
   refine ww ?_
   refine condSh h (fun c30 h=>ww ?_) (fun c30 h=>?_)
   ·refine⟨by decide,?_⟩
    refine ww ?_
    obtain⟨y31,hy31,h⟩:=bi h
    refine t_idxO (enc:=eGcAction) (xs:=x0) rfl rfl rfl (by first|rfl|simp only[List.length_set]|exact(clrL_len (slI_len (by assumption))).symm) hy31 (ww ?_)
    refine LdRow.rd (rdI_some hy31).2.1 (ww ?_)
    obtain⟨y32,hy32,h⟩:=bi h
    refine t_idxO (enc:=eGcAction) (xs:=x0) rfl rfl rfl (by first|rfl|simp only[List.length_set]|exact(clrL_len (slI_len (by assumption))).symm) hy32 (ww ?_)
    refine LdRow.rd (rdI_some hy32).2.1 (ww ?_)
    obtain⟨t33,ht33,h⟩:=bi h
    refine cN [] (F22_ok ht33) trivial (ww ?_)
    refine condSh h (fun c34 h=>ww ?_) (fun c34 h=>?_)
    ·exact eL' j [some 0] ⟨(IntKind.i64.wrap (((IntKind.i64.wrap ((shrV .u64 ((IntKind.u64.wrap ((IntKind.i64.wrap (o29_0+o29_1))))) 1))))+1)),o29_1,rfl,h⟩ (Nat.lt_succ_self _)
    ·refine ww ?_
     exact eL' j [some 0] ⟨o29_0,(IntKind.i64.wrap ((shrV .u64 ((IntKind.u64.wrap ((IntKind.i64.wrap (o29_0+o29_1))))) 1))),rfl,h⟩ (Nat.lt_succ_self _)
   ·refine ww ?_
    cases h
    exact eM [some 0] rfl
 rintro _ rfl
 clear ho
 refine ww ?_
 obtain⟨o35,ho,h⟩:=bi h
 refine cutS (fun s=>s=⟨[(0,oc (.own 0 e0 0 (o35.length) none)),(1,oc (dI x1)),(3,oc (dI x3)),(4,oc (.fn 22 [])),(18,oc (dI ((IntKind.i64.wrap ((shrV .u64 ((IntKind.u64.wrap ((IntKind.i64.wrap (x1+x3))))) 1)))))),(20,oc (dI o29)),(24,oc (dI ((IntKind.i64.wrap (((IntKind.i64.wrap (((IntKind.i64.wrap ((shrV .u64 ((IntKind.u64.wrap ((IntKind.i64.wrap (x1+x3))))) 1))))+x2)))-o29)))))],[some (.arr e0 5 (o35.map eGcAction))]⟩) ?_ ?_
 ·have h:=ho
  clear ho
  refine ww ?_
  obtain⟨o36,ho,h⟩:=bi h
  refine cutS (fun s=>s=⟨[(0,oc (.own 0 e0 0 (x0.length) none)),(1,oc (dI x1)),(2,oc (dI x2)),(3,oc (dI x3)),(4,oc (.fn 22 [])),(18,oc (dI ((IntKind.i64.wrap ((shrV .u64 ((IntKind.u64.wrap ((IntKind.i64.wrap (x1+x3))))) 1)))))),(20,oc (dI o29)),(24,oc (dI ((IntKind.i64.wrap (((IntKind.i64.wrap (((IntKind.i64.wrap ((shrV .u64 ((IntKind.u64.wrap ((IntKind.i64.wrap (x1+x3))))) 1))))+x2)))-o29))))),(185,oc (dB o36))],[some (.arr e0 5 (x0.map eGcAction))]⟩) ?_ ?_
  ·have h:=ho
   clear ho
   refine ww ?_
   refine guardSh h (fun g37 h=>ww ?_) (fun g37 h=>ww ?_)
   ·cases h
    exact eM [some 0] rfl
   cases h
   exact eM [some 0] rfl
  rintro _ rfl
  clear ho
  refine ww ?_
  refine condBh h (fun c38 h=>ww ?_) (fun c38 h=>ww ?_)
  ·obtain⟨t39,ht39,h⟩:=bi h
   refine cN [0] (F71_ok (e0:=e0) ht39) ⟨⟨rfl,trivial⟩,trivial⟩ ?_
   refine ww ?_
   cases h
   exact eM [some 0] rfl (hB:=by simp only[ZZ.down,Nat.reduceEqDiff,reduceCtorEq,Nat.reduceAdd,Nat.reduceLeDiff,Nat.reduceLT,Nat.reduceBNe,EE.down,F71_len0 ht39]) (hs:=by simp only[ZZ.down,Nat.reduceEqDiff,reduceCtorEq,Nat.reduceAdd,Nat.reduceLeDiff,Nat.reduceLT,Nat.reduceBNe,EE.down,F71_len0 ht39])
  cases h
  exact eM [some 0] rfl
 rintro _ rfl
 clear ho
 refine ww ?_
 obtain⟨o40,ho,h⟩:=bi h
 refine cutS (fun s=>s=⟨[(0,oc (.own 0 e0 0 (o40.length) none)),(3,oc (dI x3)),(4,oc (.fn 22 [])),(18,oc (dI ((IntKind.i64.wrap ((shrV .u64 ((IntKind.u64.wrap ((IntKind.i64.wrap (x1+x3))))) 1)))))),(24,oc (dI ((IntKind.i64.wrap (((IntKind.i64.wrap (((IntKind.i64.wrap ((shrV .u64 ((IntKind.u64.wrap ((IntKind.i64.wrap (x1+x3))))) 1))))+x2)))-o29)))))],[some (.arr e0 5 (o40.map eGcAction))]⟩) ?_ ?_
 ·have h:=ho
  clear ho
  refine ww ?_
  obtain⟨o41,ho,h⟩:=bi h
  refine cutS (fun s=>s=⟨[(0,oc (.own 0 e0 0 (o35.length) none)),(1,oc (dI x1)),(3,oc (dI x3)),(4,oc (.fn 22 [])),(18,oc (dI ((IntKind.i64.wrap ((shrV .u64 ((IntKind.u64.wrap ((IntKind.i64.wrap (x1+x3))))) 1)))))),(20,oc (dI o29)),(24,oc (dI ((IntKind.i64.wrap (((IntKind.i64.wrap (((IntKind.i64.wrap ((shrV .u64 ((IntKind.u64.wrap ((IntKind.i64.wrap (x1+x3))))) 1))))+x2)))-o29))))),(199,oc (dB o41))],[some (.arr e0 5 (o35.map eGcAction))]⟩) ?_ ?_
  ·have h:=ho
   clear ho
   refine ww ?_
   refine guardSh h (fun g42 h=>ww ?_) (fun g42 h=>ww ?_)
   ·cases h
    exact eM [some 0] rfl
   cases h
   exact eM [some 0] rfl
  rintro _ rfl
  clear ho
  refine ww ?_
  refine condBh h (fun c43 h=>ww ?_) (fun c43 h=>ww ?_)
  ·obtain⟨t44,ht44,h⟩:=bi h
   refine cN [0] (ih41 (e0:=e0) ht44) ⟨⟨rfl,trivial⟩,trivial⟩ ?_
   refine ww ?_
   cases h
   exact eM [some 0] rfl (hB:=by simp only[ZZ.down,Nat.reduceEqDiff,reduceCtorEq,Nat.reduceAdd,Nat.reduceLeDiff,Nat.reduceLT,Nat.reduceBNe,EE.down,il41_len0 ht44]) (hs:=by simp only[ZZ.down,Nat.reduceEqDiff,reduceCtorEq,Nat.reduceAdd,Nat.reduceLeDiff,Nat.reduceLT,Nat.reduceBNe,EE.down,il41_len0 ht44])
  cases h
  exact eM [some 0] rfl
 rintro _ rfl
 clear ho
 refine ww ?_
 obtain⟨o45,ho,h⟩:=bi h
 refine cutS (fun s=>s=⟨[(0,oc (.own 0 e0 0 (o40.length) none)),(3,oc (dI x3)),(4,oc (.fn 22 [])),(18,oc (dI ((IntKind.i64.wrap ((shrV .u64 ((IntKind.u64.wrap ((IntKind.i64.wrap (x1+x3))))) 1)))))),(24,oc (dI ((IntKind.i64.wrap (((IntKind.i64.wrap (((IntKind.i64.wrap ((shrV .u64 ((IntKind.u64.wrap ((IntKind.i64.wrap (x1+x3))))) 1))))+x2)))-o29))))),(213,oc (dB o45))],[some (.arr e0 5 (o40.map eGcAction))]⟩) ?_ ?_
 ·have h:=ho
  clear ho
  refine ww ?_
  refine guardSh h (fun g46 h=>ww ?_) (fun g46 h=>ww ?_)
  ·cases h
   exact eM [some 0] rfl
  cases h
  exact eM [some 0] rfl
 rintro _ rfl
 clear ho
 refine ww ?_
 refine condBh h (fun c47 h=>ww ?_) (fun c47 h=>ww ?_)
 ·obtain⟨t48,ht48,h⟩:=bi h
  refine cN [0] (ih41 (e0:=e0) ht48) ⟨⟨rfl,trivial⟩,trivial⟩ ?_
  refine ww ?_
  cases h
  exact eF [some 0] (hB:=by simp only[ZZ.down,Nat.reduceEqDiff,reduceCtorEq,Nat.reduceAdd,Nat.reduceLeDiff,Nat.reduceLT,Nat.reduceBNe,EE.down,il41_len0 ht48]) (hs:=by simp only[ZZ.down,Nat.reduceEqDiff,reduceCtorEq,Nat.reduceAdd,Nat.reduceLeDiff,Nat.reduceLT,Nat.reduceBNe,EE.down,il41_len0 ht48])
 cases h
 exact eF [some 0]
def F57k:Nat→(List GcAction)→Int→Int→Int→Option ((List GcAction))
 |0=>fun _ _ _ _=>none
 |k+1=>F57 (F57k k)
theorem F57k_len0{k:Nat}{x0:(List GcAction)}{x1:Int}{x2:Int}{x3:Int}{r:(List GcAction)}(h:F57k k x0 x1 x2 x3=some r):r.length=x0.length:=by
 cases k with
 |zero=>cases(show(none:Option ((List GcAction)))=some _ from h)
 |succ k=>exact F57_len0 h
theorem F57k_ok(k:Nat){x0:(List GcAction)}{x1:Int}{x2:Int}{x3:Int}{r:(List GcAction)}{e0:Nat}(h:F57k k x0 x1 x2 x3=some r):CallD Try.prog 57 [.c (.own 0 e0 0 (x0.length) none),.c (dI x1),.c (dI x2),.c (dI x3),.c (.fn 22 [])] [some (.arr e0 5 (x0.map eGcAction))] (tupV []) [some (.arr e0 5 (r.map eGcAction))]:=by
 induction k generalizing x0 x1 x2 x3 r e0 with
 |zero=>cases(show(none:Option ((List GcAction)))=some _ from h)
 |succ k ih=>exact F57_ok (fun h=>ih h) (fun h=>F57k_len0 h) h
end Go.Proofs.Ytdejhahgpojnoaa
