/- Each Go function as a function over typed data, and its walk. -/
import Derived.Test.YtedgocbpegllaaaW0
import Derived.Test.YtedgocbpegllaaaW2
import Derived.Test.YtedgocbpegllaaaW6
import Derived.Test.YtedgocbpegllaaaW7
import Derived.Test.YtedgocbpegllaaaW8
import Derived.Test.YtedgocbpegllaaaW9
import Derived.Test.YtedgocbpegllaaaW10
namespace Go.Proofs.Ytedgocbpegllaaa
open Go Go.Fw Go.Shelf
set_option maxRecDepth 100000
set_option maxHeartbeats 4000000
set_option linter.unusedSimpArgs false
set_option linter.unusedVariables false
def F17_l1(x0:(List Budget))(x2:Pod):Nat→Int→Option ((Bool) ⊕ (Unit))
 |0,_=>none
 |k+1,o1_0=>(((if o1_0<(x0.length:Int)then(F36 x2).bind fun t4=>some t4 else some false)).bind fun o2=>(if o2=true then(((rdI x0 o1_0).bind fun y7=>(F35 y7 x2).bind fun t8=>(if t8=true then(if y7.Allowed≤0 then(F20 x2.Meta).bind fun t11=>(F37 y7.Disrupted t11).bind fun t12=>some (nb t12)else some false)else some false)).bind fun o6=>(if o6=true then(some false).map Sum.inl else F17_l1 x0 x2 k ((IntKind.i64.wrap (o1_0+1)))))else some (Sum.inr (()))))
def F17(x0:(List Budget))(x1:(List Pod))(x2:Pod):Option (Bool):=((F17_l1 x0 x2 1099511627776 0:Option ((Bool) ⊕ (Unit))).bind fun o1=>match o1 with|Sum.inl f=>some f|Sum.inr po1=>some true)
def a17:AFn:=⟨44,[(.tmp 6)],
 (.seq (.reg [Qg 5 2,
Qf 6 false])
 (.seq (.seq (.reg [Qe 7 0])
 (.sem (.block 0 (.loop (.seq (.seq (.sem (.reg [Qa 8 7,
Qa 9 0,
Qh 10 9,
Qn 11 8 10,
Qa 12 11,
Qu 13 12 true 32 5,
zg 14 12 true (.call 36 [(.t 13)]),
Qi 15 12 14]))
 (.cond (.t 15)
 .skip
 (.exit 0)))
 (.seq (.block 1 (.seq (.sem (.regd [Qa 18 0,
Qa 19 7,
sd 20 (.indexA 22 (.t 18) (.t 19)) [0,1],
sd 21 (.load (some 22) (.t 20)) [0,1,2],
Qc 22 32 5,
zl 23 (.call 35 [(.t 21),(.t 22)]) [0,1,2,3,4] [],
sd 24 (.mv (.t 23)) [0,1,2,3,4,5],
⟨(some 25),(some (24,true)),.mv (.t 0),[0,1,2,3,4,5,6],(.new [])⟩,
⟨(some 26),(some (24,true)),.mv (.t 7),[0,1,2,3,4,5,6],(.new [])⟩,
⟨(some 27),(some (24,true)),.indexA 22 (.t 25) (.t 26),[0,1,2,3,4,5,6,7,8],(.new [])⟩,
⟨(some 28),(some (24,true)),.fieldA 20 (.t 27),[0,1,2,3,4,5,6,7,8,9],(.new [])⟩,
⟨(some 29),(some (24,true)),.load none (.t 28),[0,1,2,3,4,5,6,7,8,9,10],(.new [])⟩,
⟨(some 30),(some (24,true)),.bin .leq (.t 29) (kI 0),[0,1,2,3,4,5,6,7,8,9,10,11],(.new [])⟩,
zl 31 (.pick (.t 24) (.t 30) (kB false)) [0,1,2,3,4,5,6,7,8,9,10,11,12] [],
sd 32 (.mv (.t 31)) [0,1,2,3,4,5,6,7,8,9,10,11,12,13],
⟨(some 33),(some (32,true)),.mv (.t 0),[0,1,2,3,4,5,6,7,8,9,10,11,12,13,14],(.new [])⟩,
⟨(some 34),(some (32,true)),.mv (.t 7),[0,1,2,3,4,5,6,7,8,9,10,11,12,13,14],(.new [])⟩,
⟨(some 35),(some (32,true)),.indexA 22 (.t 33) (.t 34),[0,1,2,3,4,5,6,7,8,9,10,11,12,13,14,15,16],(.new [])⟩,
⟨(some 36),(some (32,true)),.fieldA 21 (.t 35),[0,1,2,3,4,5,6,7,8,9,10,11,12,13,14,15,16,17],(.new [])⟩,
⟨(some 37),(some (32,true)),.load none (.t 36),[0,1,2,3,4,5,6,7,8,9,10,11,12,13,14,15,16,17,18],(.new [])⟩,
⟨(some 38),(some (32,true)),.fieldA 0 (.t 5),[0,1,2,3,4,5,6,7,8,9,10,11,12,13,14],(.new [])⟩,
⟨(some 39),(some (32,true)),.load (some 13) (.t 38),[0,1,2,3,4,5,6,7,8,9,10,11,12,13,14,20],(.new [])⟩,
⟨(some 40),(some (32,true)),.call 20 [(.t 39)],[0,1,2,3,4,5,6,7,8,9,10,11,12,13,14,20,21],(.lone [33,35,36])⟩,
⟨(some 41),(some (32,true)),.call 37 [(.t 37),(.t 40)],[0,1,2,3,4,5,6,7,8,9,10,11,12,13,14,15,16,17,18,19,20,21,22],(.lone [])⟩,
⟨(some 42),(some (32,true)),.not (.t 41),[0,1,2,3,4,5,6,7,8,9,10,11,12,13,14,15,16,17,18,19,20,21,22,23],(.new [])⟩,
zl 43 (.pick (.t 32) (.t 42) (kB false)) [0,1,2,3,4,5,6,7,8,9,10,11,12,13,14,15,16,17,18,19,20,21,22,23,24] []]))
 (.cond (.t 43)
 (.seq (.reg [Qf 6 false])
 .ret)
 .skip)))
 (.reg [Qa 16 7,
Qm 17 16 1,
Qa 7 17])))))))
 (.seq (.reg [Qf 6 true])
 .ret)))⟩
theorem F17_ok{x0 x1 x2 r}(h:F17 x0 x1 x2=some r):CallD Try.prog 17 [.c (dM (x0.map eBudget)),.c (dM (x1.map ePod)),.agg (bPod x2)] [] (tupV [.c (dB r)]) []:=by
 rw[F17]at h
 refine zc a17 (by kernel_rfl) rfl (ww ?_)
 obtain⟨o1,ho,h⟩:=bi h
 refine cutS (fun s=>∃po1,o1=Sum.inr po1∧s=⟨[],[]⟩) ?_ ?_
 ·have h0o1:=h
  have h:=ho
  clear ho
  refine ww ?_
  refine bL (fun j s=>∃(o1_0:Int),s=⟨[(0,oc (dM (x0.map eBudget))),(5,Pz 0),(7,oc (dI o1_0))],[xb (bPod x2)]⟩∧F17_l1 x0 x2 j o1_0=some o1) 1099511627776 [some 0] ⟨0,rfl,h⟩ ?_
  rintro j _ ⟨o1_0,rfl,h⟩
  cases j with
  |zero=>cases(show(none:Option _)=some _ from h)
  |succ j=>
   rw[F17_l1]at h
   refine ww ?_
   obtain⟨o2,ho,h⟩:=bi h
   refine cutS (fun s=>s=⟨[(0,oc (dM (x0.map eBudget))),(5,Pz 0),(7,oc (dI o1_0)),(15,oc (dB o2))],[xb (bPod x2)]⟩) ?_ ?_
   ·have h:=ho
    clear ho
    refine ww ?_
    refine guardSh h (fun g3 h=>ww ?_) (fun g3 h=>?_)
    ·obtain⟨t4,ht4,h⟩:=bi h
     refine cN [] (F36_ok ht4) trivial (ww ?_)
     cases h
     exact eM [some 0] rfl
    ·refine ww ?_
     cases h
     exact eM [some 0] rfl
   ·rintro _ rfl
    clear ho
    refine ww ?_
    refine condBh h (fun c5 h=>ww ?_) (fun c5 h=>?_)
    ·obtain⟨o6,ho,h⟩:=bi h
     refine cutS (fun s=>s=⟨[(0,oc (dM (x0.map eBudget))),(5,Pz 0),(7,oc (dI o1_0)),(43,oc (dB o6))],[xb (bPod x2)]⟩) ?_ ?_
     ·have h:=ho
      clear ho
      refine ww ?_
      obtain⟨y7,hy7,h⟩:=bi h
      refine t_idxF (enc:=eBudget) (xs:=x0) rfl rfl hy7 rfl (ww ?_)
      obtain⟨t8,ht8,h⟩:=bi h
      refine cN [] (F35_ok ht8) trivial (ww ?_)
      refine guardDBh h (fun g9 h=>ww ?_) (fun g9 h=>?_)
      ·refine t_idxF (enc:=eBudget) (xs:=x0) rfl rfl hy7 rfl (ww ?_)
       refine guardDh h (fun g10 h=>ww ?_) (fun g10 h=>?_)
       ·refine t_idxF (enc:=eBudget) (xs:=x0) rfl rfl hy7 rfl (ww ?_)
        obtain⟨t11,ht11,h⟩:=bi h
        refine cN [] (F20_ok ht11) trivial (ww ?_)
        obtain⟨t12,ht12,h⟩:=bi h
        refine cN [] (F37_ok ht12) trivial (ww ?_)
        cases h
        exact eM [some 0] rfl
       ·refine ww ?_
        cases h
        exact eM [some 0] rfl
      ·refine ww ?_
       cases h
       exact eM [some 0] rfl
     ·rintro _ rfl
      clear ho
      refine ww ?_
      refine condBh h (fun c13 h=>ww ?_) (fun c13 h=>?_)
      ·obtain⟨fh0o1,hfh0o1,rfl⟩:=Option.map_eq_some_iff.1 h
       have h:=hfh0o1.trans h0o1
       cases h
       exact eF []
      ·refine ww ?_
       exact eL' j [some 0] ⟨(IntKind.i64.wrap (o1_0+1)),rfl,h⟩ (Nat.lt_succ_self _)
    ·refine ww ?_
     cases h
     exact eM [] ⟨_,rfl,rfl⟩
 rintro _ ⟨po1,rfl,rfl⟩
 clear ho
 dsimp only at h
 refine ww ?_
 cases h
 exact eF []
def F48_l3:Nat→(List WorkItem)→Int→Option ((List WorkItem))
 |0,_,_=>none
 |k+1,o3_0,o3_1=>(((if 0<o3_1 then(rdI o3_0 o3_1).bind fun y6=>(rdI o3_0 ((IntKind.i64.wrap (o3_1-1)))).bind fun y7=>some (Op.bytesLess y6.Key.toList y7.Key.toList)else some false)).bind fun o4=>(if o4=true then(rdI o3_0 o3_1).bind fun y9=>(rdI o3_0 ((IntKind.i64.wrap (o3_1-1)))).bind fun y10=>(rdI o3_0 o3_1).bind fun y11=>(rdI ((o3_0.set o3_1.toNat y10)) ((IntKind.i64.wrap (o3_1-1)))).bind fun y12=>F48_l3 k ((((o3_0.set o3_1.toNat y10)).set ((IntKind.i64.wrap (o3_1-1))).toNat y9)) ((IntKind.i64.wrap (o3_1-1)))else some o3_0))
def F48(x0:(List WorkItem))(x1:WorkItem):Option ((List WorkItem)):=(apI ([]:List WorkItem) x0).bind fun a1=>(apI a1 ([x1])).bind fun a2=>((F48_l3 1099511627776 a2 ((IntKind.i64.wrap (((a2.length:Int))-1)))).bind fun o3=>some o3)
def a48:AFn:=⟨54,[(.tmp 4)],
 (.seq (.reg [Qg 3 1,
sq 4 (.mv kN)])
 (.seq (.reg [sq 8 (.bslice 2 []),
Qa 9 0,
sq 10 (.app 2 24 (.t 8) (.t 9)),
Qa 5 10])
 (.seq (.reg [Qa 11 5,
Qc 12 2 3,
sq 13 (.bslice 2 [(.t 12)]),
sq 14 (.app 2 24 (.t 11) (.t 13)),
Qa 5 14])
 (.seq (.seq (.reg [Qa 15 5,
Qh 16 15,
sq 17 (.bin .sub (.t 16) (kI 1)),
Qa 6 17])
 (.sem (.block 0 (.loop (.seq (.seq (.sem (.regd [Qa 18 6,
sd 19 (.bin .gtr (.t 18) (kI 0)) [0],
sd 20 (.mv (.t 19)) [0,1],
⟨(some 21),(some (20,true)),.mv (.t 5),[0,1,2],(.new [])⟩,
⟨(some 22),(some (20,true)),.mv (.t 6),[0,1,2],(.new [])⟩,
⟨(some 23),(some (20,true)),.indexA 2 (.t 21) (.t 22),[0,1,2,3,4],(.new [])⟩,
⟨(some 24),(some (20,true)),.fieldA 0 (.t 23),[0,1,2,3,4,5],(.new [])⟩,
⟨(some 25),(some (20,true)),.load none (.t 24),[0,1,2,3,4,5,6],(.new [])⟩,
⟨(some 26),(some (20,true)),.mv (.t 5),[0,1,2],(.new [])⟩,
⟨(some 27),(some (20,true)),.mv (.t 6),[0,1,2],(.new [])⟩,
⟨(some 28),(some (20,true)),.bin .sub (.t 27) (kI 1),[0,1,2,9],(.new [])⟩,
⟨(some 29),(some (20,true)),.indexA 2 (.t 26) (.t 28),[0,1,2,8,9,10],(.new [])⟩,
⟨(some 30),(some (20,true)),.fieldA 0 (.t 29),[0,1,2,8,9,10,11],(.new [])⟩,
⟨(some 31),(some (20,true)),.load none (.t 30),[0,1,2,8,9,10,11,12],(.new [])⟩,
⟨(some 32),(some (20,true)),.bin .lss (.t 25) (.t 31),[0,1,2,3,4,5,6,7,8,9,10,11,12,13],(.new [])⟩,
zl 33 (.pick (.t 20) (.t 32) (kB false)) [0,1,2,3,4,5,6,7,8,9,10,11,12,13,14] []]))
 (.cond (.t 33)
 .skip
 (.exit 0)))
 (.seq (.block 1 (.seq (.reg [Qa 36 5,
Qa 37 6,
Qp 38 2 36 37,
Qc 39 2 38,
sq 7 (.zbox [dS ⟨#[]⟩,dI 0]),
su (.store 2 (.t 7) (.t 39))])
 (.seq (.reg [Qa 40 5,
Qa 41 6,
Qa 42 5,
Qa 43 6,
sq 44 (.bin .sub (.t 43) (kI 1)),
Qp 45 2 42 44,
Qc 46 2 45,
Qp 47 2 40 41,
⟨none,none,.store 2 (.t 47) (.t 46),[],(.lone [42,45,40])⟩])
 (.reg [Qa 48 5,
Qa 49 6,
sq 50 (.bin .sub (.t 49) (kI 1)),
Qc 51 2 7,
Qp 52 2 48 50,
⟨none,none,.store 2 (.t 52) (.t 51),[],(.lone [7,48])⟩]))))
 (.reg [Qa 34 6,
sq 35 (.bin .sub (.t 34) (kI 1)),
Qa 6 35])))))))
 (.seq (.reg [Qa 53 5,
Qa 4 53])
 .ret)))))⟩
theorem F48_ok{x0 x1 r}(h:F48 x0 x1=some r):CallD Try.prog 48 [.c (dM (x0.map eWorkItem)),.agg [dS x1.Key,dI x1.At]] [] (tupV [.c (.own 0 0 0 (r.length) none)]) [some (.arr 0 2 (r.map eWorkItem))]:=by
 rw[F48]at h
 refine zc a48 (by kernel_rfl) rfl (ww ?_)
 refine t_bslice (enc:=eWorkItem) (ys:=([]:List WorkItem)) rfl rfl (by simp[A1.cells]) (by first|rfl|(simp only[List.drop_zero,take_mapL];rfl)|(simp only[lit,List.map_cons,List.map_nil,List.drop_zero,take_mapL,EE.down];done)|(simp only[lit,List.map_cons,List.map_nil,List.drop_zero,take_mapL,EE.down];rfl)) (ww ?_)
 obtain⟨a1,ha1,h⟩:=bi h
 refine t_app (enc:=eWorkItem) (xs:=([]:List WorkItem)) rfl rfl (by first|rfl|simp only[List.length_set]|exact(clrL_len (slI_len (by assumption))).symm) rfl (rows_frz (enc:=eWorkItem) (fun _=>rfl)) ha1 (ww ?_)
 refine t_bslice (enc:=eWorkItem) (ys:=[x1]) rfl rfl (by simp[A1.cells]) (by first|rfl|(simp only[List.drop_zero,take_mapL];rfl)|(simp only[lit,List.map_cons,List.map_nil,List.drop_zero,take_mapL,EE.down];done)|(simp only[lit,List.map_cons,List.map_nil,List.drop_zero,take_mapL,EE.down];rfl)) (ww ?_)
 obtain⟨a2,ha2,h⟩:=bi h
 refine t_app (enc:=eWorkItem) (xs:=a1) rfl rfl (by first|rfl|simp only[List.length_set]|exact(clrL_len (slI_len (by assumption))).symm) rfl (rows_full (enc:=eWorkItem) (by first|rfl|simp only[List.length_set]|exact(clrL_len (slI_len (by assumption))).symm) rfl) ha2 (ww ?_)
 obtain⟨o3,ho,h⟩:=bi h
 refine cutS (fun s=>s=⟨[(5,oc (.own 0 0 0 (o3.length) none))],[some (.arr 0 2 (o3.map eWorkItem))]⟩) ?_ ?_
 ·have h:=ho
  clear ho
  refine ww ?_
  refine bL (fun j s=>∃(o3_0:List WorkItem) (o3_1:Int),s=⟨[(5,oc (.own 0 0 0 (o3_0.length) none)),(6,oc (dI o3_1))],[some (.arr 0 2 (o3_0.map eWorkItem))]⟩∧F48_l3 j o3_0 o3_1=some o3) 1099511627776 [some 1] ⟨a2,(IntKind.i64.wrap (((a2.length:Int))-1)),rfl,h⟩ ?_
  rintro j _ ⟨o3_0,o3_1,rfl,h⟩
  cases j with
  |zero=>cases(show(none:Option _)=some _ from h)
  |succ j=>
   rw[F48_l3]at h
   refine ww ?_
   obtain⟨o4,ho,h⟩:=bi h
   refine cutS (fun s=>s=⟨[(5,oc (.own 0 0 0 (o3_0.length) none)),(6,oc (dI o3_1)),(33,oc (dB o4))],[some (.arr 0 2 (o3_0.map eWorkItem))]⟩) ?_ ?_
   ·have h:=ho
    clear ho
    refine ww ?_
    refine guardDh h (fun g5 h=>ww ?_) (fun g5 h=>?_)
    ·obtain⟨y6,hy6,h⟩:=bi h
     refine t_idxO (enc:=eWorkItem) (xs:=o3_0) rfl rfl rfl (by first|rfl|simp only[List.length_set]|exact(clrL_len (slI_len (by assumption))).symm) hy6 (ww ?_)
     refine LdRow.rd (rdI_some hy6).2.1 (ww ?_)
     obtain⟨y7,hy7,h⟩:=bi h
     refine t_idxO (enc:=eWorkItem) (xs:=o3_0) rfl rfl rfl (by first|rfl|simp only[List.length_set]|exact(clrL_len (slI_len (by assumption))).symm) hy7 (ww ?_)
     refine LdRow.rd (rdI_some hy7).2.1 (ww ?_)
     cases h
     exact eM [some 0] rfl
    ·refine ww ?_
     cases h
     exact eM [some 0] rfl
   ·rintro _ rfl
    clear ho
    refine ww ?_
    refine condBh h (fun c8 h=>ww ?_) (fun c8 h=>?_)
    ·obtain⟨y9,hy9,h⟩:=bi h
     refine t_idxO (enc:=eWorkItem) (xs:=o3_0) rfl rfl rfl (by first|rfl|simp only[List.length_set]|exact(clrL_len (slI_len (by assumption))).symm) hy9 (ww ?_)
     refine LdRow.rd (rdI_some hy9).2.1 (ww ?_)
     obtain⟨y10,hy10,h⟩:=bi h
     refine t_idxO (enc:=eWorkItem) (xs:=o3_0) rfl rfl rfl (by first|rfl|simp only[List.length_set]|exact(clrL_len (slI_len (by assumption))).symm) hy10 (ww ?_)
     refine LdRow.rd (rdI_some hy10).2.1 (ww ?_)
     obtain⟨y11,hy11,h⟩:=bi h
     refine t_idxO (enc:=eWorkItem) (xs:=o3_0) rfl rfl rfl (by first|rfl|simp only[List.length_set]|exact(clrL_len (slI_len (by assumption))).symm) hy11 (ww ?_)
     refine StRow.rd (y':=y10) (rdI_some hy11).2.1 (by simp[EE.down]) (by first|rfl|(simp only[bor_full'];rfl)) (ww ?_)
     obtain⟨y12,hy12,h⟩:=bi h
     refine t_idxO (enc:=eWorkItem) (xs:=((o3_0.set o3_1.toNat y10))) rfl rfl rfl (by first|rfl|simp only[List.length_set]|exact(clrL_len (slI_len (by assumption))).symm) hy12 (ww ?_)
     refine StRow.rd (y':=y9) (rdI_some hy12).2.1 (by simp[EE.down]) (by first|rfl|(simp only[bor_full'];rfl)) (ww ?_)
     exact eL' j [some 0] ⟨(((o3_0.set o3_1.toNat y10)).set ((IntKind.i64.wrap (o3_1-1))).toNat y9),(IntKind.i64.wrap (o3_1-1)),rfl,h⟩ (Nat.lt_succ_self _)
    ·refine ww ?_
     cases h
     exact eM [some 0] rfl
 rintro _ rfl
 clear ho
 refine ww ?_
 cases h
 exact eF [some 0]
def F15_l1:List Budget→Nat→(List Budget)→Option ((List Budget))
 |[],o1_1,o1_0=>some o1_0
 |xo1::xs,o1_1,o1_0=>(F33 xo1).bind fun t3=>(apI o1_0 ([(⟨xo1.Meta,xo1.Selector,xo1.MinAvailable,xo1.MaxUnavailable,xo1.Observed,xo1.Healthy,xo1.Desired,xo1.Expected,xo1.Allowed,t3⟩:Budget)])).bind fun a4=>F15_l1 xs (o1_1+1) a4
def F15_l6(x1:(List Pod))(x2:ByteArray):Nat→Int→Option (Int)
 |0,_=>none
 |k+1,o6_0=>(((if o6_0<(x1.length:Int)then(rdI x1 o6_0).bind fun y9=>(F20 y9.Meta).bind fun t10=>some (decide (¬(t10=x2)))else some false)).bind fun o7=>(if o7=true then F15_l6 x1 x2 k ((IntKind.i64.wrap (o6_0+1)))else some o6_0))
def F15_l20(x2:ByteArray)(x3:Int)(y17:Pod):Nat→(List Budget)→Int→Option ((List Budget))
 |0,_,_=>none
 |k+1,o20_0,o20_1=>(((if o20_1<(o20_0.length:Int)then(F36 y17).bind fun t23=>some t23 else some false)).bind fun o21=>(if o21=true then(((((rdI o20_0 o20_1).bind fun y27=>(F35 y27 y17).bind fun t28=>(if t28=true then(rdI o20_0 o20_1).bind fun y30=>(F37 y30.Disrupted x2).bind fun t31=>some (nb t31)else some false)).bind fun o26=>(if o26=true then(rdI o20_0 o20_1).bind fun y33=>(rdI o20_0 o20_1).bind fun y34=>(rdI ((o20_0.set o20_1.toNat ((⟨y34.Meta,y34.Selector,y34.MinAvailable,y34.MaxUnavailable,y34.Observed,y34.Healthy,y34.Desired,y34.Expected,(IntKind.i64.wrap (y33.Allowed-1)),y34.Disrupted⟩:Budget)))) o20_1).bind fun y35=>(rdI ((o20_0.set o20_1.toNat ((⟨y34.Meta,y34.Selector,y34.MinAvailable,y34.MaxUnavailable,y34.Observed,y34.Healthy,y34.Desired,y34.Expected,(IntKind.i64.wrap (y33.Allowed-1)),y34.Disrupted⟩:Budget)))) o20_1).bind fun y36=>(rdI ((((o20_0.set o20_1.toNat ((⟨y34.Meta,y34.Selector,y34.MinAvailable,y34.MaxUnavailable,y34.Observed,y34.Healthy,y34.Desired,y34.Expected,(IntKind.i64.wrap (y33.Allowed-1)),y34.Disrupted⟩:Budget)))).set o20_1.toNat ((⟨y36.Meta,y36.Selector,y36.MinAvailable,y36.MaxUnavailable,y36.Observed,(IntKind.i64.wrap (y35.Healthy-1)),y36.Desired,y36.Expected,y36.Allowed,y36.Disrupted⟩:Budget)))) o20_1).bind fun y37=>(F22 x3 0 1000000000000).bind fun t38=>(F48 y37.Disrupted ((⟨x2,(if(1000000000000:Int)<(if x3<(0:Int)then(0:Int)else x3)then(1000000000000:Int)else(if x3<(0:Int)then(0:Int)else x3))⟩:WorkItem))).bind fun t39=>(rdI ((((o20_0.set o20_1.toNat ((⟨y34.Meta,y34.Selector,y34.MinAvailable,y34.MaxUnavailable,y34.Observed,y34.Healthy,y34.Desired,y34.Expected,(IntKind.i64.wrap (y33.Allowed-1)),y34.Disrupted⟩:Budget)))).set o20_1.toNat ((⟨y36.Meta,y36.Selector,y36.MinAvailable,y36.MaxUnavailable,y36.Observed,(IntKind.i64.wrap (y35.Healthy-1)),y36.Desired,y36.Expected,y36.Allowed,y36.Disrupted⟩:Budget)))) o20_1).bind fun y40=>some ((((((o20_0.set o20_1.toNat ((⟨y34.Meta,y34.Selector,y34.MinAvailable,y34.MaxUnavailable,y34.Observed,y34.Healthy,y34.Desired,y34.Expected,(IntKind.i64.wrap (y33.Allowed-1)),y34.Disrupted⟩:Budget)))).set o20_1.toNat ((⟨y36.Meta,y36.Selector,y36.MinAvailable,y36.MaxUnavailable,y36.Observed,(IntKind.i64.wrap (y35.Healthy-1)),y36.Desired,y36.Expected,y36.Allowed,y36.Disrupted⟩:Budget)))).set o20_1.toNat ((⟨y40.Meta,y40.Selector,y40.MinAvailable,y40.MaxUnavailable,y40.Observed,y40.Healthy,y40.Desired,y40.Expected,y40.Allowed,t39⟩:Budget))))else some o20_0))).bind fun o25=>F15_l20 x2 x3 y17 k o25 ((IntKind.i64.wrap (o20_1+1))))else some o20_0))
def F15(x0:(List Budget))(x1:(List Pod))(x2:ByteArray)(x3:Int):Option ((List Budget)×Int):=(((ck (0≤x0.length∧x0.length≤4294967290)).bind fun u5=>F15_l1 x0 0 ([])).bind fun o1=>((F15_l6 x1 x2 1099511627776 0).bind fun o6=>(((if o6=(x1.length:Int)then some true else(rdI x1 o6).bind fun y14=>(F47 y14).bind fun t15=>some (nb t15))).bind fun o12=>(if o12=true then some ((o1,7))else(rdI x1 o6).bind fun y17=>(F17 x0 x1 y17).bind fun t18=>(if(nb t18)=true then some ((o1,16))else((F15_l20 x2 x3 y17 1099511627776 o1 0).bind fun o20=>some ((o20,0))))))))
def a15:AFn:=⟨129,[(.tmp 8),(.tmp 9)],
 (.seq (.reg [sq 8 (.mv kN),
Qe 9 0])
 (.seq (.reg [sq 10 (.mv kN)])
 (.seq (.seq (.reg [Qe 11 0])
 (.sem (.block 0 (.loop (.seq (.seq (.reg [Qa 15 11,
Qa 16 0,
Qh 17 16,
Qn 18 15 17])
 (.cond (.t 18)
 .skip
 (.exit 0)))
 (.seq (.block 1 (.reg [Qa 21 10,
Qa 22 0,
Qa 23 11,
Qp 24 22 22 23,
Qc 25 22 24,
Qk 26 33 25,
sq 27 (.bslice 22 [(.t 26)]),
sq 28 (.app 22 328 (.t 21) (.t 27)),
Qa 10 28]))
 (.reg [Qa 19 11,
Qm 20 19 1,
Qa 11 20])))))))
 (.seq (.reg [Qe 12 0])
 (.seq (.sem (.block 2 (.loop (.seq (.seq (.sem (.reg [Qa 29 12,
Qa 30 1,
Qh 31 30,
Qn 32 29 31,
Qa 33 32,
Qv 34 33 true 1,
Qv 35 33 true 12,
zg 36 33 true (.indexA 32 (.t 34) (.t 35)),
Qs 37 33 true 0 36,
Qu 38 33 true 13 37,
zg 39 33 true (.call 20 [(.t 38)]),
Qv 40 33 true 2,
zg 41 33 true (.bin .neq (.t 39) (.t 40)),
Qi 42 33 41]))
 (.cond (.t 42)
 .skip
 (.exit 2)))
 (.block 3 (.reg [Qa 43 12,
Qm 44 43 1,
Qa 12 44]))))))
 (.seq (.seq (.sem (.reg [Qa 45 12,
Qa 46 1,
Qh 47 46,
sq 48 (.bin .eql (.t 45) (.t 47)),
Qa 49 48,
Qv 50 49 false 1,
Qv 51 49 false 12,
zg 52 49 false (.indexA 32 (.t 50) (.t 51)),
Qu 53 49 false 32 52,
zg 54 49 false (.call 47 [(.t 53)]),
zg 55 49 false (.not (.t 54)),
Qj 56 49 55]))
 (.cond (.t 56)
 (.seq (.reg [Qa 57 10,
Qa 8 57,
Qe 9 7])
 .ret)
 .skip))
 (.seq (.reg [Qa 58 1,
Qa 59 12,
Qp 60 32 58 59,
Qc 61 32 60,
sq 13 (.zbox [dS ⟨#[]⟩,dS ⟨#[]⟩,dS ⟨#[]⟩,dI 0,dI 0,dI 0,dI 0,dB false,dI 0,dN,dN,dN,dN,dS ⟨#[]⟩,dI 0,dI 0,dI 0,dN,dN,dN,dN,dN,dN,dI 0,dB false,dI 0,dI 0,dI 0,dN,dI 0,dS ⟨#[]⟩,dS ⟨#[]⟩]),
su (.store 32 (.t 13) (.t 61))])
 (.seq (.seq (.reg [Qa 62 0,
Qa 63 1,
Qc 64 32 13,
sq 65 (.call 17 [(.t 62),(.t 63),(.t 64)]),
Qq 66 65])
 (.cond (.t 66)
 (.seq (.reg [Qa 67 10,
Qa 8 67,
Qe 9 16])
 .ret)
 .skip))
 (.seq (.seq (.reg [Qe 14 0])
 (.sem (.block 4 (.loop (.seq (.seq (.sem (.reg [Qa 68 14,
Qa 69 10,
Qh 70 69,
Qn 71 68 70,
Qa 72 71,
Qu 73 72 true 32 13,
zg 74 72 true (.call 36 [(.t 73)]),
Qi 75 72 74]))
 (.cond (.t 75)
 .skip
 (.exit 4)))
 (.seq (.sem (.block 5 (.seq (.sem (.regd [Qa 78 10,
Qa 79 14,
sd 80 (.indexA 22 (.t 78) (.t 79)) [0,1],
sd 81 (.load (some 22) (.t 80)) [0,1,2],
Qc 82 32 13,
zl 83 (.call 35 [(.t 81),(.t 82)]) [0,1,2,3,4] [],
sd 84 (.mv (.t 83)) [0,1,2,3,4,5],
⟨(some 85),(some (84,true)),.mv (.t 10),[0,1,2,3,4,5,6],(.new [])⟩,
⟨(some 86),(some (84,true)),.mv (.t 14),[0,1,2,3,4,5,6],(.new [])⟩,
⟨(some 87),(some (84,true)),.indexA 22 (.t 85) (.t 86),[0,1,2,3,4,5,6,7,8],(.new [])⟩,
⟨(some 88),(some (84,true)),.fieldA 21 (.t 87),[0,1,2,3,4,5,6,7,8,9],(.new [])⟩,
⟨(some 89),(some (84,true)),.load none (.t 88),[0,1,2,3,4,5,6,7,8,9,10],(.new [])⟩,
⟨(some 90),(some (84,true)),.mv (.t 2),[0,1,2,3,4,5,6],(.new [])⟩,
⟨(some 91),(some (84,true)),.call 37 [(.t 89),(.t 90)],[0,1,2,3,4,5,6,7,8,9,10,11,12],(.lone [])⟩,
⟨(some 92),(some (84,true)),.not (.t 91),[0,1,2,3,4,5,6,7,8,9,10,11,12,13],(.new [])⟩,
zl 93 (.pick (.t 84) (.t 92) (kB false)) [0,1,2,3,4,5,6,7,8,9,10,11,12,13,14] []]))
 (.cond (.t 93)
 (.seq (.reg [Qa 94 10,
Qa 95 14,
Qa 96 10,
Qa 97 14,
Qp 98 22 96 97,
Qb 99 20 98,
Qd 100 99,
sq 101 (.bin .sub (.t 100) (kI 1)),
Qp 102 22 94 95,
Qb 103 20 102,
⟨none,none,.store 1 (.t 103) (.t 101),[],(.lone [96,98,99,94,102])⟩])
 (.seq (.reg [Qa 104 10,
Qa 105 14,
Qa 106 10,
Qa 107 14,
Qp 108 22 106 107,
Qb 109 17 108,
Qd 110 109,
sq 111 (.bin .sub (.t 110) (kI 1)),
Qp 112 22 104 105,
Qb 113 17 112,
⟨none,none,.store 1 (.t 113) (.t 111),[],(.lone [106,108,109,104,112])⟩])
 (.regd [Qa 114 10,
Qa 115 14,
Qa 116 10,
Qa 117 14,
sd 118 (.indexA 22 (.t 116) (.t 117)) [2,3],
sd 119 (.fieldA 21 (.t 118)) [2,3,4],
sd 120 (.load none (.t 119)) [2,3,4,5],
Qa 121 2,
Qa 122 3,
zl 123 (.call 22 [(.t 122),(kI 0),(kI 1000000000000)]) [8] [116,118,119],
zl 124 (.build [dS ⟨#[]⟩,dI 0] [(0,1,(.t 121)),(1,1,(.t 123))]) [7,8,9] [116,118,119],
zl 125 (.call 48 [(.t 120),(.t 124)]) [2,3,4,5,6,7,8,9,10] [],
sd 126 (.indexA 22 (.t 114) (.t 115)) [0,1,2,3,4,5,6,7,8,9,10,11],
sd 127 (.fieldA 21 (.t 126)) [0,1,2,3,4,5,6,7,8,9,10,11,12],
⟨none,none,.store 1 (.t 127) (.t 125),[0,1,2,3,4,5,6,7,8,9,10,11,12,13],(.lone [])⟩])))
 .skip))))
 (.reg [Qa 76 14,
Qm 77 76 1,
Qa 14 77])))))))
 (.seq (.reg [Qa 128 10,
Qa 8 128,
Qe 9 0])
 .ret))))))))))⟩
theorem F15_ok{x0 x1 x2 x3 r}(h:F15 x0 x1 x2 x3=some r):CallD Try.prog 15 [.c (dM (x0.map eBudget)),.c (dM (x1.map ePod)),.c (dS x2),.c (dI x3)] [] (tupV [.c (.own 0 0 0 (r.1.length) none),.c (dI r.2)]) [some (.arr 0 22 (r.1.map eBudget))]:=by
 rw[F15]at h
 refine zc a15 (by kernel_rfl) rfl (ww ?_)
 obtain⟨o1,ho,h⟩:=bi h
 refine cutS (fun s=>s=⟨[(0,oc (dM (x0.map eBudget))),(1,oc (dM (x1.map ePod))),(2,oc (dS x2)),(3,oc (dI x3)),(10,oc (.own 0 0 0 (o1.length) none))],[some (.arr 0 22 (o1.map eBudget))]⟩) ?_ ?_
 ·have h:=ho
  clear ho
  obtain⟨_,hk,h⟩:=bi h
  have hk:=ck_some hk
  refine ww ?_
  refine bL (fun j s=>∃(o1_1:Nat) (o1_0:List Budget),(o1_1≤x0.length∧j=x0.length-o1_1)∧s=⟨[(0,oc (dM (x0.map eBudget))),(1,oc (dM (x1.map ePod))),(2,oc (dS x2)),(3,oc (dI x3)),(10,oc (.own 0 0 0 (o1_0.length) none)),(11,oc (dI ((o1_1:Int))))],[some (.arr 0 22 (o1_0.map eBudget))]⟩∧F15_l1 (x0.drop o1_1) o1_1 o1_0=some o1) (x0.length-0) [none] ⟨0,[],⟨hk.1,rfl⟩,rfl,h⟩ ?_
  rintro _ _ ⟨o1_1,o1_0,⟨hi,rfl⟩,rfl,h⟩
  refine ww ?_
  refine condS (fun c2=>?_) (fun c2=>?_)
  ·obtain⟨xo1,hxo1,hd⟩:=countY (show(o1_1:Int)<(x0.length:Int)from c2)
   rw[hd,F15_l1]at h
   refine ww ?_
   refine t_idxF (enc:=eBudget) (xs:=x0) rfl rfl hxo1 rfl (ww ?_)
   obtain⟨t3,ht3,h⟩:=bi h
   refine cN [] (F33_ok ht3) trivial (ww ?_)
   refine t_bslice (enc:=eBudget) (ys:=[(⟨xo1.Meta,xo1.Selector,xo1.MinAvailable,xo1.MaxUnavailable,xo1.Observed,xo1.Healthy,xo1.Desired,xo1.Expected,xo1.Allowed,t3⟩:Budget)]) rfl rfl (by simp[A1.cells]) (by first|rfl|(simp only[List.drop_zero,take_mapL];rfl)|(simp only[lit,List.map_cons,List.map_nil,List.drop_zero,take_mapL,EE.down];done)|(simp only[lit,List.map_cons,List.map_nil,List.drop_zero,take_mapL,EE.down];rfl)) (ww ?_)
   obtain⟨a4,ha4,h⟩:=bi h
   refine t_app (enc:=eBudget) (xs:=o1_0) rfl rfl (by first|rfl|simp only[List.length_set]|exact(clrL_len (slI_len (by assumption))).symm) rfl (rows_full (enc:=eBudget) (by first|rfl|simp only[List.length_set]|exact(clrL_len (slI_len (by assumption))).symm) rfl) ha4 (ww ?_)
   rw[wrapN (by omega)]
   exact eL' (x0.length-(o1_1+1)) [some 0] ⟨o1_1+1,a4,⟨by omega,rfl⟩,rfl,h⟩ (by omega)
  rw[countN (show¬((o1_1:Int)<(x0.length:Int))from c2),F15_l1]at h
  refine ww ?_
  cases h
  exact eM [some 0] rfl
 rintro _ rfl
 clear ho
 refine ww ?_
 obtain⟨o6,ho,h⟩:=bi h
 refine cutS (fun s=>s=⟨[(0,oc (dM (x0.map eBudget))),(1,oc (dM (x1.map ePod))),(2,oc (dS x2)),(3,oc (dI x3)),(10,oc (.own 0 0 0 (o1.length) none)),(12,oc (dI o6))],[some (.arr 0 22 (o1.map eBudget))]⟩) ?_ ?_
 ·have h:=ho
  clear ho
  refine ww ?_
  refine bL (fun j s=>∃(o6_0:Int),s=⟨[(0,oc (dM (x0.map eBudget))),(1,oc (dM (x1.map ePod))),(2,oc (dS x2)),(3,oc (dI x3)),(10,oc (.own 0 0 0 (o1.length) none)),(12,oc (dI o6_0))],[some (.arr 0 22 (o1.map eBudget))]⟩∧F15_l6 x1 x2 j o6_0=some o6) 1099511627776 [some 0] ⟨0,rfl,h⟩ ?_
  rintro j _ ⟨o6_0,rfl,h⟩
  cases j with
  |zero=>cases(show(none:Option _)=some _ from h)
  |succ j=>
   rw[F15_l6]at h
   refine ww ?_
   obtain⟨o7,ho,h⟩:=bi h
   refine cutS (fun s=>s=⟨[(0,oc (dM (x0.map eBudget))),(1,oc (dM (x1.map ePod))),(2,oc (dS x2)),(3,oc (dI x3)),(10,oc (.own 0 0 0 (o1.length) none)),(12,oc (dI o6_0)),(42,oc (dB o7))],[some (.arr 0 22 (o1.map eBudget))]⟩) ?_ ?_
   ·have h:=ho
    clear ho
    refine ww ?_
    refine guardSh h (fun g8 h=>ww ?_) (fun g8 h=>?_)
    ·obtain⟨y9,hy9,h⟩:=bi h
     refine t_idxF (enc:=ePod) (xs:=x1) rfl rfl hy9 rfl (ww ?_)
     obtain⟨t10,ht10,h⟩:=bi h
     refine cN [] (F20_ok ht10) trivial (ww ?_)
     cases h
     exact eM [some 0] rfl
    ·refine ww ?_
     cases h
     exact eM [some 0] rfl
   ·rintro _ rfl
    clear ho
    refine ww ?_
    refine condBh h (fun c11 h=>ww ?_) (fun c11 h=>?_)
    ·exact eL' j [some 0] ⟨(IntKind.i64.wrap (o6_0+1)),rfl,h⟩ (Nat.lt_succ_self _)
    ·refine ww ?_
     cases h
     exact eM [some 0] rfl
 rintro _ rfl
 clear ho
 refine ww ?_
 obtain⟨o12,ho,h⟩:=bi h
 refine cutS (fun s=>s=⟨[(0,oc (dM (x0.map eBudget))),(1,oc (dM (x1.map ePod))),(2,oc (dS x2)),(3,oc (dI x3)),(10,oc (.own 0 0 0 (o1.length) none)),(12,oc (dI o6)),(56,oc (dB o12))],[some (.arr 0 22 (o1.map eBudget))]⟩) ?_ ?_
 ·have h:=ho
  clear ho
  refine ww ?_
  refine guardSh h (fun g13 h=>ww ?_) (fun g13 h=>ww ?_)
  ·cases h
   exact eM [some 0] rfl
  obtain⟨y14,hy14,h⟩:=bi h
  refine t_idxF (enc:=ePod) (xs:=x1) rfl rfl hy14 rfl (ww ?_)
  obtain⟨t15,ht15,h⟩:=bi h
  refine cN [] (F47_ok ht15) trivial (ww ?_)
  cases h
  exact eM [some 0] rfl
 rintro _ rfl
 clear ho
 refine ww ?_
 refine condBh h (fun c16 h=>ww ?_) (fun c16 h=>ww ?_)
 ·cases h
  exact eF [some 0]
 obtain⟨y17,hy17,h⟩:=bi h
 refine t_idxF (enc:=ePod) (xs:=x1) rfl rfl hy17 rfl (ww ?_)
 obtain⟨t18,ht18,h⟩:=bi h
 refine cN [] (F17_ok ht18) trivial (ww ?_)
 refine condBh h (fun c19 h=>ww ?_) (fun c19 h=>ww ?_)
 ·cases h
  exact eF [some 0]
 obtain⟨o20,ho,h⟩:=bi h
 refine cutS (fun s=>s=⟨[(10,oc (.own 0 0 0 (o20.length) none))],[some (.arr 0 22 (o20.map eBudget))]⟩) ?_ ?_
 ·have h:=ho
  clear ho
  refine ww ?_
  refine bL (fun j s=>∃(o20_0:List Budget) (o20_1:Int),s=⟨[(2,oc (dS x2)),(3,oc (dI x3)),(10,oc (.own 0 0 0 (o20_0.length) none)),(13,Pz 1),(14,oc (dI o20_1))],[some (.arr 0 22 (o20_0.map eBudget)),xb (bPod y17)]⟩∧F15_l20 x2 x3 y17 j o20_0 o20_1=some o20) 1099511627776 [some 0,some 1] ⟨o1,0,rfl,h⟩ ?_
  rintro j _ ⟨o20_0,o20_1,rfl,h⟩
  cases j with
  |zero=>cases(show(none:Option _)=some _ from h)
  |succ j=>
   rw[F15_l20]at h
   refine ww ?_
   obtain⟨o21,ho,h⟩:=bi h
   refine cutS (fun s=>s=⟨[(2,oc (dS x2)),(3,oc (dI x3)),(10,oc (.own 0 0 0 (o20_0.length) none)),(13,Pz 1),(14,oc (dI o20_1)),(75,oc (dB o21))],[some (.arr 0 22 (o20_0.map eBudget)),xb (bPod y17)]⟩) ?_ ?_
   ·have h:=ho
    clear ho
    refine ww ?_
    refine guardSh h (fun g22 h=>ww ?_) (fun g22 h=>?_)
    ·obtain⟨t23,ht23,h⟩:=bi h
     refine cN [] (F36_ok ht23) trivial (ww ?_)
     cases h
     exact eM [some 0,some 1] rfl
    ·refine ww ?_
     cases h
     exact eM [some 0,some 1] rfl
   ·rintro _ rfl
    clear ho
    refine ww ?_
    refine condBh h (fun c24 h=>ww ?_) (fun c24 h=>?_)
    ·obtain⟨o25,ho,h⟩:=bi h
     refine cutS (fun s=>s=⟨[(2,oc (dS x2)),(3,oc (dI x3)),(10,oc (.own 0 0 0 (o25.length) none)),(13,Pz 1),(14,oc (dI o20_1))],[some (.arr 0 22 (o25.map eBudget)),xb (bPod y17)]⟩) ?_ ?_
     ·have h:=ho
      clear ho
      refine ww ?_
      obtain⟨o26,ho,h⟩:=bi h
      refine cutS (fun s=>s=⟨[(2,oc (dS x2)),(3,oc (dI x3)),(10,oc (.own 0 0 0 (o20_0.length) none)),(13,Pz 1),(14,oc (dI o20_1)),(93,oc (dB o26))],[some (.arr 0 22 (o20_0.map eBudget)),xb (bPod y17)]⟩) ?_ ?_
      ·have h:=ho
       clear ho
       refine ww ?_
       obtain⟨y27,hy27,h⟩:=bi h
       refine t_idxO (enc:=eBudget) (xs:=o20_0) rfl rfl rfl (by first|rfl|simp only[List.length_set]|exact(clrL_len (slI_len (by assumption))).symm) hy27 (ww ?_)
       refine LdRow.rd (rdI_some hy27).2.1 (ww ?_)
       obtain⟨t28,ht28,h⟩:=bi h
       refine cN [] (F35_ok ht28) trivial (ww ?_)
       refine guardDBh h (fun g29 h=>ww ?_) (fun g29 h=>?_)
       ·obtain⟨y30,hy30,h⟩:=bi h
        refine t_idxO (enc:=eBudget) (xs:=o20_0) rfl rfl rfl (by first|rfl|simp only[List.length_set]|exact(clrL_len (slI_len (by assumption))).symm) hy30 (ww ?_)
        refine LdRow.rd (rdI_some hy30).2.1 (ww ?_)
        obtain⟨t31,ht31,h⟩:=bi h
        refine cN [] (F37_ok ht31) trivial (ww ?_)
        cases h
        exact eM [some 0,some 1] rfl
       ·refine ww ?_
        cases h
        exact eM [some 0,some 1] rfl
      ·rintro _ rfl
       clear ho
       refine ww ?_
       refine condBh h (fun c32 h=>ww ?_) (fun c32 h=>?_)
       ·obtain⟨y33,hy33,h⟩:=bi h
        refine t_idxO (enc:=eBudget) (xs:=o20_0) rfl rfl rfl (by first|rfl|simp only[List.length_set]|exact(clrL_len (slI_len (by assumption))).symm) hy33 (ww ?_)
        refine LdRow.rd (rdI_some hy33).2.1 (ww ?_)
        obtain⟨y34,hy34,h⟩:=bi h
        refine t_idxO (enc:=eBudget) (xs:=o20_0) rfl rfl rfl (by first|rfl|simp only[List.length_set]|exact(clrL_len (slI_len (by assumption))).symm) hy34 (ww ?_)
        refine StRow.rd (y':=(⟨y34.Meta,y34.Selector,y34.MinAvailable,y34.MaxUnavailable,y34.Observed,y34.Healthy,y34.Desired,y34.Expected,(IntKind.i64.wrap (y33.Allowed-1)),y34.Disrupted⟩:Budget)) (rdI_some hy34).2.1 (by simp[EE.down]) (by first|rfl|(simp only[bor_full'];rfl)) (ww ?_)
        obtain⟨y35,hy35,h⟩:=bi h
        refine t_idxO (enc:=eBudget) (xs:=((o20_0.set o20_1.toNat ((⟨y34.Meta,y34.Selector,y34.MinAvailable,y34.MaxUnavailable,y34.Observed,y34.Healthy,y34.Desired,y34.Expected,(IntKind.i64.wrap (y33.Allowed-1)),y34.Disrupted⟩:Budget))))) rfl rfl rfl (by first|rfl|simp only[List.length_set]|exact(clrL_len (slI_len (by assumption))).symm) hy35 (ww ?_)
        refine LdRow.rd (rdI_some hy35).2.1 (ww ?_)
        obtain⟨y36,hy36,h⟩:=bi h
        refine t_idxO (enc:=eBudget) (xs:=((o20_0.set o20_1.toNat ((⟨y34.Meta,y34.Selector,y34.MinAvailable,y34.MaxUnavailable,y34.Observed,y34.Healthy,y34.Desired,y34.Expected,(IntKind.i64.wrap (y33.Allowed-1)),y34.Disrupted⟩:Budget))))) rfl rfl rfl (by first|rfl|simp only[List.length_set]|exact(clrL_len (slI_len (by assumption))).symm) hy36 (ww ?_)
        refine StRow.rd (y':=(⟨y36.Meta,y36.Selector,y36.MinAvailable,y36.MaxUnavailable,y36.Observed,(IntKind.i64.wrap (y35.Healthy-1)),y36.Desired,y36.Expected,y36.Allowed,y36.Disrupted⟩:Budget)) (rdI_some hy36).2.1 (by simp[EE.down]) (by first|rfl|(simp only[bor_full'];rfl)) (ww ?_)
        obtain⟨y37,hy37,h⟩:=bi h
        refine t_idxO (enc:=eBudget) (xs:=((((o20_0.set o20_1.toNat ((⟨y34.Meta,y34.Selector,y34.MinAvailable,y34.MaxUnavailable,y34.Observed,y34.Healthy,y34.Desired,y34.Expected,(IntKind.i64.wrap (y33.Allowed-1)),y34.Disrupted⟩:Budget)))).set o20_1.toNat ((⟨y36.Meta,y36.Selector,y36.MinAvailable,y36.MaxUnavailable,y36.Observed,(IntKind.i64.wrap (y35.Healthy-1)),y36.Desired,y36.Expected,y36.Allowed,y36.Disrupted⟩:Budget))))) rfl rfl rfl (by first|rfl|simp only[List.length_set]|exact(clrL_len (slI_len (by assumption))).symm) hy37 (ww ?_)
        refine LdRow.rd (rdI_some hy37).2.1 (ww ?_)
        obtain⟨t38,ht38,h⟩:=bi h
        refine cN [] (F22_ok ht38) trivial (ww ?_)
        obtain⟨t39,ht39,h⟩:=bi h
        refine cN [] (F48_ok ht39) trivial (ww ?_)
        obtain⟨y40,hy40,h⟩:=bi h
        refine t_idxO (enc:=eBudget) (xs:=((((o20_0.set o20_1.toNat ((⟨y34.Meta,y34.Selector,y34.MinAvailable,y34.MaxUnavailable,y34.Observed,y34.Healthy,y34.Desired,y34.Expected,(IntKind.i64.wrap (y33.Allowed-1)),y34.Disrupted⟩:Budget)))).set o20_1.toNat ((⟨y36.Meta,y36.Selector,y36.MinAvailable,y36.MaxUnavailable,y36.Observed,(IntKind.i64.wrap (y35.Healthy-1)),y36.Desired,y36.Expected,y36.Allowed,y36.Disrupted⟩:Budget))))) rfl rfl rfl (by first|rfl|simp only[List.length_set]|exact(clrL_len (slI_len (by assumption))).symm) hy40 (ww ?_)
        refine StRow.rd (y':=(⟨y40.Meta,y40.Selector,y40.MinAvailable,y40.MaxUnavailable,y40.Observed,y40.Healthy,y40.Desired,y40.Expected,y40.Allowed,t39⟩:Budget)) (rdI_some hy40).2.1 (by simp[EE.down]) (by first|rfl|(simp only[bor_full'];rfl)) (ww ?_)
        cases h
        exact eM [some 0,some 1] rfl
       ·refine ww ?_
        cases h
        exact eM [some 0,some 1] rfl
     ·rintro _ rfl
      clear ho
      refine ww ?_
      exact eL' j [some 0,some 1] ⟨o25,(IntKind.i64.wrap (o20_1+1)),rfl,h⟩ (Nat.lt_succ_self _)
    ·refine ww ?_
     cases h
     exact eM [some 0] rfl
 rintro _ rfl
 clear ho
 refine ww ?_
 cases h
 exact eF [some 0]
def F4_l9(x0:(List Budget))(x1:(List Pod)):List Pod→Nat→Option ((Bool) ⊕ (Unit))
 |[],o9_0=>some (Sum.inr (()))
 |xo9::xs,o9_0=>(F16 x0 x1 xo9).bind fun t11=>(F17 x0 x1 xo9).bind fun t12=>(if(((t11==t12)!=true))=true then(some false).map Sum.inl else F4_l9 x0 x1 xs (o9_0+1))
def F4(x0:(List Budget))(x1:(List Pod))(x2:ByteArray)(x3:Int):Option (Bool):=(((F8 x0 x1).bind fun t2=>(if t2=true then some true else(F13 x0).bind fun t4=>some (nb t4))).bind fun o1=>(if o1=true then(F9).bind fun t6=>some t6 else(F14 x0 x1 x2 x3).bind fun t7=>(F15 x0 x1 x2 x3).bind fun t8=>(((ck (0≤x1.length∧x1.length≤4294967290)).bind fun u14=>F4_l9 x0 x1 x1 0:Option ((Bool) ⊕ (Unit))).bind fun o9=>match o9 with|Sum.inl f=>some f|Sum.inr po9=>(((F18 t7.1 t8.1).bind fun t16=>(if t16=true then(if t7.2=t8.2 then(F9).bind fun t19=>some t19 else some false)else some false)).bind fun o15=>some o15))))
def a4:AFn:=⟨71,[(.tmp 8)],
 (.seq (.reg [Qf 8 false])
 (.seq (.seq (.sem (.reg [Qa 14 0,
Qa 15 1,
Ql 16 8 14 15,
Qa 17 16,
Qv 18 17 false 0,
zg 19 17 false (.call 13 [(.t 18)]),
zg 20 17 false (.not (.t 19)),
Qj 21 17 20]))
 (.cond (.t 21)
 (.seq (.reg [sq 22 (.call 9 []),
Qa 8 22])
 .ret)
 .skip))
 (.seq (.reg [Qa 24 0,
Qa 25 1,
Qa 26 2,
Qa 27 3,
sq 28 (.call 14 [(.t 24),(.t 25),(.t 26),(.t 27)]),
Qa 23 28,
Qo 29 23 0,
Qo 30 23 1,
Qa 9 29,
Qa 10 30])
 (.seq (.reg [Qa 32 0,
Qa 33 1,
Qa 34 2,
Qa 35 3,
sq 36 (.call 15 [(.t 32),(.t 33),(.t 34),(.t 35)]),
Qa 31 36,
Qo 37 31 0,
Qo 38 31 1,
Qa 11 37,
Qa 12 38])
 (.seq (.seq (.reg [Qe 13 0])
 (.sem (.block 0 (.loop (.seq (.seq (.reg [Qa 39 13,
Qa 40 1,
Qh 41 40,
Qn 42 39 41])
 (.cond (.t 42)
 .skip
 (.exit 0)))
 (.seq (.block 1 (.seq (.regd [Qa 45 0,
Qa 46 1,
Qa 47 1,
Qa 48 13,
sd 49 (.indexA 32 (.t 47) (.t 48)) [2,3],
sd 50 (.load (some 32) (.t 49)) [2,3,4],
zn 51 (.call 16 [(.t 45),(.t 46),(.t 50)]) [0,1,2,3,4,5] [0,1,2,3,4,5],
Qa 52 0,
Qa 53 1,
Qa 54 1,
Qa 55 13,
sd 56 (.indexA 32 (.t 54) (.t 55)) [9,10],
sd 57 (.load (some 32) (.t 56)) [9,10,11],
zl 58 (.call 17 [(.t 52),(.t 53),(.t 57)]) [0,1,2,3,4,5,6,7,8,9,10,11,12] [],
sd 59 (.beq true (.t 51) (.t 58)) [0,1,2,3,4,5,6,7,8,9,10,11,12,13]])
 (.cond (.t 59)
 (.seq (.reg [Qf 8 false])
 .ret)
 .skip)))
 (.reg [Qa 43 13,
Qm 44 43 1,
Qa 13 44])))))))
 (.seq (.sem (.reg [Qa 60 9,
Qa 61 11,
Ql 62 18 60 61,
Qa 63 62,
Qv 64 63 true 10,
Qv 65 63 true 12,
zg 66 63 true (.bin .eql (.t 64) (.t 65)),
Qi 67 63 66,
Qa 68 67,
zg 69 68 true (.call 9 []),
Qi 70 68 69,
Qa 8 70]))
 .ret))))))⟩
theorem F4_ok{x0 x1 x2 x3 r}(h:F4 x0 x1 x2 x3=some r):CallD Try.prog 4 [.c (dM (x0.map eBudget)),.c (dM (x1.map ePod)),.c (dS x2),.c (dI x3)] [] (tupV [.c (dB r)]) []:=by
 rw[F4]at h
 refine zc a4 (by kernel_rfl) rfl (ww ?_)
 obtain⟨o1,ho,h⟩:=bi h
 refine cutS (fun s=>s=⟨[(0,oc (dM (x0.map eBudget))),(1,oc (dM (x1.map ePod))),(2,oc (dS x2)),(3,oc (dI x3)),(21,oc (dB o1))],[]⟩) ?_ ?_
 ·have h:=ho
  clear ho
  refine ww ?_
  obtain⟨t2,ht2,h⟩:=bi h
  refine cN [] (F8_ok ht2) trivial (ww ?_)
  refine guardSBh h (fun g3 h=>ww ?_) (fun g3 h=>ww ?_)
  ·cases h
   exact eM [] rfl
  obtain⟨t4,ht4,h⟩:=bi h
  refine cN [] (F13_ok ht4) trivial (ww ?_)
  cases h
  exact eM [] rfl
 rintro _ rfl
 clear ho
 refine ww ?_
 refine condBh h (fun c5 h=>ww ?_) (fun c5 h=>ww ?_)
 ·obtain⟨t6,ht6,h⟩:=bi h
  refine cN [] (F9_ok ht6) trivial (ww ?_)
  cases h
  exact eF []
 obtain⟨t7,ht7,h⟩:=bi h
 refine cN [] (F14_ok ht7) trivial (ww ?_)
 obtain⟨t8,ht8,h⟩:=bi h
 refine cN [] (F15_ok ht8) trivial (ww ?_)
 obtain⟨o9,ho,h⟩:=bi h
 refine cutS (fun s=>∃po9,o9=Sum.inr po9∧s=⟨[(9,oc (.own 0 0 0 (t7.1.length) none)),(10,oc (dI t7.2)),(11,oc (.own 1 0 0 (t8.1.length) none)),(12,oc (dI t8.2))],[some (.arr 0 22 (t7.1.map eBudget)),some (.arr 0 22 (t8.1.map eBudget))]⟩) ?_ ?_
 ·have h0o9:=h
  have h:=ho
  clear ho
  obtain⟨_,hk,h⟩:=bi h
  have hk:=ck_some hk
  refine ww ?_
  refine bL (fun j s=>∃(o9_0:Nat),(o9_0≤x1.length∧j=x1.length-o9_0)∧s=⟨[(0,oc (dM (x0.map eBudget))),(1,oc (dM (x1.map ePod))),(9,oc (.own 0 0 0 (t7.1.length) none)),(10,oc (dI t7.2)),(11,oc (.own 1 0 0 (t8.1.length) none)),(12,oc (dI t8.2)),(13,oc (dI ((o9_0:Int))))],[some (.arr 0 22 (t7.1.map eBudget)),some (.arr 0 22 (t8.1.map eBudget))]⟩∧F4_l9 x0 x1 (x1.drop o9_0) o9_0=some o9) (x1.length-0) [some 0,some 1] ⟨0,⟨hk.1,rfl⟩,rfl,h⟩ ?_
  rintro _ _ ⟨o9_0,⟨hi,rfl⟩,rfl,h⟩
  refine ww ?_
  refine condS (fun c10=>?_) (fun c10=>?_)
  ·obtain⟨xo9,hxo9,hd⟩:=countY (show(o9_0:Int)<(x1.length:Int)from c10)
   rw[hd,F4_l9]at h
   refine ww ?_
   refine t_idxF (enc:=ePod) (xs:=x1) rfl rfl hxo9 rfl (ww ?_)
   obtain⟨t11,ht11,h⟩:=bi h
   refine cN [] (F16_ok ht11) trivial (ww ?_)
   refine t_idxF (enc:=ePod) (xs:=x1) rfl rfl hxo9 rfl (ww ?_)
   obtain⟨t12,ht12,h⟩:=bi h
   refine cN [] (F17_ok ht12) trivial (ww ?_)
   refine condBh h (fun c13 h=>ww ?_) (fun c13 h=>ww ?_)
   ·obtain⟨fh0o9,hfh0o9,rfl⟩:=Option.map_eq_some_iff.1 h
    have h:=hfh0o9.trans h0o9
    cases h
    exact eF []
   rw[wrapN (by omega)]
   exact eL' (x1.length-(o9_0+1)) [some 0,some 1] ⟨o9_0+1,⟨by omega,rfl⟩,rfl,h⟩ (by omega)
  rw[countN (show¬((o9_0:Int)<(x1.length:Int))from c10),F4_l9]at h
  refine ww ?_
  cases h
  exact eM [some 0,some 1] ⟨_,rfl,rfl⟩
 rintro _ ⟨po9,rfl,rfl⟩
 clear ho
 dsimp only at h
 refine ww ?_
 obtain⟨o15,ho,h⟩:=bi h
 refine cutS (fun s=>s=⟨[(8,oc (dB o15))],[]⟩) ?_ ?_
 ·have h:=ho
  clear ho
  refine ww ?_
  obtain⟨t16,ht16,h⟩:=bi h
  refine callX_bor (F18_ok ht16) (by simp only[borAs,bors,hp,List.getElem?_cons_zero,List.getElem?_cons_succ,Option.join_some,List.drop_zero,bor_full',true_and,Nat.zero_add,List.length_map,Nat.le_refl,nrm,List.length_cons,List.length_nil,Nat.reduceAdd,Nat.reduceLeDiff,List.take_succ_cons,List.take_zero,List.take_nil,List.map_cons,List.map_nil,List.length_set,EE.down]) rfl ?_
  refine ww ?_
  refine guardSBh h (fun g17 h=>ww ?_) (fun g17 h=>ww ?_)
  ·refine guardSh h (fun g18 h=>ww ?_) (fun g18 h=>ww ?_)
   ·obtain⟨t19,ht19,h⟩:=bi h
    refine cN [] (F9_ok ht19) trivial (ww ?_)
    cases h
    exact eM [] rfl
   cases h
   exact eM [] rfl
  cases h
  exact eM [] rfl
 rintro _ rfl
 clear ho
 refine ww ?_
 cases h
 exact eF []
end Go.Proofs.Ytedgocbpegllaaa
