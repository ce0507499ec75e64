/- Each Go function as a function over typed data, and its walk. -/
import Derived.Test.YtedgocbpegllaaaW0
import Derived.Test.YtedgocbpegllaaaW1
import Derived.Test.YtedgocbpegllaaaW2
import Derived.Test.YtedgocbpegllaaaW3
namespace Go.Proofs.Ytedgocbpegllaaa
open Go Go.Fw Go.Shelf
set_option maxRecDepth 100000
set_option maxHeartbeats 4000000
set_option linter.unusedSimpArgs false
set_option linter.unusedVariables false
def F20(x0:Meta):Option (ByteArray):=(F51 x0.Kind x0.Namespace x0.Name).bind fun t1=>some t1
def a20:AFn:=⟨10,[(.tmp 2)],
 (.seq (.reg [Qg 1 0,
sq 2 (.mv (kS ⟨#[]⟩))])
 (.seq (.reg [Qb 3 0 1,
Qd 4 3,
Qb 5 1 1,
Qd 6 5,
Qb 7 2 1,
Qd 8 7,
sq 9 (.call 51 [(.t 4),(.t 6),(.t 8)]),
Qa 2 9])
 .ret))⟩
theorem F20_ok{x0 r}(h:F20 x0=some r):CallD Try.prog 20 [.agg (bMeta x0)] [] (tupV [.c (dS r)]) []:=by
 rw[F20]at h
 refine zc a20 (by kernel_rfl) rfl (ww ?_)
 obtain⟨t1,ht1,h⟩:=bi h
 refine cN [] (F51_ok ht1) trivial (ww ?_)
 cases h
 exact eF []
def F19_l3(o1_0:Nat)(x0:(List Pod))(xo1:Pod):Nat→Int→Option (((Bool) ⊕ (Unit)) ⊕ (Unit))
 |0,_=>none
 |k+1,o3_0=>(if o3_0<(o1_0:Int)then(F20 xo1.Meta).bind fun t5=>(rdI x0 o3_0).bind fun y6=>(F20 y6.Meta).bind fun t7=>(if t5=t7 then((some false).map Sum.inl).map Sum.inl else F19_l3 o1_0 x0 xo1 k ((IntKind.i64.wrap (o3_0+1))))else some (Sum.inr (())))
def F19_l1(x0:(List Pod)):List Pod→Nat→Option ((Bool) ⊕ (Unit))
 |[],o1_0=>some (Sum.inr (()))
 |xo1::xs,o1_0=>((F19_l3 o1_0 x0 xo1 1099511627776 0:Option (((Bool) ⊕ (Unit)) ⊕ (Unit))).bind fun o3=>match o3 with|Sum.inl f=>some f|Sum.inr po3=>F19_l1 x0 xs (o1_0+1))
def F19(x0:(List Pod)):Option (Bool):=(((ck (0≤x0.length∧x0.length≤4294967290)).bind fun u9=>F19_l1 x0 x0 0:Option ((Bool) ⊕ (Unit))).bind fun o1=>match o1 with|Sum.inl f=>some f|Sum.inr po1=>some true)
def a19:AFn:=⟨29,[(.tmp 2)],
 (.seq (.reg [Qf 2 false])
 (.seq (.seq (.reg [Qe 3 0])
 (.sem (.block 0 (.loop (.seq (.seq (.reg [Qa 5 3,
Qa 6 0,
Qh 7 6,
Qn 8 5 7])
 (.cond (.t 8)
 .skip
 (.exit 0)))
 (.seq (.block 1 (.seq (.reg [Qe 4 0])
 (.sem (.block 2 (.loop (.seq (.seq (.reg [Qa 11 4,
Qa 12 3,
Qn 13 11 12])
 (.cond (.t 13)
 .skip
 (.exit 2)))
 (.seq (.block 3 (.seq (.regd [Qa 16 0,
Qa 17 3,
sd 18 (.indexA 32 (.t 16) (.t 17)) [0,1],
sd 19 (.fieldA 0 (.t 18)) [0,1,2],
sd 20 (.load (some 13) (.t 19)) [0,1,2,3],
zn 21 (.call 20 [(.t 20)]) [0,1,2,3,4] [0,1,2,3,4],
Qa 22 0,
Qa 23 4,
sd 24 (.indexA 32 (.t 22) (.t 23)) [6,7],
sd 25 (.fieldA 0 (.t 24)) [6,7,8],
sd 26 (.load (some 13) (.t 25)) [6,7,8,9],
zl 27 (.call 20 [(.t 26)]) [0,1,2,3,4,5,6,7,8,9,10] [],
sd 28 (.bin .eql (.t 21) (.t 27)) [0,1,2,3,4,5,6,7,8,9,10,11]])
 (.cond (.t 28)
 (.seq (.reg [Qf 2 false])
 .ret)
 .skip)))
 (.reg [Qa 14 4,
Qm 15 14 1,
Qa 4 15]))))))))
 (.reg [Qa 9 3,
Qm 10 9 1,
Qa 3 10])))))))
 (.seq (.reg [Qf 2 true])
 .ret)))⟩
theorem F19_ok{x0 r}(h:F19 x0=some r):CallD Try.prog 19 [.c (dM (x0.map ePod))] [] (tupV [.c (dB r)]) []:=by
 rw[F19]at h
 refine zc a19 (by kernel_rfl) rfl (ww ?_)
 obtain⟨o1,ho,h⟩:=bi h
 refine cutS (fun s=>∃po1,o1=Sum.inr po1∧s=⟨[],[]⟩) ?_ ?_
 ·have h0o1:=h
  have h:=ho
  clear ho
  obtain⟨_,hk,h⟩:=bi h
  have hk:=ck_some hk
  refine ww ?_
  refine bL (fun j s=>∃(o1_0:Nat),(o1_0≤x0.length∧j=x0.length-o1_0)∧s=⟨[(0,oc (dM (x0.map ePod))),(3,oc (dI ((o1_0:Int))))],[]⟩∧F19_l1 x0 (x0.drop o1_0) o1_0=some o1) (x0.length-0) [] ⟨0,⟨hk.1,rfl⟩,rfl,h⟩ ?_
  rintro _ _ ⟨o1_0,⟨hi,rfl⟩,rfl,h⟩
  refine ww ?_
  refine condS (fun c2=>?_) (fun c2=>?_)
  ·obtain⟨xo1,hxo1,hd⟩:=countY (show(o1_0:Int)<(x0.length:Int)from c2)
   rw[hd,F19_l1]at h
   refine ww ?_
   obtain⟨o3,ho,h⟩:=bi h
   refine cutS (fun s=>∃po3,o3=Sum.inr po3∧s=⟨[(0,oc (dM (x0.map ePod))),(3,oc (dI ((o1_0:Int))))],[]⟩) ?_ ?_
   ·have h0o3:=h
    have h:=ho
    clear ho
    refine ww ?_
    refine bL (fun j s=>∃(o3_0:Int),s=⟨[(0,oc (dM (x0.map ePod))),(3,oc (dI ((o1_0:Int)))),(4,oc (dI o3_0))],[]⟩∧F19_l3 o1_0 x0 xo1 j o3_0=some o3) 1099511627776 [] ⟨0,rfl,h⟩ ?_
    rintro j _ ⟨o3_0,rfl,h⟩
    cases j with
    |zero=>cases(show(none:Option _)=some _ from h)
    |succ j=>
     rw[F19_l3]at h
     refine ww ?_
     refine condSh h (fun c4 h=>ww ?_) (fun c4 h=>?_)
     ·refine t_idxF (enc:=ePod) (xs:=x0) rfl rfl hxo1 rfl (ww ?_)
      obtain⟨t5,ht5,h⟩:=bi h
      refine cN [] (F20_ok ht5) trivial (ww ?_)
      obtain⟨y6,hy6,h⟩:=bi h
      refine t_idxF (enc:=ePod) (xs:=x0) rfl rfl hy6 rfl (ww ?_)
      obtain⟨t7,ht7,h⟩:=bi h
      refine cN [] (F20_ok ht7) trivial (ww ?_)
      refine condSh h (fun c8 h=>ww ?_) (fun c8 h=>?_)
      ·obtain⟨fh0o3,hfh0o3,rfl⟩:=Option.map_eq_some_iff.1 h
       have h:=hfh0o3.trans h0o3
       obtain⟨fh0o1,hfh0o1,rfl⟩:=Option.map_eq_some_iff.1 h
       have h:=hfh0o1.trans h0o1
       cases h
       exact eF []
      ·refine ww ?_
       exact eL' j [] ⟨(IntKind.i64.wrap (o3_0+1)),rfl,h⟩ (Nat.lt_succ_self _)
     ·refine ww ?_
      cases h
      exact eM [] ⟨_,rfl,rfl⟩
   rintro _ ⟨po3,rfl,rfl⟩
   clear ho
   dsimp only at h
   refine ww ?_
   rw[wrapN (by omega)]
   exact eL' (x0.length-(o1_0+1)) [] ⟨o1_0+1,⟨by omega,rfl⟩,rfl,h⟩ (by omega)
  rw[countN (show¬((o1_0:Int)<(x0.length:Int))from c2),F19_l1]at h
  refine ww ?_
  cases h
  exact eM [] ⟨_,rfl,rfl⟩
 rintro _ ⟨po1,rfl,rfl⟩
 clear ho
 dsimp only at h
 refine ww ?_
 cases h
 exact eF []
def F24_l5:List Manager→Nat→(List Manager)→Option ((List Manager))
 |[],o5_1,o5_0=>some o5_0
 |xo5::xs,o5_1,o5_0=>(rdI o5_0 ((o5_1:Int))).bind fun y7=>(cloneI y7.Fields).bind fun t8=>(rdI o5_0 ((o5_1:Int))).bind fun y9=>F24_l5 xs (o5_1+1) ((o5_0.set ((o5_1:Int)).toNat ((⟨y9.Name,t8⟩:Manager))))
def F24_l12:List Requirement→Nat→(List Requirement)→Option ((List Requirement))
 |[],o12_1,o12_0=>some o12_0
 |xo12::xs,o12_1,o12_0=>(rdI o12_0 ((o12_1:Int))).bind fun y14=>(cloneI y14.Values).bind fun t15=>(rdI o12_0 ((o12_1:Int))).bind fun y16=>F24_l12 xs (o12_1+1) ((o12_0.set ((o12_1:Int)).toNat ((⟨y16.Key,y16.Op,t15⟩:Requirement))))
def F24(x0:Budget):Option ((List Label)×(List Owner)×(List ByteArray)×(List Manager)×(List Requirement)×(List Amount)×(List Amount)×(List WorkItem)):=(cloneI x0.Meta.Labels).bind fun t1=>(cloneI x0.Meta.Owners).bind fun t2=>(cloneI x0.Meta.Finalizers).bind fun t3=>(cloneI x0.Meta.Managers).bind fun t4=>(((ck (0≤t4.length∧t4.length≤4294967290)).bind fun u10=>F24_l5 t4 0 t4).bind fun o5=>(cloneI x0.Selector).bind fun t11=>(((ck (0≤t11.length∧t11.length≤4294967290)).bind fun u17=>F24_l12 t11 0 t11).bind fun o12=>(cloneI x0.MinAvailable).bind fun t18=>(cloneI x0.MaxUnavailable).bind fun t19=>(cloneI x0.Disrupted).bind fun t20=>some ((t1,t2,t3,o5,o12,t18,t19,t20))))
def a24:AFn:=⟨84,[(.cell 2 (some 22))],
 (.seq (.reg [Qg 1 0,
sq 2 (.zbox [dS ⟨#[]⟩,dS ⟨#[]⟩,dS ⟨#[]⟩,dI 0,dI 0,dI 0,dI 0,dB false,dI 0,dN,dN,dN,dN,dN,dN,dN,dI 0,dI 0,dI 0,dI 0,dI 0,dN])])
 (.seq (.regd [Qb 7 0 1,
sd 8 (.fieldA 9 (.t 7)) [0],
sd 9 (.load none (.t 8)) [0,1],
zn 10 (.call 52 [(.t 9)]) [0,1,2] [0,1,2],
Qb 11 0 1,
sd 12 (.fieldA 10 (.t 11)) [4],
sd 13 (.load none (.t 12)) [4,5],
sd 14 (.call 53 [(.t 13)]) [0,1,2,3,4,5,6],
Qb 15 0 1,
sd 16 (.fieldA 11 (.t 15)) [8],
sd 17 (.load none (.t 16)) [8,9],
zn 18 (.call 54 [(.t 17)]) [0,1,2,3,4,5,6,7,8,9,10] [7],
Qb 19 0 1,
sd 20 (.fieldA 12 (.t 19)) [12],
sd 21 (.load none (.t 20)) [12,13],
zn 22 (.call 55 [(.t 21)]) [0,1,2,3,4,5,6,7,8,9,10,11,12,13,14] [7,11],
sd 23 (.fieldA 0 (.t 1)) [0,1,2,3,4,5,6,8,9,10,12,13,14],
sd 24 (.fieldA 9 (.t 23)) [0,1,2,3,4,5,6,8,9,10,12,13,14,16],
⟨none,none,.store 1 (.t 24) (.t 10),[0,1,2,3,4,5,6,7,8,9,10,11,12,13,14,15,16,17],(.lone [])⟩,
sd 25 (.fieldA 0 (.t 1)) [0,1,2,3,4,5,6,7,8,9,10,11,12,13,14,15,16,17,18],
sd 26 (.fieldA 10 (.t 25)) [0,1,2,3,4,5,6,7,8,9,10,11,12,13,14,15,16,17,18,19],
⟨none,none,.store 1 (.t 26) (.t 14),[0,1,2,3,4,5,6,7,8,9,10,11,12,13,14,15,16,17,18,19,20],(.lone [])⟩,
sd 27 (.fieldA 0 (.t 1)) [0,1,2,3,4,5,6,7,8,9,10,11,12,13,14,15,16,17,18,19,20,21],
sd 28 (.fieldA 11 (.t 27)) [0,1,2,3,4,5,6,7,8,9,10,11,12,13,14,15,16,17,18,19,20,21,22],
⟨none,none,.store 1 (.t 28) (.t 18),[0,1,2,3,4,5,6,7,8,9,10,11,12,13,14,15,16,17,18,19,20,21,22,23],(.lone [])⟩,
sd 29 (.fieldA 0 (.t 1)) [0,1,2,3,4,5,6,7,8,9,10,11,12,13,14,15,16,17,18,19,20,21,22,23,24],
sd 30 (.fieldA 12 (.t 29)) [0,1,2,3,4,5,6,7,8,9,10,11,12,13,14,15,16,17,18,19,20,21,22,23,24,25],
⟨none,none,.store 1 (.t 30) (.t 22),[0,1,2,3,4,5,6,7,8,9,10,11,12,13,14,15,16,17,18,19,20,21,22,23,24,25,26],(.lone [])⟩])
 (.seq (.seq (.reg [Qb 31 0 1,
Qb 32 12 31,
Qd 33 32,
Qh 34 33,
Qe 35 0])
 (.sem (.block 0 (.loop (.seq (.reg [Qn 36 35 34])
 (.seq (.cond (.t 36)
 .skip
 (.exit 0))
 (.seq (.block 1 (.seq (.reg [Qa 37 35,
Qp 38 2 33 35,
Qc 39 2 38,
sq 4 (.zbox [dS ⟨#[]⟩,dN]),
Qa 3 37,
su (.store 2 (.t 4) (.t 39))])
 (.regd [Qb 40 0 1,
sd 41 (.fieldA 12 (.t 40)) [0],
sd 42 (.load none (.t 41)) [0,1],
Qa 43 3,
Qb 44 1 4,
sd 45 (.load none (.t 44)) [4],
zl 46 (.call 54 [(.t 45)]) [4,5] [1,40,41],
sd 47 (.indexA 2 (.t 42) (.t 43)) [0,1,2,3,4,5,6],
sd 48 (.fieldA 1 (.t 47)) [0,1,2,3,4,5,6,7],
⟨none,none,.store 1 (.t 48) (.t 46),[0,1,2,3,4,5,6,7,8],(.lone [])⟩])))
 (.reg [Qm 49 35 1,
Qa 35 49]))))))))
 (.seq (.reg [Qb 50 13 1,
Qd 51 50,
Qk 52 56 51,
Qb 53 13 1,
su (.store 1 (.t 53) (.t 52))])
 (.seq (.seq (.reg [Qb 54 13 1,
Qd 55 54,
Qh 56 55,
Qe 57 0])
 (.sem (.block 2 (.loop (.seq (.reg [Qn 58 57 56])
 (.seq (.cond (.t 58)
 .skip
 (.exit 2))
 (.seq (.block 3 (.seq (.reg [Qa 59 57,
Qp 60 3 55 57,
Qc 61 3 60,
sq 6 (.zbox [dS ⟨#[]⟩,dI 0,dN]),
Qa 5 59,
su (.store 3 (.t 6) (.t 61))])
 (.regd [Qb 62 13 1,
sd 63 (.load none (.t 62)) [0],
Qa 64 5,
Qb 65 2 6,
sd 66 (.load none (.t 65)) [3],
zl 67 (.call 54 [(.t 66)]) [3,4] [1,62],
sd 68 (.indexA 3 (.t 63) (.t 64)) [0,1,2,3,4,5],
sd 69 (.fieldA 2 (.t 68)) [0,1,2,3,4,5,6],
⟨none,none,.store 1 (.t 69) (.t 67),[0,1,2,3,4,5,6,7],(.lone [])⟩])))
 (.reg [Qm 70 57 1,
Qa 57 70]))))))))
 (.seq (.regd [Qb 71 14 1,
sd 72 (.load none (.t 71)) [0],
zn 73 (.call 57 [(.t 72)]) [0,1] [0,1],
Qb 74 15 1,
sd 75 (.load none (.t 74)) [3],
sd 76 (.call 57 [(.t 75)]) [0,1,2,3,4],
Qb 77 21 1,
sd 78 (.load none (.t 77)) [6],
zn 79 (.call 58 [(.t 78)]) [0,1,2,3,4,5,6,7] [5],
sd 80 (.fieldA 14 (.t 1)) [0,1,2,3,4,6,7],
⟨none,none,.store 1 (.t 80) (.t 73),[0,1,2,3,4,5,6,7,8,9],(.lone [])⟩,
sd 81 (.fieldA 15 (.t 1)) [0,1,2,3,4,5,6,7,8,9,10],
⟨none,none,.store 1 (.t 81) (.t 76),[0,1,2,3,4,5,6,7,8,9,10,11],(.lone [])⟩,
sd 82 (.fieldA 21 (.t 1)) [0,1,2,3,4,5,6,7,8,9,10,11,12],
⟨none,none,.store 1 (.t 82) (.t 79),[0,1,2,3,4,5,6,7,8,9,10,11,12,13],(.lone [])⟩])
 (.seq (.reg [Qc 83 22 1,
⟨none,none,.store 22 (.t 2) (.t 83),[],(.lone [1])⟩])
 .ret)))))))⟩
theorem F24_ok{x0 r}(h:F24 x0=some r):CallD Try.prog 24 [.agg (bBudget x0)] [] (tupV [.agg [dS x0.Meta.Kind,dS x0.Meta.Namespace,dS x0.Meta.Name,dI x0.Meta.Uid,dI x0.Meta.Version,dI x0.Meta.Generation,dI x0.Meta.Created,dB x0.Meta.Deleting,dI x0.Meta.DeleteAt,.own 0 0 0 (r.1.length) none,.own 1 0 0 (r.2.1.length) none,.own 2 0 0 (r.2.2.1.length) none,.own 3 0 0 (r.2.2.2.1.length) none,.own 4 0 0 (r.2.2.2.2.1.length) none,.own 5 0 0 (r.2.2.2.2.2.1.length) none,.own 6 0 0 (r.2.2.2.2.2.2.1.length) none,dI x0.Observed,dI x0.Healthy,dI x0.Desired,dI x0.Expected,dI x0.Allowed,.own 7 0 0 (r.2.2.2.2.2.2.2.length) none]]) [some (.arr 0 2 (r.1.map eLabel)),some (.arr 0 5 (r.2.1.map eOwner)),some (.arr 0 1 (r.2.2.1.map eS)),some (.arr 0 2 (r.2.2.2.1.map eManager)),some (.arr 0 3 (r.2.2.2.2.1.map eRequirement)),some (.arr 0 2 (r.2.2.2.2.2.1.map eAmount)),some (.arr 0 2 (r.2.2.2.2.2.2.1.map eAmount)),some (.arr 0 2 (r.2.2.2.2.2.2.2.map eWorkItem))]:=by
 rw[F24]at h
 refine zc a24 (by kernel_rfl) rfl (ww ?_)
 obtain⟨t1,ht1,h⟩:=bi h
 refine cN [] (F52_ok ht1) trivial (ww ?_)
 refine kD_new (by simp[wrs,allW,hset]) (ww ?_)
 obtain⟨t2,ht2,h⟩:=bi h
 refine cN [] (F53_ok ht2) trivial (ww ?_)
 refine kD_new (by simp[wrs,allW,hset]) (ww ?_)
 obtain⟨t3,ht3,h⟩:=bi h
 refine cN [] (F54_ok ht3) trivial (ww ?_)
 refine kD_new (by simp[wrs,allW,hset]) (ww ?_)
 obtain⟨t4,ht4,h⟩:=bi h
 refine cN [] (F55_ok ht4) trivial (ww ?_)
 refine kD_new (by simp[wrs,allW,hset]) (ww ?_)
 obtain⟨o5,ho,h⟩:=bi h
 refine cutS (fun s=>s=⟨[(1,Pz 0),(2,Pz 5)],[xb [dS x0.Meta.Kind,dS x0.Meta.Namespace,dS x0.Meta.Name,dI x0.Meta.Uid,dI x0.Meta.Version,dI x0.Meta.Generation,dI x0.Meta.Created,dB x0.Meta.Deleting,dI x0.Meta.DeleteAt,.own 1 0 0 (t1.length) none,.own 2 0 0 (t2.length) none,.own 3 0 0 (t3.length) none,.own 4 0 0 (o5.length) none,dM (x0.Selector.map eRequirement),dM (x0.MinAvailable.map eAmount),dM (x0.MaxUnavailable.map eAmount),dI x0.Observed,dI x0.Healthy,dI x0.Desired,dI x0.Expected,dI x0.Allowed,dM (x0.Disrupted.map eWorkItem)],some (.arr 0 2 (t1.map eLabel)),some (.arr 0 5 (t2.map eOwner)),some (.arr 0 1 (t3.map eS)),some (.arr 0 2 (o5.map eManager)),xb [dS ((⟨#[]⟩:ByteArray)),dS ((⟨#[]⟩:ByteArray)),dS ((⟨#[]⟩:ByteArray)),dI 0,dI 0,dI 0,dI 0,dB false,dI 0,dN,dN,dN,dN,dN,dN,dN,dI 0,dI 0,dI 0,dI 0,dI 0,dN]]⟩) ?_ ?_
 ·have h:=ho
  clear ho
  obtain⟨_,hk,h⟩:=bi h
  have hk:=ck_some hk
  refine ww ?_
  refine bL (fun j s=>∃(o5_1:Nat) (o5_0:List Manager),(o5_1≤t4.length∧j=t4.length-o5_1)∧s=⟨[(1,Pz 0),(2,Pz 5),(33,oc (.own 4 0 0 (o5_0.length) none)),(34,oc (dI ((t4.length:Int)))),(35,oc (dI ((o5_1:Int))))],[xb [dS x0.Meta.Kind,dS x0.Meta.Namespace,dS x0.Meta.Name,dI x0.Meta.Uid,dI x0.Meta.Version,dI x0.Meta.Generation,dI x0.Meta.Created,dB x0.Meta.Deleting,dI x0.Meta.DeleteAt,.own 1 0 0 (t1.length) none,.own 2 0 0 (t2.length) none,.own 3 0 0 (t3.length) none,.own 4 0 0 (o5_0.length) none,dM (x0.Selector.map eRequirement),dM (x0.MinAvailable.map eAmount),dM (x0.MaxUnavailable.map eAmount),dI x0.Observed,dI x0.Healthy,dI x0.Desired,dI x0.Expected,dI x0.Allowed,dM (x0.Disrupted.map eWorkItem)],some (.arr 0 2 (t1.map eLabel)),some (.arr 0 5 (t2.map eOwner)),some (.arr 0 1 (t3.map eS)),some (.arr 0 2 (o5_0.map eManager)),xb [dS ((⟨#[]⟩:ByteArray)),dS ((⟨#[]⟩:ByteArray)),dS ((⟨#[]⟩:ByteArray)),dI 0,dI 0,dI 0,dI 0,dB false,dI 0,dN,dN,dN,dN,dN,dN,dN,dI 0,dI 0,dI 0,dI 0,dI 0,dN]]⟩∧F24_l5 (t4.drop o5_1) o5_1 o5_0=some o5) (t4.length-0) [some 0,some 2,some 3,some 4,some 5,some 1] ⟨0,t4,⟨hk.1,rfl⟩,rfl,h⟩ ?_
  rintro _ _ ⟨o5_1,o5_0,⟨hi,rfl⟩,rfl,h⟩
  refine ww ?_
  refine condS (fun c6=>?_) (fun c6=>?_)
  ·obtain⟨xo5,hxo5,hd⟩:=countY (show(o5_1:Int)<(t4.length:Int)from c6)
   rw[hd,F24_l5]at h
   refine ww ?_
   obtain⟨y7,hy7,h⟩:=bi h
   refine t_idxO (enc:=eManager) (xs:=o5_0) rfl rfl rfl (by first|rfl|simp only[List.length_set]|exact(clrL_len (slI_len (by assumption))).symm) hy7 (ww ?_)
   refine LdRow.rd (rdI_some hy7).2.1 (ww ?_)
   obtain⟨t8,ht8,h⟩:=bi h
   refine cN [] (F54_ok ht8) trivial (ww ?_)
   obtain⟨y9,hy9,h⟩:=bi h
   refine t_idxO (enc:=eManager) (xs:=o5_0) rfl rfl rfl (by first|rfl|simp only[List.length_set]|exact(clrL_len (slI_len (by assumption))).symm) hy9 (ww ?_)
   refine StRow.rd (y':=(⟨y9.Name,t8⟩:Manager)) (rdI_some hy9).2.1 (by simp[EE.down]) (by first|rfl|(simp only[bor_full'];rfl)) (ww ?_)
   rw[wrapN (by omega)]
   exact eL' (t4.length-(o5_1+1)) [some 0,some 1,some 2,some 3,some 4,some 5] ⟨o5_1+1,(o5_0.set ((o5_1:Int)).toNat ((⟨y9.Name,t8⟩:Manager))),⟨by omega,rfl⟩,rfl,h⟩ (by omega)
  rw[countN (show¬((o5_1:Int)<(t4.length:Int))from c6),F24_l5]at h
  refine ww ?_
  cases h
  exact eM [some 0,some 1,some 2,some 3,some 4,some 5] rfl
 rintro _ rfl
 clear ho
 refine ww ?_
 obtain⟨t11,ht11,h⟩:=bi h
 refine cN [] (F56_ok ht11) trivial (ww ?_)
 obtain⟨o12,ho,h⟩:=bi h
 refine cutS (fun s=>s=⟨[(1,Pz 0),(2,Pz 6)],[xb [dS x0.Meta.Kind,dS x0.Meta.Namespace,dS x0.Meta.Name,dI x0.Meta.Uid,dI x0.Meta.Version,dI x0.Meta.Generation,dI x0.Meta.Created,dB x0.Meta.Deleting,dI x0.Meta.DeleteAt,.own 1 0 0 (t1.length) none,.own 2 0 0 (t2.length) none,.own 3 0 0 (t3.length) none,.own 4 0 0 (o5.length) none,.own 5 0 0 (o12.length) none,dM (x0.MinAvailable.map eAmount),dM (x0.MaxUnavailable.map eAmount),dI x0.Observed,dI x0.Healthy,dI x0.Desired,dI x0.Expected,dI x0.Allowed,dM (x0.Disrupted.map eWorkItem)],some (.arr 0 2 (t1.map eLabel)),some (.arr 0 5 (t2.map eOwner)),some (.arr 0 1 (t3.map eS)),some (.arr 0 2 (o5.map eManager)),some (.arr 0 3 (o12.map eRequirement)),xb [dS ((⟨#[]⟩:ByteArray)),dS ((⟨#[]⟩:ByteArray)),dS ((⟨#[]⟩:ByteArray)),dI 0,dI 0,dI 0,dI 0,dB false,dI 0,dN,dN,dN,dN,dN,dN,dN,dI 0,dI 0,dI 0,dI 0,dI 0,dN]]⟩) ?_ ?_
 ·have h:=ho
  clear ho
  obtain⟨_,hk,h⟩:=bi h
  have hk:=ck_some hk
  refine ww ?_
  refine bL (fun j s=>∃(o12_1:Nat) (o12_0:List Requirement),(o12_1≤t11.length∧j=t11.length-o12_1)∧s=⟨[(1,Pz 0),(2,Pz 6),(55,oc (.own 5 0 0 (o12_0.length) none)),(56,oc (dI ((t11.length:Int)))),(57,oc (dI ((o12_1:Int))))],[xb [dS x0.Meta.Kind,dS x0.Meta.Namespace,dS x0.Meta.Name,dI x0.Meta.Uid,dI x0.Meta.Version,dI x0.Meta.Generation,dI x0.Meta.Created,dB x0.Meta.Deleting,dI x0.Meta.DeleteAt,.own 1 0 0 (t1.length) none,.own 2 0 0 (t2.length) none,.own 3 0 0 (t3.length) none,.own 4 0 0 (o5.length) none,.own 5 0 0 (o12_0.length) none,dM (x0.MinAvailable.map eAmount),dM (x0.MaxUnavailable.map eAmount),dI x0.Observed,dI x0.Healthy,dI x0.Desired,dI x0.Expected,dI x0.Allowed,dM (x0.Disrupted.map eWorkItem)],some (.arr 0 2 (t1.map eLabel)),some (.arr 0 5 (t2.map eOwner)),some (.arr 0 1 (t3.map eS)),some (.arr 0 2 (o5.map eManager)),some (.arr 0 3 (o12_0.map eRequirement)),xb [dS ((⟨#[]⟩:ByteArray)),dS ((⟨#[]⟩:ByteArray)),dS ((⟨#[]⟩:ByteArray)),dI 0,dI 0,dI 0,dI 0,dB false,dI 0,dN,dN,dN,dN,dN,dN,dN,dI 0,dI 0,dI 0,dI 0,dI 0,dN]]⟩∧F24_l12 (t11.drop o12_1) o12_1 o12_0=some o12) (t11.length-0) [some 0,some 1,some 2,some 3,some 4,some 6,some 5] ⟨0,t11,⟨hk.1,rfl⟩,rfl,h⟩ ?_
  rintro _ _ ⟨o12_1,o12_0,⟨hi,rfl⟩,rfl,h⟩
  refine ww ?_
  refine condS (fun c13=>?_) (fun c13=>?_)
  ·obtain⟨xo12,hxo12,hd⟩:=countY (show(o12_1:Int)<(t11.length:Int)from c13)
   rw[hd,F24_l12]at h
   refine ww ?_
   obtain⟨y14,hy14,h⟩:=bi h
   refine t_idxO (enc:=eRequirement) (xs:=o12_0) rfl rfl rfl (by first|rfl|simp only[List.length_set]|exact(clrL_len (slI_len (by assumption))).symm) hy14 (ww ?_)
   refine LdRow.rd (rdI_some hy14).2.1 (ww ?_)
   obtain⟨t15,ht15,h⟩:=bi h
   refine cN [] (F54_ok ht15) trivial (ww ?_)
   obtain⟨y16,hy16,h⟩:=bi h
   refine t_idxO (enc:=eRequirement) (xs:=o12_0) rfl rfl rfl (by first|rfl|simp only[List.length_set]|exact(clrL_len (slI_len (by assumption))).symm) hy16 (ww ?_)
   refine StRow.rd (y':=(⟨y16.Key,y16.Op,t15⟩:Requirement)) (rdI_some hy16).2.1 (by simp[EE.down]) (by first|rfl|(simp only[bor_full'];rfl)) (ww ?_)
   rw[wrapN (by omega)]
   exact eL' (t11.length-(o12_1+1)) [some 0,some 1,some 2,some 3,some 4,some 5,some 6] ⟨o12_1+1,(o12_0.set ((o12_1:Int)).toNat ((⟨y16.Key,y16.Op,t15⟩:Requirement))),⟨by omega,rfl⟩,rfl,h⟩ (by omega)
  rw[countN (show¬((o12_1:Int)<(t11.length:Int))from c13),F24_l12]at h
  refine ww ?_
  cases h
  exact eM [some 0,some 1,some 2,some 3,some 4,some 5,some 6] rfl
 rintro _ rfl
 clear ho
 refine ww ?_
 obtain⟨t18,ht18,h⟩:=bi h
 refine cN [] (F57_ok ht18) trivial (ww ?_)
 refine kD_new (by simp[wrs,allW,hset]) (ww ?_)
 obtain⟨t19,ht19,h⟩:=bi h
 refine cN [] (F57_ok ht19) trivial (ww ?_)
 refine kD_new (by simp[wrs,allW,hset]) (ww ?_)
 obtain⟨t20,ht20,h⟩:=bi h
 refine cN [] (F58_ok ht20) trivial (ww ?_)
 refine kD_new (by simp[wrs,allW,hset]) (ww ?_)
 cases h
 exact eF [some 1,some 2,some 3,some 4,some 5,some 7,some 8,some 9]
def F76(x0:(List ByteArray))(x1:ByteArray):Option (Bool):=(F80 x0 x1).bind fun t1=>some (decide (0≤t1))
def a76:AFn:=⟨9,[(.tmp 4)],
 (.seq (.reg [Qf 4 false])
 (.seq (.reg [Qa 5 0,
Qa 6 1,
Ql 7 80 5 6,
sq 8 (.bin .geq (.t 7) (kI 0)),
Qa 4 8])
 .ret))⟩
theorem F76_ok{x0 x1 r}(h:F76 x0 x1=some r):CallD Try.prog 76 [.c (dM (x0.map eS)),.c (dS x1)] [] (tupV [.c (dB r)]) []:=by
 rw[F76]at h
 refine zc a76 (by kernel_rfl) rfl (ww ?_)
 obtain⟨t1,ht1,h⟩:=bi h
 refine cN [] (F80_ok ht1) trivial (ww ?_)
 cases h
 exact eF []
def F70(x0:Requirement)(x1:(List Label)):Option (Bool):=(F75 x1 x0.Key).bind fun t1=>(if x0.Op=1 then(((if t1.2=true then(F76 x0.Values t1.1).bind fun t5=>some t5 else some false)).bind fun o3=>some o3)else(if x0.Op=2 then(((if(nb t1.2)=true then some true else(F76 x0.Values t1.1).bind fun t9=>some (nb t9))).bind fun o7=>some o7)else(if x0.Op=3 then some t1.2 else(if x0.Op=4 then some (nb t1.2)else some false))))
def a70:AFn:=⟨43,[(.tmp 4)],
 (.seq (.reg [Qg 2 0,
Qf 4 false])
 (.seq (.reg [Qa 8 1,
Qb 9 0 2,
Qd 10 9,
Ql 11 75 8 10,
Qa 7 11,
Qo 12 7 0,
Qo 13 7 1,
Qa 5 12,
Qa 6 13])
 (.seq (.seq (.reg [Qb 14 1 2,
Qd 15 14])
 (.block 0 (.seq (.reg [Qr 17 15 1,
Qa 16 17])
 (.cond (.t 16)
 (.seq (.sem (.reg [Qa 18 6,
Qa 19 18,
Qs 20 19 true 2 2,
Qt 21 19 true 20,
Qv 22 19 true 5,
zg 23 19 true (.call 76 [(.t 21),(.t 22)]),
Qi 24 19 23,
Qa 4 24]))
 .ret)
 (.seq (.reg [Qr 26 15 2,
Qa 25 26])
 (.cond (.t 25)
 (.seq (.sem (.reg [Qa 27 6,
Qq 28 27,
Qa 29 28,
Qs 30 29 false 2 2,
Qt 31 29 false 30,
Qv 32 29 false 5,
zg 33 29 false (.call 76 [(.t 31),(.t 32)]),
zg 34 29 false (.not (.t 33)),
Qj 35 29 34,
Qa 4 35]))
 .ret)
 (.seq (.reg [Qr 37 15 3,
Qa 36 37])
 (.cond (.t 36)
 (.seq (.reg [Qa 38 6,
Qa 4 38])
 .ret)
 (.seq (.reg [Qr 40 15 4,
Qa 39 40])
 (.cond (.t 39)
 (.seq (.reg [Qa 41 6,
Qq 42 41,
Qa 4 42])
 .ret)
 .skip))))))))))
 (.seq (.reg [Qf 4 false])
 .ret))))⟩
theorem F70_ok{x0 x1 r}(h:F70 x0 x1=some r):CallD Try.prog 70 [.agg (bRequirement x0),.c (dM (x1.map eLabel))] [] (tupV [.c (dB r)]) []:=by
 rw[F70]at h
 refine zc a70 (by kernel_rfl) rfl (ww ?_)
 obtain⟨t1,ht1,h⟩:=bi h
 refine cN [] (F75_ok ht1) trivial (ww ?_)
 refine condSh h (fun c2 h=>ww ?_) (fun c2 h=>ww ?_)
 ·obtain⟨o3,ho,h⟩:=bi h
  refine cutS (fun s=>s=⟨[(4,oc (dB o3))],[]⟩) ?_ ?_
  ·have h:=ho
   clear ho
   refine ww ?_
   refine guardSBh h (fun g4 h=>ww ?_) (fun g4 h=>ww ?_)
   ·obtain⟨t5,ht5,h⟩:=bi h
    refine cN [] (F76_ok ht5) trivial (ww ?_)
    cases h
    exact eM [] rfl
   cases h
   exact eM [] rfl
  rintro _ rfl
  clear ho
  refine ww ?_
  cases h
  exact eF []
 refine condSh h (fun c6 h=>ww ?_) (fun c6 h=>ww ?_)
 ·obtain⟨o7,ho,h⟩:=bi h
  refine cutS (fun s=>s=⟨[(4,oc (dB o7))],[]⟩) ?_ ?_
  ·have h:=ho
   clear ho
   refine ww ?_
   refine guardSBh h (fun g8 h=>ww ?_) (fun g8 h=>ww ?_)
   ·cases h
    exact eM [] rfl
   obtain⟨t9,ht9,h⟩:=bi h
   refine cN [] (F76_ok ht9) trivial (ww ?_)
   cases h
   exact eM [] rfl
  rintro _ rfl
  clear ho
  refine ww ?_
  cases h
  exact eF []
 refine condSh h (fun c10 h=>ww ?_) (fun c10 h=>ww ?_)
 ·cases h
  exact eF []
 refine condSh h (fun c11 h=>ww ?_) (fun c11 h=>ww ?_)
 ·cases h
  exact eF []
 cases h
 exact eF []
def F30(x0:Pod):Option (Bool):=(((if x0.Status.Ready=true then(F42 x0).bind fun t3=>some t3 else some false)).bind fun o1=>some o1)
def a30:AFn:=⟨10,[(.tmp 2)],
 (.seq (.reg [Qg 1 0,
Qf 2 false])
 (.seq (.sem (.reg [Qb 3 23 1,
Qb 4 1 3,
Qd 5 4,
Qa 6 5,
Qu 7 6 true 32 1,
zg 8 6 true (.call 42 [(.t 7)]),
Qi 9 6 8,
Qa 2 9]))
 .ret))⟩
theorem F30_ok{x0 r}(h:F30 x0=some r):CallD Try.prog 30 [.agg (bPod x0)] [] (tupV [.c (dB r)]) []:=by
 rw[F30]at h
 refine zc a30 (by kernel_rfl) rfl (ww ?_)
 obtain⟨o1,ho,h⟩:=bi h
 refine cutS (fun s=>s=⟨[(2,oc (dB o1))],[]⟩) ?_ ?_
 ·have h:=ho
  clear ho
  refine ww ?_
  refine guardSBh h (fun g2 h=>ww ?_) (fun g2 h=>ww ?_)
  ·obtain⟨t3,ht3,h⟩:=bi h
   refine cN [] (F42_ok ht3) trivial (ww ?_)
   cases h
   exact eM [] rfl
  cases h
  exact eM [] rfl
 rintro _ rfl
 clear ho
 refine ww ?_
 cases h
 exact eF []
def cF14a2:AC:=(.reg [Qa 19 0,
Qk 20 39 19,
Qa 10 20])
def F14a2(l:List Budget)(pods:List Pod)(key:ByteArray)(now:Int):Option ((List Budget)):=(cloneI l).bind fun t1=>some t1
theorem F14a2_ok{l pods key now r}(h:F14a2 l pods key now=some r):sK Try.prog 118 0 cF14a2 [] (sM 118 0 (fun s=>s=⟨[(0,oc (dM (l.map eBudget))),(1,oc (dM (pods.map ePod))),(3,oc (dI now)),(6,Pz 0),(10,oc (.own 1 0 0 (r.length) none))],[xb [dS key],some (.arr 0 22 (r.map eBudget))]⟩) (xQ 118 0 (fun _ _=>False) (fun _=>False)))
 ⟨[(0,oc (dM (l.map eBudget))),(1,oc (dM (pods.map ePod))),(3,oc (dI now)),(6,Pz 0)],[xb [dS key]]⟩:=by
 rw[F14a2]at h
 simp only[cF14a2,VW.down,Nat.reduceEqDiff,reduceCtorEq,Nat.reduceAdd,Nat.reduceLeDiff,Nat.reduceLT,Nat.reduceBEq,Nat.reduceSub,EE.down]
 obtain⟨t1,ht1,h⟩:=bi h
 refine cN [] (F39_ok ht1) trivial (ww ?_)
 cases h
 exact eM [some 0,some 1] rfl
def cF14b2:AC:=(.reg [Qa 28 10,
Qa 29 11,
Qc 30 22 12,
Qk 31 24 30,
Qp 32 22 28 29])
def F14b2(l:List Budget)(pods:List Pod)(key:ByteArray)(now:Int)(cs:List RBud)(n:Int)(i:Int)(b:Budget):Option ((List Label)×(List Owner)×(List ByteArray)×(List Manager)×(List Requirement)×(List Amount)×(List Amount)×(List WorkItem)):=(F24 b).bind fun t1=>(rdI cs i).bind fun y2=>some ((t1.1,t1.2.1,t1.2.2.1,t1.2.2.2.1,t1.2.2.2.2.1,t1.2.2.2.2.2.1,t1.2.2.2.2.2.2.1,t1.2.2.2.2.2.2.2))
theorem F14b2_ok{l pods key now cs n i b r}(h:F14b2 l pods key now cs n i b=some r):sK Try.prog 118 0 cF14b2 [] (sM 118 0 (fun s=>s=⟨[(0,oc (dM (l.map eBudget))),(1,oc (dM (pods.map ePod))),(3,oc (dI now)),(6,Pz 0),(10,oc (.own 1 0 0 (cs.length) none)),(21,oc (.own 1 0 0 (cs.length) none)),(22,oc (dI n)),(23,oc (dI i)),(31,.one (.agg [dS b.Meta.Kind,dS b.Meta.Namespace,dS b.Meta.Name,dI b.Meta.Uid,dI b.Meta.Version,dI b.Meta.Generation,dI b.Meta.Created,dB b.Meta.Deleting,dI b.Meta.DeleteAt,dM (r.1.map eLabel),dM (r.2.1.map eOwner),dM (r.2.2.1.map eS),dM (r.2.2.2.1.map eManager),dM (r.2.2.2.2.1.map eRequirement),dM (r.2.2.2.2.2.1.map eAmount),dM (r.2.2.2.2.2.2.1.map eAmount),dI b.Observed,dI b.Healthy,dI b.Desired,dI b.Expected,dI b.Allowed,.own 2 0 0 (r.2.2.2.2.2.2.2.length) none])),(32,oc (.pe 1 0 i.toNat 0))],[xb [dS key],some (.arr 0 22 (cs.map eRBud)),some (.arr 0 2 (r.2.2.2.2.2.2.2.map eWorkItem))]⟩) (xQ 118 0 (fun _ _=>False) (fun _=>False)))
 ⟨[(0,oc (dM (l.map eBudget))),(1,oc (dM (pods.map ePod))),(3,oc (dI now)),(6,Pz 0),(10,oc (.own 1 0 0 (cs.length) none)),(11,oc (dI i)),(12,Pz 2),(21,oc (.own 1 0 0 (cs.length) none)),(22,oc (dI n)),(23,oc (dI i))],[xb [dS key],some (.arr 0 22 (cs.map eRBud)),xb (bBudget b)]⟩:=by
 rw[F14b2]at h
 simp only[cF14b2,VW.down,Nat.reduceEqDiff,reduceCtorEq,Nat.reduceAdd,Nat.reduceLeDiff,Nat.reduceLT,Nat.reduceBEq,Nat.reduceSub,EE.down]
 obtain⟨t1,ht1,h⟩:=bi h
 refine cN [] (F24_ok ht1) trivial (ww ?_)
 obtain⟨y2,hy2,h⟩:=bi h
 refine t_idxO (enc:=eRBud) (xs:=cs) rfl rfl rfl (by first|rfl|simp only[List.length_set]|exact(clrL_len (slI_len (by assumption))).symm) hy2 (ww ?_)
 cases h
 exact eM [some 0,some 1,some 10] rfl (hB:=by simp only[ZZ.down,Nat.reduceEqDiff,reduceCtorEq,Nat.reduceAdd,Nat.reduceLeDiff,Nat.reduceLT,Nat.reduceBNe,EE.down,peLt hy2]) (hs:=by simp only[ZZ.down,Nat.reduceEqDiff,reduceCtorEq,Nat.reduceAdd,Nat.reduceLeDiff,Nat.reduceLT,Nat.reduceBNe,EE.down,peLt hy2])
def cF14m3:AC:=(.regd [Qd 67 6,
Qa 68 3,
zn 69 (.call 25 [(.t 68),(kI 1000000000000)]) [1] [1],
sd 70 (.build [dS ⟨#[]⟩,dI 0] [(0,1,(.t 67)),(1,1,(.t 69))]) [0,1,2],
sq 14 (.zbox [dS ⟨#[]⟩,dI 0]),
⟨none,none,.store 2 (.t 14) (.t 70),[0,1,2,3,4],(.lone [])⟩])
def F14m3(pods:List Pod)(key:ByteArray)(now:Int)(cs:List RBud)(at_:Int):Option (Unit):=(F25 now 1000000000000).bind fun t1=>some (())
theorem F14m3_ok{pods key now cs at_ r}(h:F14m3 pods key now cs at_=some r):sK Try.prog 118 0 cF14m3 [] (sM 118 0 (fun s=>s=⟨[(1,oc (dM (pods.map ePod))),(6,Pz 0),(10,oc (.own 1 0 0 (cs.length) none)),(13,oc (dI at_)),(14,Pz 2)],[xb [dS key],some (.arr 0 22 (cs.map eRBud)),xb [dS key,dI ((if(1000000000000:Int)<(if now<0 then 0 else now)then(1000000000000:Int)else(if now<0 then 0 else now)))]]⟩) (xQ 118 0 (fun _ _=>False) (fun _=>False)))
 ⟨[(1,oc (dM (pods.map ePod))),(3,oc (dI now)),(6,Pz 0),(10,oc (.own 1 0 0 (cs.length) none)),(13,oc (dI at_))],[xb [dS key],some (.arr 0 22 (cs.map eRBud))]⟩:=by
 rw[F14m3]at h
 simp only[cF14m3,VW.down,Nat.reduceEqDiff,reduceCtorEq,Nat.reduceAdd,Nat.reduceLeDiff,Nat.reduceLT,Nat.reduceBEq,Nat.reduceSub,EE.down]
 obtain⟨t1,ht1,h⟩:=bi h
 refine cN [] (F25_ok ht1) trivial (ww ?_)
 refine kD_new (by simp[wrs,allW,hset]) (ww ?_)
 cases h
 exact eM [some 0,some 1,some 2] rfl
def cF5kn:AC:=(.reg [Qa 92 1,
Qa 93 2,
Qa 94 16,
Qp 95 1 93 94,
Qd 96 95,
sq 97 (.conv .i64 (.t 96)),
Qa 98 1,
Qh 99 98,
sq 100 (.bin .rem (.t 97) (.t 99)),
Qp 101 32 92 100,
Qb 102 0 101,
Qc 103 13 102,
Qk 104 20 103,
Qa 17 104])
def F5kn(pods:List Pod)(order:List Int)(now:Int)(fs:List Budget)(go:List D)(st:List Budget)(j:Int):Option (ByteArray):=(rdI order j).bind fun y1=>(ck ((pods.length:Int)≠0)).bind fun u2=>(rdI pods ((((IntKind.i64.wrap y1)).tmod ((pods.length:Int))))).bind fun y3=>(F20 y3.Meta).bind fun t4=>some t4
theorem F5kn_ok{pods order now fs go st j r}(h:F5kn pods order now fs go st j=some r):sK Try.prog 169 0 cF5kn [] (sM 169 0 (fun s=>s=⟨[(1,oc (dM (pods.map ePod))),(2,oc (dM (order.map (eK .u8)))),(4,oc (dI now)),(11,oc (dM (fs.map eBudget))),(13,oc (.own 0 0 0 (go.length) none)),(15,oc (dM (st.map eBudget))),(16,oc (dI j)),(17,oc (dS r))],[some (.arr 0 1 (go.map eRaw))]⟩) (xQ 169 0 (fun _ _=>False) (fun _=>False)))
 ⟨[(1,oc (dM (pods.map ePod))),(2,oc (dM (order.map (eK .u8)))),(4,oc (dI now)),(11,oc (dM (fs.map eBudget))),(13,oc (.own 0 0 0 (go.length) none)),(15,oc (dM (st.map eBudget))),(16,oc (dI j))],[some (.arr 0 1 (go.map eRaw))]⟩:=by
 rw[F5kn]at h
 simp only[cF5kn,VW.down,Nat.reduceEqDiff,reduceCtorEq,Nat.reduceAdd,Nat.reduceLeDiff,Nat.reduceLT,Nat.reduceBEq,Nat.reduceSub,EE.down]
 obtain⟨y1,hy1,h⟩:=bi h
 refine t_idxF (enc:=(eK .u8)) (xs:=order) rfl rfl hy1 rfl (ww ?_)
 obtain⟨u2,hu2,h⟩:=bi h
 refine⟨ck_some hu2,?_⟩
 refine ww ?_
 obtain⟨y3,hy3,h⟩:=bi h
 refine t_idxF (enc:=ePod) (xs:=pods) rfl rfl hy3 rfl (ww ?_)
 obtain⟨t4,ht4,h⟩:=bi h
 refine cN [] (F20_ok ht4) trivial (ww ?_)
 cases h
 exact eM [some 0] rfl
end Go.Proofs.Ytedgocbpegllaaa
