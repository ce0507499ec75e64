/- Each Go function as a function over typed data, and its walk. -/
import Derived.Test.YtedgocbpegllaaaW0
namespace Go.Proofs.Ytedgocbpegllaaa
open Go Go.Fw Go.Shelf
set_option maxRecDepth 100000
set_option maxHeartbeats 4000000
set_option linter.unusedSimpArgs false
set_option linter.unusedVariables false
theorem a52_ok:afn Try.prog 52=some (cloneA 2 32):=by kernel_rfl
theorem F52_ok{x0 r:List Label}(h:cloneI x0=some r):CallD Try.prog 52 [.c (dM (x0.map eLabel))] [] (tupV [.c (.own 0 1 0 r.length none)]) [some (.arr 1 2 (r.map eLabel))]:=L_clone a52_ok (fun _=>rfl) h
theorem a53_ok:afn Try.prog 53=some (cloneA 5 48):=by kernel_rfl
theorem F53_ok{x0 r:List Owner}(h:cloneI x0=some r):CallD Try.prog 53 [.c (dM (x0.map eOwner))] [] (tupV [.c (.own 0 1 0 r.length none)]) [some (.arr 1 5 (r.map eOwner))]:=L_clone a53_ok (fun _=>rfl) h
theorem a54_ok:afn Try.prog 54=some (cloneA 1 16):=by kernel_rfl
theorem F54_ok{x0 r:List ByteArray}(h:cloneI x0=some r):CallD Try.prog 54 [.c (dM (x0.map eS))] [] (tupV [.c (.own 0 1 0 r.length none)]) [some (.arr 1 1 (r.map eS))]:=L_clone a54_ok (fun _=>rfl) h
theorem a55_ok:afn Try.prog 55=some (cloneA 2 40):=by kernel_rfl
theorem F55_ok{x0 r:List Manager}(h:cloneI x0=some r):CallD Try.prog 55 [.c (dM (x0.map eManager))] [] (tupV [.c (.own 0 1 0 r.length none)]) [some (.arr 1 2 (r.map eManager))]:=L_clone a55_ok (fun _=>rfl) h
theorem a56_ok:afn Try.prog 56=some (cloneA 3 48):=by kernel_rfl
theorem F56_ok{x0 r:List Requirement}(h:cloneI x0=some r):CallD Try.prog 56 [.c (dM (x0.map eRequirement))] [] (tupV [.c (.own 0 1 0 r.length none)]) [some (.arr 1 3 (r.map eRequirement))]:=L_clone a56_ok (fun _=>rfl) h
theorem a57_ok:afn Try.prog 57=some (cloneA 2 16):=by kernel_rfl
theorem F57_ok{x0 r:List Amount}(h:cloneI x0=some r):CallD Try.prog 57 [.c (dM (x0.map eAmount))] [] (tupV [.c (.own 0 1 0 r.length none)]) [some (.arr 1 2 (r.map eAmount))]:=L_clone a57_ok (fun _=>rfl) h
theorem a58_ok:afn Try.prog 58=some (cloneA 2 24):=by kernel_rfl
theorem F58_ok{x0 r:List WorkItem}(h:cloneI x0=some r):CallD Try.prog 58 [.c (dM (x0.map eWorkItem))] [] (tupV [.c (.own 0 1 0 r.length none)]) [some (.arr 1 2 (r.map eWorkItem))]:=L_clone a58_ok (fun _=>rfl) h
def F24_l5:List Manager→Nat→(List Manager)→Option ((List Manager))
 |[],o5_1,o5_0=>some o5_0
 |xo5::xs,o5_1,o5_0=>(rdI o5_0 ((o5_1:Int))).bind fun y7=>(cloneI y7.Fields).bind fun t8=>(rdI o5_0 ((o5_1:Int))).bind fun y9=>F24_l5 xs (o5_1+1) ((o5_0.set ((o5_1:Int)).toNat ((⟨y9.Name,t8⟩:Manager))))
def F24_l12:List Requirement→Nat→(List Requirement)→Option ((List Requirement))
 |[],o12_1,o12_0=>some o12_0
 |xo12::xs,o12_1,o12_0=>(rdI o12_0 ((o12_1:Int))).bind fun y14=>(cloneI y14.Values).bind fun t15=>(rdI o12_0 ((o12_1:Int))).bind fun y16=>F24_l12 xs (o12_1+1) ((o12_0.set ((o12_1:Int)).toNat ((⟨y16.Key,y16.Op,t15⟩:Requirement))))
def F24(x0:Budget):Option ((List Label)×(List Owner)×(List ByteArray)×(List Manager)×(List Requirement)×(List Amount)×(List Amount)×(List WorkItem)):=(cloneI x0.Meta.Labels).bind fun t1=>(cloneI x0.Meta.Owners).bind fun t2=>(cloneI x0.Meta.Finalizers).bind fun t3=>(cloneI x0.Meta.Managers).bind fun t4=>(((ck (0≤t4.length∧t4.length≤4294967290)).bind fun u10=>F24_l5 t4 0 t4).bind fun o5=>(cloneI x0.Selector).bind fun t11=>(((ck (0≤t11.length∧t11.length≤4294967290)).bind fun u17=>F24_l12 t11 0 t11).bind fun o12=>(cloneI x0.MinAvailable).bind fun t18=>(cloneI x0.MaxUnavailable).bind fun t19=>(cloneI x0.Disrupted).bind fun t20=>some ((t1,t2,t3,o5,o12,t18,t19,t20))))
def a24:AFn:=⟨84,[(.cell 2 (some 22))],
 (.seq (.reg [Qg 1 0,
sq 2 (.zbox [dS ⟨#[]⟩,dS ⟨#[]⟩,dS ⟨#[]⟩,dI 0,dI 0,dI 0,dI 0,dB false,dI 0,dN,dN,dN,dN,dN,dN,dN,dI 0,dI 0,dI 0,dI 0,dI 0,dN])])
 (.seq (.regd [Qb 7 0 1,
sd 8 (.fieldA 9 (.t 7)) [0],
sd 9 (.load none (.t 8)) [0,1],
zn 10 (.call 52 [(.t 9)]) [0,1,2] [0,1,2],
Qb 11 0 1,
sd 12 (.fieldA 10 (.t 11)) [4],
sd 13 (.load none (.t 12)) [4,5],
sd 14 (.call 53 [(.t 13)]) [0,1,2,3,4,5,6],
Qb 15 0 1,
sd 16 (.fieldA 11 (.t 15)) [8],
sd 17 (.load none (.t 16)) [8,9],
zn 18 (.call 54 [(.t 17)]) [0,1,2,3,4,5,6,7,8,9,10] [7],
Qb 19 0 1,
sd 20 (.fieldA 12 (.t 19)) [12],
sd 21 (.load none (.t 20)) [12,13],
zn 22 (.call 55 [(.t 21)]) [0,1,2,3,4,5,6,7,8,9,10,11,12,13,14] [7,11],
sd 23 (.fieldA 0 (.t 1)) [0,1,2,3,4,5,6,8,9,10,12,13,14],
sd 24 (.fieldA 9 (.t 23)) [0,1,2,3,4,5,6,8,9,10,12,13,14,16],
⟨none,none,.store 1 (.t 24) (.t 10),[0,1,2,3,4,5,6,7,8,9,10,11,12,13,14,15,16,17],(.lone [])⟩,
sd 25 (.fieldA 0 (.t 1)) [0,1,2,3,4,5,6,7,8,9,10,11,12,13,14,15,16,17,18],
sd 26 (.fieldA 10 (.t 25)) [0,1,2,3,4,5,6,7,8,9,10,11,12,13,14,15,16,17,18,19],
⟨none,none,.store 1 (.t 26) (.t 14),[0,1,2,3,4,5,6,7,8,9,10,11,12,13,14,15,16,17,18,19,20],(.lone [])⟩,
sd 27 (.fieldA 0 (.t 1)) [0,1,2,3,4,5,6,7,8,9,10,11,12,13,14,15,16,17,18,19,20,21],
sd 28 (.fieldA 11 (.t 27)) [0,1,2,3,4,5,6,7,8,9,10,11,12,13,14,15,16,17,18,19,20,21,22],
⟨none,none,.store 1 (.t 28) (.t 18),[0,1,2,3,4,5,6,7,8,9,10,11,12,13,14,15,16,17,18,19,20,21,22,23],(.lone [])⟩,
sd 29 (.fieldA 0 (.t 1)) [0,1,2,3,4,5,6,7,8,9,10,11,12,13,14,15,16,17,18,19,20,21,22,23,24],
sd 30 (.fieldA 12 (.t 29)) [0,1,2,3,4,5,6,7,8,9,10,11,12,13,14,15,16,17,18,19,20,21,22,23,24,25],
⟨none,none,.store 1 (.t 30) (.t 22),[0,1,2,3,4,5,6,7,8,9,10,11,12,13,14,15,16,17,18,19,20,21,22,23,24,25,26],(.lone [])⟩])
 (.seq (.seq (.reg [Qb 31 0 1,
Qb 32 12 31,
Qd 33 32,
Qh 34 33,
Qe 35 0])
 (.sem (.block 0 (.loop (.seq (.reg [Qn 36 35 34])
 (.seq (.cond (.t 36)
 .skip
 (.exit 0))
 (.seq (.block 1 (.seq (.reg [Qa 37 35,
Qp 38 2 33 35,
Qc 39 2 38,
sq 4 (.zbox [dS ⟨#[]⟩,dN]),
Qa 3 37,
su (.store 2 (.t 4) (.t 39))])
 (.regd [Qb 40 0 1,
sd 41 (.fieldA 12 (.t 40)) [0],
sd 42 (.load none (.t 41)) [0,1],
Qa 43 3,
Qb 44 1 4,
sd 45 (.load none (.t 44)) [4],
zl 46 (.call 54 [(.t 45)]) [4,5] [1,40,41],
sd 47 (.indexA 2 (.t 42) (.t 43)) [0,1,2,3,4,5,6],
sd 48 (.fieldA 1 (.t 47)) [0,1,2,3,4,5,6,7],
⟨none,none,.store 1 (.t 48) (.t 46),[0,1,2,3,4,5,6,7,8],(.lone [])⟩])))
 (.reg [Qm 49 35 1,
Qa 35 49]))))))))
 (.seq (.reg [Qb 50 13 1,
Qd 51 50,
Qk 52 56 51,
Qb 53 13 1,
su (.store 1 (.t 53) (.t 52))])
 (.seq (.seq (.reg [Qb 54 13 1,
Qd 55 54,
Qh 56 55,
Qe 57 0])
 (.sem (.block 2 (.loop (.seq (.reg [Qn 58 57 56])
 (.seq (.cond (.t 58)
 .skip
 (.exit 2))
 (.seq (.block 3 (.seq (.reg [Qa 59 57,
Qp 60 3 55 57,
Qc 61 3 60,
sq 6 (.zbox [dS ⟨#[]⟩,dI 0,dN]),
Qa 5 59,
su (.store 3 (.t 6) (.t 61))])
 (.regd [Qb 62 13 1,
sd 63 (.load none (.t 62)) [0],
Qa 64 5,
Qb 65 2 6,
sd 66 (.load none (.t 65)) [3],
zl 67 (.call 54 [(.t 66)]) [3,4] [1,62],
sd 68 (.indexA 3 (.t 63) (.t 64)) [0,1,2,3,4,5],
sd 69 (.fieldA 2 (.t 68)) [0,1,2,3,4,5,6],
⟨none,none,.store 1 (.t 69) (.t 67),[0,1,2,3,4,5,6,7],(.lone [])⟩])))
 (.reg [Qm 70 57 1,
Qa 57 70]))))))))
 (.seq (.regd [Qb 71 14 1,
sd 72 (.load none (.t 71)) [0],
zn 73 (.call 57 [(.t 72)]) [0,1] [0,1],
Qb 74 15 1,
sd 75 (.load none (.t 74)) [3],
sd 76 (.call 57 [(.t 75)]) [0,1,2,3,4],
Qb 77 21 1,
sd 78 (.load none (.t 77)) [6],
zn 79 (.call 58 [(.t 78)]) [0,1,2,3,4,5,6,7] [5],
sd 80 (.fieldA 14 (.t 1)) [0,1,2,3,4,6,7],
⟨none,none,.store 1 (.t 80) (.t 73),[0,1,2,3,4,5,6,7,8,9],(.lone [])⟩,
sd 81 (.fieldA 15 (.t 1)) [0,1,2,3,4,5,6,7,8,9,10],
⟨none,none,.store 1 (.t 81) (.t 76),[0,1,2,3,4,5,6,7,8,9,10,11],(.lone [])⟩,
sd 82 (.fieldA 21 (.t 1)) [0,1,2,3,4,5,6,7,8,9,10,11,12],
⟨none,none,.store 1 (.t 82) (.t 79),[0,1,2,3,4,5,6,7,8,9,10,11,12,13],(.lone [])⟩])
 (.seq (.reg [Qc 83 22 1,
⟨none,none,.store 22 (.t 2) (.t 83),[],(.lone [1])⟩])
 .ret)))))))⟩
theorem F24_ok{x0 r}(h:F24 x0=some r):CallD Try.prog 24 [.agg (bBudget x0)] [] (tupV [.agg [dS x0.Meta.Kind,dS x0.Meta.Namespace,dS x0.Meta.Name,dI x0.Meta.Uid,dI x0.Meta.Version,dI x0.Meta.Generation,dI x0.Meta.Created,dB x0.Meta.Deleting,dI x0.Meta.DeleteAt,.own 0 0 0 (r.1.length) none,.own 1 0 0 (r.2.1.length) none,.own 2 0 0 (r.2.2.1.length) none,.own 3 0 0 (r.2.2.2.1.length) none,.own 4 0 0 (r.2.2.2.2.1.length) none,.own 5 0 0 (r.2.2.2.2.2.1.length) none,.own 6 0 0 (r.2.2.2.2.2.2.1.length) none,dI x0.Observed,dI x0.Healthy,dI x0.Desired,dI x0.Expected,dI x0.Allowed,.own 7 0 0 (r.2.2.2.2.2.2.2.length) none]]) [some (.arr 0 2 (r.1.map eLabel)),some (.arr 0 5 (r.2.1.map eOwner)),some (.arr 0 1 (r.2.2.1.map eS)),some (.arr 0 2 (r.2.2.2.1.map eManager)),some (.arr 0 3 (r.2.2.2.2.1.map eRequirement)),some (.arr 0 2 (r.2.2.2.2.2.1.map eAmount)),some (.arr 0 2 (r.2.2.2.2.2.2.1.map eAmount)),some (.arr 0 2 (r.2.2.2.2.2.2.2.map eWorkItem))]:=by
 rw[F24]at h
 refine zc a24 (by kernel_rfl) rfl (ww ?_)
 obtain⟨t1,ht1,h⟩:=bi h
 refine cN [] (F52_ok ht1) trivial (ww ?_)
 refine kD_new (by simp[wrs,allW,hset]) (ww ?_)
 obtain⟨t2,ht2,h⟩:=bi h
 refine cN [] (F53_ok ht2) trivial (ww ?_)
 refine kD_new (by simp[wrs,allW,hset]) (ww ?_)
 obtain⟨t3,ht3,h⟩:=bi h
 refine cN [] (F54_ok ht3) trivial (ww ?_)
 refine kD_new (by simp[wrs,allW,hset]) (ww ?_)
 obtain⟨t4,ht4,h⟩:=bi h
 refine cN [] (F55_ok ht4) trivial (ww ?_)
 refine kD_new (by simp[wrs,allW,hset]) (ww ?_)
 obtain⟨o5,ho,h⟩:=bi h
 refine cutS (fun s=>s=⟨[(1,Pz 0),(2,Pz 5)],[xb [dS x0.Meta.Kind,dS x0.Meta.Namespace,dS x0.Meta.Name,dI x0.Meta.Uid,dI x0.Meta.Version,dI x0.Meta.Generation,dI x0.Meta.Created,dB x0.Meta.Deleting,dI x0.Meta.DeleteAt,.own 1 0 0 (t1.length) none,.own 2 0 0 (t2.length) none,.own 3 0 0 (t3.length) none,.own 4 0 0 (o5.length) none,dM (x0.Selector.map eRequirement),dM (x0.MinAvailable.map eAmount),dM (x0.MaxUnavailable.map eAmount),dI x0.Observed,dI x0.Healthy,dI x0.Desired,dI x0.Expected,dI x0.Allowed,dM (x0.Disrupted.map eWorkItem)],some (.arr 0 2 (t1.map eLabel)),some (.arr 0 5 (t2.map eOwner)),some (.arr 0 1 (t3.map eS)),some (.arr 0 2 (o5.map eManager)),xb [dS ((⟨#[]⟩:ByteArray)),dS ((⟨#[]⟩:ByteArray)),dS ((⟨#[]⟩:ByteArray)),dI 0,dI 0,dI 0,dI 0,dB false,dI 0,dN,dN,dN,dN,dN,dN,dN,dI 0,dI 0,dI 0,dI 0,dI 0,dN]]⟩) ?_ ?_
 ·have h:=ho
  clear ho
  obtain⟨_,hk,h⟩:=bi h
  have hk:=ck_some hk
  refine ww ?_
  refine bL (fun j s=>∃(o5_1:Nat) (o5_0:List Manager),(o5_1≤t4.length∧j=t4.length-o5_1)∧s=⟨[(1,Pz 0),(2,Pz 5),(33,oc (.own 4 0 0 (o5_0.length) none)),(34,oc (dI ((t4.length:Int)))),(35,oc (dI ((o5_1:Int))))],[xb [dS x0.Meta.Kind,dS x0.Meta.Namespace,dS x0.Meta.Name,dI x0.Meta.Uid,dI x0.Meta.Version,dI x0.Meta.Generation,dI x0.Meta.Created,dB x0.Meta.Deleting,dI x0.Meta.DeleteAt,.own 1 0 0 (t1.length) none,.own 2 0 0 (t2.length) none,.own 3 0 0 (t3.length) none,.own 4 0 0 (o5_0.length) none,dM (x0.Selector.map eRequirement),dM (x0.MinAvailable.map eAmount),dM (x0.MaxUnavailable.map eAmount),dI x0.Observed,dI x0.Healthy,dI x0.Desired,dI x0.Expected,dI x0.Allowed,dM (x0.Disrupted.map eWorkItem)],some (.arr 0 2 (t1.map eLabel)),some (.arr 0 5 (t2.map eOwner)),some (.arr 0 1 (t3.map eS)),some (.arr 0 2 (o5_0.map eManager)),xb [dS ((⟨#[]⟩:ByteArray)),dS ((⟨#[]⟩:ByteArray)),dS ((⟨#[]⟩:ByteArray)),dI 0,dI 0,dI 0,dI 0,dB false,dI 0,dN,dN,dN,dN,dN,dN,dN,dI 0,dI 0,dI 0,dI 0,dI 0,dN]]⟩∧F24_l5 (t4.drop o5_1) o5_1 o5_0=some o5) (t4.length-0) [some 0,some 2,some 3,some 4,some 5,some 1] ⟨0,t4,⟨hk.1,rfl⟩,rfl,h⟩ ?_
  rintro _ _ ⟨o5_1,o5_0,⟨hi,rfl⟩,rfl,h⟩
  refine ww ?_
  refine condS (fun c6=>?_) (fun c6=>?_)
  ·obtain⟨xo5,hxo5,hd⟩:=countY (show(o5_1:Int)<(t4.length:Int)from c6)
   rw[hd,F24_l5]at h
   refine ww ?_
   obtain⟨y7,hy7,h⟩:=bi h
   refine t_idxO (enc:=eManager) (xs:=o5_0) rfl rfl rfl (by first|rfl|simp only[List.length_set]|exact(clrL_len (slI_len (by assumption))).symm) hy7 (ww ?_)
   refine LdRow.rd (rdI_some hy7).2.1 (ww ?_)
   obtain⟨t8,ht8,h⟩:=bi h
   refine cN [] (F54_ok ht8) trivial (ww ?_)
   obtain⟨y9,hy9,h⟩:=bi h
   refine t_idxO (enc:=eManager) (xs:=o5_0) rfl rfl rfl (by first|rfl|simp only[List.length_set]|exact(clrL_len (slI_len (by assumption))).symm) hy9 (ww ?_)
   refine StRow.rd (y':=(⟨y9.Name,t8⟩:Manager)) (rdI_some hy9).2.1 (by simp[EE.down]) (by first|rfl|(simp only[bor_full'];rfl)) (ww ?_)
   rw[wrapN (by omega)]
   exact eL' (t4.length-(o5_1+1)) [some 0,some 1,some 2,some 3,some 4,some 5] ⟨o5_1+1,(o5_0.set ((o5_1:Int)).toNat ((⟨y9.Name,t8⟩:Manager))),⟨by omega,rfl⟩,rfl,h⟩ (by omega)
  rw[countN (show¬((o5_1:Int)<(t4.length:Int))from c6),F24_l5]at h
  refine ww ?_
  cases h
  exact eM [some 0,some 1,some 2,some 3,some 4,some 5] rfl
 rintro _ rfl
 clear ho
 refine ww ?_
 obtain⟨t11,ht11,h⟩:=bi h
 refine cN [] (F56_ok ht11) trivial (ww ?_)
 obtain⟨o12,ho,h⟩:=bi h
 refine cutS (fun s=>s=⟨[(1,Pz 0),(2,Pz 6)],[xb [dS x0.Meta.Kind,dS x0.Meta.Namespace,dS x0.Meta.Name,dI x0.Meta.Uid,dI x0.Meta.Version,dI x0.Meta.Generation,dI x0.Meta.Created,dB x0.Meta.Deleting,dI x0.Meta.DeleteAt,.own 1 0 0 (t1.length) none,.own 2 0 0 (t2.length) none,.own 3 0 0 (t3.length) none,.own 4 0 0 (o5.length) none,.own 5 0 0 (o12.length) none,dM (x0.MinAvailable.map eAmount),dM (x0.MaxUnavailable.map eAmount),dI x0.Observed,dI x0.Healthy,dI x0.Desired,dI x0.Expected,dI x0.Allowed,dM (x0.Disrupted.map eWorkItem)],some (.arr 0 2 (t1.map eLabel)),some (.arr 0 5 (t2.map eOwner)),some (.arr 0 1 (t3.map eS)),some (.arr 0 2 (o5.map eManager)),some (.arr 0 3 (o12.map eRequirement)),xb [dS ((⟨#[]⟩:ByteArray)),dS ((⟨#[]⟩:ByteArray)),dS ((⟨#[]⟩:ByteArray)),dI 0,dI 0,dI 0,dI 0,dB false,dI 0,dN,dN,dN,dN,dN,dN,dN,dI 0,dI 0,dI 0,dI 0,dI 0,dN]]⟩) ?_ ?_
 ·have h:=ho
  clear ho
  obtain⟨_,hk,h⟩:=bi h
  have hk:=ck_some hk
  refine ww ?_
  refine bL (fun j s=>∃(o12_1:Nat) (o12_0:List Requirement),(o12_1≤t11.length∧j=t11.length-o12_1)∧s=⟨[(1,Pz 0),(2,Pz 6),(55,oc (.own 5 0 0 (o12_0.length) none)),(56,oc (dI ((t11.length:Int)))),(57,oc (dI ((o12_1:Int))))],[xb [dS x0.Meta.Kind,dS x0.Meta.Namespace,dS x0.Meta.Name,dI x0.Meta.Uid,dI x0.Meta.Version,dI x0.Meta.Generation,dI x0.Meta.Created,dB x0.Meta.Deleting,dI x0.Meta.DeleteAt,.own 1 0 0 (t1.length) none,.own 2 0 0 (t2.length) none,.own 3 0 0 (t3.length) none,.own 4 0 0 (o5.length) none,.own 5 0 0 (o12_0.length) none,dM (x0.MinAvailable.map eAmount),dM (x0.MaxUnavailable.map eAmount),dI x0.Observed,dI x0.Healthy,dI x0.Desired,dI x0.Expected,dI x0.Allowed,dM (x0.Disrupted.map eWorkItem)],some (.arr 0 2 (t1.map eLabel)),some (.arr 0 5 (t2.map eOwner)),some (.arr 0 1 (t3.map eS)),some (.arr 0 2 (o5.map eManager)),some (.arr 0 3 (o12_0.map eRequirement)),xb [dS ((⟨#[]⟩:ByteArray)),dS ((⟨#[]⟩:ByteArray)),dS ((⟨#[]⟩:ByteArray)),dI 0,dI 0,dI 0,dI 0,dB false,dI 0,dN,dN,dN,dN,dN,dN,dN,dI 0,dI 0,dI 0,dI 0,dI 0,dN]]⟩∧F24_l12 (t11.drop o12_1) o12_1 o12_0=some o12) (t11.length-0) [some 0,some 1,some 2,some 3,some 4,some 6,some 5] ⟨0,t11,⟨hk.1,rfl⟩,rfl,h⟩ ?_
  rintro _ _ ⟨o12_1,o12_0,⟨hi,rfl⟩,rfl,h⟩
  refine ww ?_
  refine condS (fun c13=>?_) (fun c13=>?_)
  ·obtain⟨xo12,hxo12,hd⟩:=countY (show(o12_1:Int)<(t11.length:Int)from c13)
   rw[hd,F24_l12]at h
   refine ww ?_
   obtain⟨y14,hy14,h⟩:=bi h
   refine t_idxO (enc:=eRequirement) (xs:=o12_0) rfl rfl rfl (by first|rfl|simp only[List.length_set]|exact(clrL_len (slI_len (by assumption))).symm) hy14 (ww ?_)
   refine LdRow.rd (rdI_some hy14).2.1 (ww ?_)
   obtain⟨t15,ht15,h⟩:=bi h
   refine cN [] (F54_ok ht15) trivial (ww ?_)
   obtain⟨y16,hy16,h⟩:=bi h
   refine t_idxO (enc:=eRequirement) (xs:=o12_0) rfl rfl rfl (by first|rfl|simp only[List.length_set]|exact(clrL_len (slI_len (by assumption))).symm) hy16 (ww ?_)
   refine StRow.rd (y':=(⟨y16.Key,y16.Op,t15⟩:Requirement)) (rdI_some hy16).2.1 (by simp[EE.down]) (by first|rfl|(simp only[bor_full'];rfl)) (ww ?_)
   rw[wrapN (by omega)]
   exact eL' (t11.length-(o12_1+1)) [some 0,some 1,some 2,some 3,some 4,some 5,some 6] ⟨o12_1+1,(o12_0.set ((o12_1:Int)).toNat ((⟨y16.Key,y16.Op,t15⟩:Requirement))),⟨by omega,rfl⟩,rfl,h⟩ (by omega)
  rw[countN (show¬((o12_1:Int)<(t11.length:Int))from c13),F24_l12]at h
  refine ww ?_
  cases h
  exact eM [some 0,some 1,some 2,some 3,some 4,some 5,some 6] rfl
 rintro _ rfl
 clear ho
 refine ww ?_
 obtain⟨t18,ht18,h⟩:=bi h
 refine cN [] (F57_ok ht18) trivial (ww ?_)
 refine kD_new (by simp[wrs,allW,hset]) (ww ?_)
 obtain⟨t19,ht19,h⟩:=bi h
 refine cN [] (F57_ok ht19) trivial (ww ?_)
 refine kD_new (by simp[wrs,allW,hset]) (ww ?_)
 obtain⟨t20,ht20,h⟩:=bi h
 refine cN [] (F58_ok ht20) trivial (ww ?_)
 refine kD_new (by simp[wrs,allW,hset]) (ww ?_)
 cases h
 exact eF [some 1,some 2,some 3,some 4,some 5,some 7,some 8,some 9]
def F25(x0:Int)(x1:Int):Option (Unit):=some (())
def a25:AFn:=⟨9,[(.tmp 4)],
 (.seq (.reg [Qe 4 0])
 (.seq (.reg [Qa 5 0,
sq 6 (.max (.t 5) (kI 0)),
Qa 7 1,
sq 8 (.min (.t 6) (.t 7)),
Qa 4 8])
 .ret))⟩
theorem F25_ok{x0 x1 r}(h:F25 x0 x1=some r):CallD Try.prog 25 [.c (dI x0),.c (dI x1)] [] (tupV [.c (dI ((if x1<(if x0<0 then 0 else x0)then x1 else(if x0<0 then 0 else x0))))]) []:=by
 rw[F25]at h
 refine zc a25 (by kernel_rfl) rfl (ww ?_)
 cases h
 exact eF []
def cF14m3:AC:=(.regd [Qd 67 6,
Qa 68 3,
zn 69 (.call 25 [(.t 68),(kI 1000000000000)]) [1] [1],
sd 70 (.build [dS ⟨#[]⟩,dI 0] [(0,1,(.t 67)),(1,1,(.t 69))]) [0,1,2],
sq 14 (.zbox [dS ⟨#[]⟩,dI 0]),
⟨none,none,.store 2 (.t 14) (.t 70),[0,1,2,3,4],(.lone [])⟩])
def F14m3(pods:List Pod)(key:ByteArray)(now:Int)(cs:List RBud)(at_:Int):Option (Unit):=(F25 now 1000000000000).bind fun t1=>some (())
theorem F14m3_ok{pods key now cs at_ r}(h:F14m3 pods key now cs at_=some r):sK Try.prog 118 0 cF14m3 [] (sM 118 0 (fun s=>s=⟨[(1,oc (dM (pods.map ePod))),(6,Pz 0),(10,oc (.own 1 0 0 (cs.length) none)),(13,oc (dI at_)),(14,Pz 2)],[xb [dS key],some (.arr 0 22 (cs.map eRBud)),xb [dS key,dI ((if(1000000000000:Int)<(if now<0 then 0 else now)then(1000000000000:Int)else(if now<0 then 0 else now)))]]⟩) (xQ 118 0 (fun _ _=>False) (fun _=>False)))
 ⟨[(1,oc (dM (pods.map ePod))),(3,oc (dI now)),(6,Pz 0),(10,oc (.own 1 0 0 (cs.length) none)),(13,oc (dI at_))],[xb [dS key],some (.arr 0 22 (cs.map eRBud))]⟩:=by
 rw[F14m3]at h
 simp only[cF14m3,VW.down,Nat.reduceEqDiff,reduceCtorEq,Nat.reduceAdd,Nat.reduceLeDiff,Nat.reduceLT,Nat.reduceBEq,Nat.reduceSub,EE.down]
 obtain⟨t1,ht1,h⟩:=bi h
 refine cN [] (F25_ok ht1) trivial (ww ?_)
 refine kD_new (by simp[wrs,allW,hset]) (ww ?_)
 cases h
 exact eM [some 0,some 1,some 2] rfl
def cF14m4:AC:=(.reg [Qa 71 10,
Qh 72 71,
Qe 73 0])
def F14m4(pods:List Pod)(key:ByteArray)(cs:List RBud)(at_:Int)(item:WorkItem):Option (Unit):=some (())
theorem F14m4_ok{pods key cs at_ item r}(h:F14m4 pods key cs at_ item=some r):sK Try.prog 118 0 cF14m4 [] (sM 118 0 (fun s=>s=⟨[(1,oc (dM (pods.map ePod))),(6,Pz 0),(10,oc (.own 1 0 0 (cs.length) none)),(13,oc (dI at_)),(14,Pz 2),(71,oc (.own 1 0 0 (cs.length) none)),(72,oc (dI ((cs.length:Int)))),(73,oc (dI 0))],[xb [dS key],some (.arr 0 22 (cs.map eRBud)),xb [dS item.Key,dI item.At]]⟩) (xQ 118 0 (fun _ _=>False) (fun _=>False)))
 ⟨[(1,oc (dM (pods.map ePod))),(6,Pz 0),(10,oc (.own 1 0 0 (cs.length) none)),(13,oc (dI at_)),(14,Pz 2)],[xb [dS key],some (.arr 0 22 (cs.map eRBud)),xb [dS item.Key,dI item.At]]⟩:=by
 rw[F14m4]at h
 simp only[cF14m4,VW.down,Nat.reduceEqDiff,reduceCtorEq,Nat.reduceAdd,Nat.reduceLeDiff,Nat.reduceLT,Nat.reduceBEq,Nat.reduceSub,EE.down]
 cases h
 exact eM [some 0,some 1,some 2] rfl
def cF14c0:AC:=(.reg [Qn 74 73 72])
def F14c0(pods:List Pod)(key:ByteArray)(cs:List RBud)(at_:Int)(item:WorkItem)(n:Int)(i:Int):Option (Unit):=some (())
theorem F14c0_ok{pods key cs at_ item n i r}(h:F14c0 pods key cs at_ item n i=some r):sK Try.prog 118 0 cF14c0 [] (sM 118 0 (fun s=>s=⟨[(1,oc (dM (pods.map ePod))),(6,Pz 0),(10,oc (.own 1 0 0 (cs.length) none)),(13,oc (dI at_)),(14,Pz 2),(71,oc (.own 1 0 0 (cs.length) none)),(72,oc (dI n)),(73,oc (dI i)),(74,oc (dB (decide (i<n))))],[xb [dS key],some (.arr 0 22 (cs.map eRBud)),xb [dS item.Key,dI item.At]]⟩) (xQ 118 0 (fun _ _=>False) (fun _=>False)))
 ⟨[(1,oc (dM (pods.map ePod))),(6,Pz 0),(10,oc (.own 1 0 0 (cs.length) none)),(13,oc (dI at_)),(14,Pz 2),(71,oc (.own 1 0 0 (cs.length) none)),(72,oc (dI n)),(73,oc (dI i))],[xb [dS key],some (.arr 0 22 (cs.map eRBud)),xb [dS item.Key,dI item.At]]⟩:=by
 rw[F14c0]at h
 simp only[cF14c0,VW.down,Nat.reduceEqDiff,reduceCtorEq,Nat.reduceAdd,Nat.reduceLeDiff,Nat.reduceLT,Nat.reduceBEq,Nat.reduceSub,EE.down]
 cases h
 exact eM [some 0,some 1,some 2] rfl
noncomputable def fn73:Func:=(Try.prog.funcs[73]?).getD default
theorem fn73_ok:Try.prog.funcs[73]? =some fn73:=by kernel_rfl
theorem F73_ok{a b:ByteArray}{r:Int}(h:cmpS a b=some r):CallD Try.prog 73 [.c (dS a),.c (dS b)] [] (tupV [.c (dI r)]) []:=L_cmp fn73_ok (by kernel_rfl) (by kernel_rfl) (by kernel_rfl) (by kernel_rfl) h
def F66(x0:ByteArray)(x1:ByteArray):Option (Int):=(cmpS x0 x1).bind fun t1=>some t1
def a66:AFn:=⟨8,[(.tmp 4)],
 (.seq (.reg [Qe 4 0])
 (.seq (.reg [Qa 5 0,
Qa 6 1,
Ql 7 73 5 6,
Qa 4 7])
 .ret))⟩
theorem F66_ok{x0 x1 r}(h:F66 x0 x1=some r):CallD Try.prog 66 [.c (dS x0),.c (dS x1)] [] (tupV [.c (dI r)]) []:=by
 rw[F66]at h
 refine zc a66 (by kernel_rfl) rfl (ww ?_)
 obtain⟨t1,ht1,h⟩:=bi h
 refine cN [] (F73_ok ht1) trivial (ww ?_)
 cases h
 exact eF []
noncomputable def fn67:Func:=(Try.prog.funcs[67]?).getD default
theorem fn67_ok:Try.prog.funcs[67]? =some fn67:=by kernel_rfl
theorem ov67(e0 e1 o0 o1 l0 l1:Nat)(c0 c1:Option Nat)(r0 r1:List (List D)):
 CallD Try.prog 67 [.c (.own 0 e0 o0 l0 c0),.c (.own 1 e1 o1 l1 c1)] [some (.arr e0 2 r0),some (.arr e1 2 r1)] (.one (aB false)) [some (.arr e0 2 r0),some (.arr e1 2 r1)]:=
 ovl_callD (tS:=30) (tT:=4) (e:=64) (ps:= #[30,30]) (rs:= #[4]) fn67_ok (by kernel_rfl) (by kernel_rfl) (by kernel_rfl) (by kernel_rfl) rfl rfl (by kernel_rfl) (by kernel_rfl) e0 e1 o0 o1 l0 l1 c0 c1 r0 r1
theorem a46_ok:afn Try.prog 46=some (insertA 2 24 [.v (.string ⟨#[]⟩),.v (.int .i64 0)] 67 68):=by kernel_rfl
theorem F46_ok{x0 r:List WorkItem}{i:Int}{x:WorkItem}{e0 e1:Nat}(h:insI x0 i x=some r):CallD Try.prog 46 [.c (.own 0 e0 0 x0.length none),aI i,.c (.own 1 e1 0 [x].length none)] [some (.arr e0 2 (x0.map eWorkItem)),some (.arr e1 2 ([x].map eWorkItem))] (tupV [.c (.own 0 (e0+1) 0 r.length none)]) [some (.arr (e0+1) 2 (r.map eWorkItem)),some (.arr e1 2 ([x].map eWorkItem))]:=L_insert a46_ok ov67 (fun _=>rfl) h
end Go.Proofs.Ytedgocbpegllaaa
