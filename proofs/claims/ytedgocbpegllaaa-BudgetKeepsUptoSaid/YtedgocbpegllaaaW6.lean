/- Each Go function as a function over typed data, and its walk. -/
import Derived.Test.YtedgocbpegllaaaW0
import Derived.Test.YtedgocbpegllaaaW2
import Derived.Test.YtedgocbpegllaaaW4
import Derived.Test.YtedgocbpegllaaaW5
namespace Go.Proofs.Ytedgocbpegllaaa
open Go Go.Fw Go.Shelf
set_option maxRecDepth 100000
set_option maxHeartbeats 4000000
set_option linter.unusedSimpArgs false
set_option linter.unusedVariables false
def F61_l1(x1:(List Label)):List Requirement→Nat→Option ((Bool) ⊕ (Unit))
 |[],o1_0=>some (Sum.inr (()))
 |xo1::xs,o1_0=>(F70 xo1 x1).bind fun t3=>(if(nb t3)=true then(some false).map Sum.inl else F61_l1 x1 xs (o1_0+1))
def F61(x0:(List Requirement))(x1:(List Label)):Option (Bool):=(((ck (0≤x0.length∧x0.length≤4294967290)).bind fun u5=>F61_l1 x1 x0 0:Option ((Bool) ⊕ (Unit))).bind fun o1=>match o1 with|Sum.inl f=>some f|Sum.inr po1=>some true)
def a61:AFn:=⟨18,[(.tmp 4)],
 (.seq (.reg [Qf 4 false])
 (.seq (.seq (.reg [Qa 7 0,
Qh 8 7,
Qe 9 0])
 (.sem (.block 0 (.loop (.seq (.reg [Qn 10 9 8])
 (.seq (.cond (.t 10)
 .skip
 (.exit 0))
 (.seq (.block 1 (.seq (.reg [Qp 11 3 7 9,
Qc 12 3 11,
sq 6 (.zbox [dS ⟨#[]⟩,dI 0,dN]),
su (.store 3 (.t 6) (.t 12))])
 (.seq (.reg [Qc 13 3 6,
Qa 14 1,
Ql 15 70 13 14,
Qq 16 15])
 (.cond (.t 16)
 (.seq (.reg [Qf 4 false])
 .ret)
 .skip))))
 (.reg [Qm 17 9 1,
Qa 9 17]))))))))
 (.seq (.reg [Qf 4 true])
 .ret)))⟩
theorem F61_ok{x0 x1 r}(h:F61 x0 x1=some r):CallD Try.prog 61 [.c (dM (x0.map eRequirement)),.c (dM (x1.map eLabel))] [] (tupV [.c (dB r)]) []:=by
 rw[F61]at h
 refine zc a61 (by kernel_rfl) rfl (ww ?_)
 obtain⟨o1,ho,h⟩:=bi h
 refine cutS (fun s=>∃po1,o1=Sum.inr po1∧s=⟨[],[]⟩) ?_ ?_
 ·have h0o1:=h
  have h:=ho
  clear ho
  obtain⟨_,hk,h⟩:=bi h
  have hk:=ck_some hk
  refine ww ?_
  refine bL (fun j s=>∃(o1_0:Nat),(o1_0≤x0.length∧j=x0.length-o1_0)∧s=⟨[(1,oc (dM (x1.map eLabel))),(7,oc (dM (x0.map eRequirement))),(8,oc (dI ((x0.length:Int)))),(9,oc (dI ((o1_0:Int))))],[]⟩∧F61_l1 x1 (x0.drop o1_0) o1_0=some o1) (x0.length-0) [] ⟨0,⟨hk.1,rfl⟩,rfl,h⟩ ?_
  rintro _ _ ⟨o1_0,⟨hi,rfl⟩,rfl,h⟩
  refine ww ?_
  refine condS (fun c2=>?_) (fun c2=>?_)
  ·obtain⟨xo1,hxo1,hd⟩:=countY (show(o1_0:Int)<(x0.length:Int)from c2)
   rw[hd,F61_l1]at h
   refine ww ?_
   refine t_idxF (enc:=eRequirement) (xs:=x0) rfl rfl hxo1 rfl (ww ?_)
   obtain⟨t3,ht3,h⟩:=bi h
   refine cN [] (F70_ok ht3) trivial (ww ?_)
   refine condBh h (fun c4 h=>ww ?_) (fun c4 h=>ww ?_)
   ·obtain⟨fh0o1,hfh0o1,rfl⟩:=Option.map_eq_some_iff.1 h
    have h:=hfh0o1.trans h0o1
    cases h
    exact eF []
   rw[wrapN (by omega)]
   exact eL' (x0.length-(o1_0+1)) [] ⟨o1_0+1,⟨by omega,rfl⟩,rfl,h⟩ (by omega)
  rw[countN (show¬((o1_0:Int)<(x0.length:Int))from c2),F61_l1]at h
  refine ww ?_
  cases h
  exact eM [] ⟨_,rfl,rfl⟩
 rintro _ ⟨po1,rfl,rfl⟩
 clear ho
 dsimp only at h
 refine ww ?_
 cases h
 exact eF []
def F29(x0:Budget)(x1:Pod):Option (Bool):=(((if x0.Meta.Namespace=x1.Meta.Namespace then(F61 x0.Selector x1.Meta.Labels).bind fun t3=>some t3 else some false)).bind fun o1=>some o1)
def a29:AFn:=⟨20,[(.tmp 4)],
 (.seq (.reg [Qg 2 0,
Qg 3 1,
Qf 4 false])
 (.seq (.sem (.reg [Qb 5 0 2,
Qb 6 1 5,
Qd 7 6,
Qb 8 0 3,
Qb 9 1 8,
Qd 10 9,
sq 11 (.bin .eql (.t 7) (.t 10)),
Qa 12 11,
Qs 13 12 true 13 2,
Qt 14 12 true 13,
Qs 15 12 true 0 3,
Qs 16 12 true 9 15,
Qt 17 12 true 16,
zg 18 12 true (.call 61 [(.t 14),(.t 17)]),
Qi 19 12 18,
Qa 4 19]))
 .ret))⟩
theorem F29_ok{x0 x1 r}(h:F29 x0 x1=some r):CallD Try.prog 29 [.agg (bBudget x0),.agg (bPod x1)] [] (tupV [.c (dB r)]) []:=by
 rw[F29]at h
 refine zc a29 (by kernel_rfl) rfl (ww ?_)
 obtain⟨o1,ho,h⟩:=bi h
 refine cutS (fun s=>s=⟨[(4,oc (dB o1))],[]⟩) ?_ ?_
 ·have h:=ho
  clear ho
  refine ww ?_
  refine guardSh h (fun g2 h=>ww ?_) (fun g2 h=>ww ?_)
  ·obtain⟨t3,ht3,h⟩:=bi h
   refine cN [] (F61_ok ht3) trivial (ww ?_)
   cases h
   exact eM [] rfl
  cases h
  exact eM [] rfl
 rintro _ rfl
 clear ho
 refine ww ?_
 cases h
 exact eF []
def F31(x0:Budget)(x1:ByteArray):Option (Bool):=(F62 x0.Disrupted x1).bind fun t1=>some t1
def a31:AFn:=⟨9,[(.tmp 4)],
 (.seq (.reg [Qg 2 0,
Qg 3 1,
Qf 4 false])
 (.seq (.reg [Qb 5 21 2,
Qd 6 5,
sq 7 (.fn 63 [(.t 3)]),
Ql 8 62 6 7,
Qa 4 8])
 .ret))⟩
theorem F31_ok{x0 x1 r}(h:F31 x0 x1=some r):CallD Try.prog 31 [.agg (bBudget x0),.c (dS x1)] [] (tupV [.c (dB r)]) []:=by
 rw[F31]at h
 refine zc a31 (by kernel_rfl) rfl (ww ?_)
 obtain⟨t1,ht1,h⟩:=bi h
 refine cN [1] (F62_ok ht1) ⟨⟨rfl,by simp[Blk.live,C.live,hp]⟩,trivial⟩ ?_
 refine ww ?_
 cases h
 exact eF []
def F11_l3:List Pod→Nat→(List (ByteArray×Bool))→Option ((List (ByteArray×Bool)))
 |[],o3_1,o3_0=>some o3_0
 |xo3::xs,o3_1,o3_0=>(((if(nb xo3.Meta.Deleting)=true then(F26 xo3.Meta).bind fun t7=>some ((putM t7 true o3_0))else some o3_0)).bind fun o5=>F11_l3 xs (o3_1+1) o5)
def F11_l11(t1:(List Label)×(List Owner)×(List ByteArray)×(List Manager)×(List Requirement)×(List Amount)×(List Amount)×(List WorkItem))(t9:(List WorkItem))(x0:Budget)(x2:Int):List Pod→Nat→Int→Option (Int)
 |[],o11_1,o11_0=>some o11_0
 |xo11::xs,o11_1,o11_0=>(((((F29 x0 xo11).bind fun t15=>(if t15=true then(F30 xo11).bind fun t17=>(if t17=true then(F26 xo11.Meta).bind fun t19=>(F31 ((⟨(⟨x0.Meta.Kind,x0.Meta.Namespace,x0.Meta.Name,x0.Meta.Uid,x0.Meta.Version,x0.Meta.Generation,x0.Meta.Created,x0.Meta.Deleting,x0.Meta.DeleteAt,t1.1,t1.2.1,t1.2.2.1,t1.2.2.2.1⟩:Meta),t1.2.2.2.2.1,t1.2.2.2.2.2.1,t1.2.2.2.2.2.2.1,x0.Meta.Generation,o11_0,x0.Desired,(if(1000000000000000:Int)<(if x2<0 then 0 else x2)then(1000000000000000:Int)else(if x2<0 then 0 else x2)),x0.Allowed,t9⟩:Budget)) t19).bind fun t20=>some (nb t20)else some false)else some false)).bind fun o14=>(if o14=true then some ((IntKind.i64.wrap (o11_0+1)))else some o11_0))).bind fun o13=>F11_l11 t1 t9 x0 x2 xs (o11_1+1) o13)
def F11(x0:Budget)(x1:(List Pod))(x2:Int)(x3:Int):Option ((List Label)×(List Owner)×(List ByteArray)×(List Manager)×(List Requirement)×(List Amount)×(List Amount)×Int×Int×Int×(List WorkItem)):=(F24 x0).bind fun t1=>(F25 x3 1000000000000).bind fun t2=>(((ck (0≤x1.length∧x1.length≤4294967290)).bind fun u8=>F11_l3 x1 0 ([])).bind fun o3=>(F27 t1.2.2.2.2.2.2.2 ((if(1000000000000:Int)<(if x3<0 then 0 else x3)then(1000000000000:Int)else(if x3<0 then 0 else x3))) o3).bind fun t9=>(F25 x2 1000000000000000).bind fun t10=>(((ck (0≤x1.length∧x1.length≤4294967290)).bind fun u22=>F11_l11 t1 t9 x0 x2 x1 0 0).bind fun o11=>(F32 ((⟨(⟨x0.Meta.Kind,x0.Meta.Namespace,x0.Meta.Name,x0.Meta.Uid,x0.Meta.Version,x0.Meta.Generation,x0.Meta.Created,x0.Meta.Deleting,x0.Meta.DeleteAt,t1.1,t1.2.1,t1.2.2.1,t1.2.2.2.1⟩:Meta),t1.2.2.2.2.1,t1.2.2.2.2.2.1,t1.2.2.2.2.2.2.1,x0.Meta.Generation,o11,x0.Desired,(if(1000000000000000:Int)<(if x2<0 then 0 else x2)then(1000000000000000:Int)else(if x2<0 then 0 else x2)),x0.Allowed,t9⟩:Budget))).bind fun t23=>some ((t1.1,t1.2.1,t1.2.2.1,t1.2.2.2.1,t1.2.2.2.2.1,t1.2.2.2.2.2.1,t1.2.2.2.2.2.2.1,o11,t23,(if(IntKind.i64.wrap (o11-t23))<0 then 0 else(IntKind.i64.wrap (o11-t23))),t9))))
def a11:AFn:=⟨85,[(.cell 8 (some 22))],
 (.seq (.reg [Qg 4 0,
Qg 7 3,
sq 8 (.zbox [dS ⟨#[]⟩,dS ⟨#[]⟩,dS ⟨#[]⟩,dI 0,dI 0,dI 0,dI 0,dB false,dI 0,dN,dN,dN,dN,dN,dN,dN,dI 0,dI 0,dI 0,dI 0,dI 0,dN])])
 (.seq (.reg [Qc 15 22 4,
Qk 16 24 15,
sq 9 (.zbox [dS ⟨#[]⟩,dS ⟨#[]⟩,dS ⟨#[]⟩,dI 0,dI 0,dI 0,dI 0,dB false,dI 0,dN,dN,dN,dN,dN,dN,dN,dI 0,dI 0,dI 0,dI 0,dI 0,dN]),
su (.store 22 (.t 9) (.t 16))])
 (.seq (.reg [Qd 17 7,
sq 18 (.call 25 [(.t 17),(kI 1000000000000)]),
su (.store 1 (.t 7) (.t 18))])
 (.seq (.reg [sq 19 (.mkmap),
sq 10 (.zbox [.d (.v (.map none))]),
su (.store 1 (.t 10) (.t 19))])
 (.seq (.seq (.reg [Qa 20 1,
Qh 21 20,
Qe 22 0])
 (.sem (.block 0 (.loop (.seq (.reg [Qn 23 22 21])
 (.seq (.cond (.t 23)
 .skip
 (.exit 0))
 (.seq (.sem (.block 1 (.seq (.reg [Qp 24 32 20 22,
Qc 25 32 24,
sq 12 (.zbox [dS ⟨#[]⟩,dS ⟨#[]⟩,dS ⟨#[]⟩,dI 0,dI 0,dI 0,dI 0,dB false,dI 0,dN,dN,dN,dN,dS ⟨#[]⟩,dI 0,dI 0,dI 0,dN,dN,dN,dN,dN,dN,dI 0,dB false,dI 0,dI 0,dI 0,dN,dI 0,dS ⟨#[]⟩,dS ⟨#[]⟩]),
su (.store 32 (.t 12) (.t 25))])
 (.seq (.reg [Qb 26 0 12,
Qb 27 7 26,
Qd 28 27,
Qq 29 28])
 (.cond (.t 29)
 (.regd [Qd 30 10,
Qb 31 0 12,
sd 32 (.load (some 13) (.t 31)) [1],
zl 33 (.call 26 [(.t 32)]) [1,2] [10],
⟨none,none,.mset 1 (.t 30) (.t 33) (kB true),[0,1,2,3],(.lone [])⟩])
 .skip)))))
 (.reg [Qm 34 22 1,
Qa 22 34]))))))))
 (.seq (.reg [Qb 35 21 9,
Qd 36 35,
sq 37 (.fn 28 [(.t 10),(.t 7)]),
Ql 38 27 36 37,
Qb 39 21 9,
su (.store 1 (.t 39) (.t 38))])
 (.seq (.reg [Qb 40 0 4,
Qb 41 5 40,
Qd 42 41,
Qb 43 16 9,
⟨none,none,.store 1 (.t 43) (.t 42),[],(.lone [4,40,41,9])⟩])
 (.seq (.reg [Qa 44 2,
sq 45 (.call 25 [(.t 44),(kI 1000000000000000)]),
Qb 46 19 9,
su (.store 1 (.t 46) (.t 45))])
 (.seq (.reg [Qb 47 17 9,
⟨none,none,.store 1 (.t 47) (kI 0),[],(.lone [9])⟩])
 (.seq (.seq (.reg [Qa 48 1,
Qh 49 48,
Qe 50 0])
 (.sem (.block 2 (.loop (.seq (.reg [Qn 51 50 49])
 (.seq (.cond (.t 51)
 .skip
 (.exit 2))
 (.seq (.sem (.block 3 (.seq (.reg [Qp 52 32 48 50,
Qc 53 32 52,
sq 14 (.zbox [dS ⟨#[]⟩,dS ⟨#[]⟩,dS ⟨#[]⟩,dI 0,dI 0,dI 0,dI 0,dB false,dI 0,dN,dN,dN,dN,dS ⟨#[]⟩,dI 0,dI 0,dI 0,dN,dN,dN,dN,dN,dN,dI 0,dB false,dI 0,dI 0,dI 0,dN,dI 0,dS ⟨#[]⟩,dS ⟨#[]⟩]),
su (.store 32 (.t 14) (.t 53))])
 (.seq (.sem (.regd [Qc 54 22 4,
Qc 55 32 14,
zl 56 (.call 29 [(.t 54),(.t 55)]) [0,1] [],
sd 57 (.mv (.t 56)) [0,1,2],
⟨(some 58),(some (57,true)),.load (some 32) (.t 14),[0,1,2,3],(.new [])⟩,
⟨(some 59),(some (57,true)),.call 30 [(.t 58)],[0,1,2,3,4],(.lone [])⟩,
zl 60 (.pick (.t 57) (.t 59) (kB false)) [0,1,2,3,4,5] [],
sd 61 (.mv (.t 60)) [0,1,2,3,4,5,6],
⟨(some 62),(some (61,true)),.load (some 22) (.t 9),[0,1,2,3,4,5,6,7],(.new [])⟩,
⟨(some 63),(some (61,true)),.fieldA 0 (.t 14),[0,1,2,3,4,5,6,7],(.new [])⟩,
⟨(some 64),(some (61,true)),.load (some 13) (.t 63),[0,1,2,3,4,5,6,7,9],(.new [])⟩,
⟨(some 65),(some (61,true)),.call 26 [(.t 64)],[0,1,2,3,4,5,6,7,9,10],(.lone [9])⟩,
⟨(some 66),(some (61,true)),.call 31 [(.t 62),(.t 65)],[0,1,2,3,4,5,6,7,8,9,10,11],(.lone [])⟩,
⟨(some 67),(some (61,true)),.not (.t 66),[0,1,2,3,4,5,6,7,8,9,10,11,12],(.new [])⟩,
zl 68 (.pick (.t 61) (.t 67) (kB false)) [0,1,2,3,4,5,6,7,8,9,10,11,12,13] []]))
 (.cond (.t 68)
 (.reg [Qb 69 17 9,
Qd 70 69,
Qm 71 70 1,
Qb 72 17 9,
⟨none,none,.store 1 (.t 72) (.t 71),[],(.lone [9,69,9])⟩])
 .skip)))))
 (.reg [Qm 73 50 1,
Qa 50 73]))))))))
 (.seq (.reg [Qc 74 22 9,
Qk 75 32 74,
Qb 76 18 9,
su (.store 1 (.t 76) (.t 75))])
 (.seq (.reg [Qb 77 17 9,
Qd 78 77,
Qb 79 18 9,
Qd 80 79,
sq 81 (.bin .sub (.t 78) (.t 80)),
sq 82 (.max (.t 81) (kI 0)),
Qb 83 20 9,
⟨none,none,.store 1 (.t 83) (.t 82),[],(.lone [9,77,9,79,9])⟩])
 (.seq (.reg [Qc 84 22 9,
⟨none,none,.store 22 (.t 8) (.t 84),[],(.lone [9])⟩])
 .ret)))))))))))))⟩
theorem F11_ok{x0 x1 x2 x3 r}(h:F11 x0 x1 x2 x3=some r):CallD Try.prog 11 [.agg (bBudget x0),.c (dM (x1.map ePod)),.c (dI x2),.c (dI x3)] [] (tupV [.agg [dS x0.Meta.Kind,dS x0.Meta.Namespace,dS x0.Meta.Name,dI x0.Meta.Uid,dI x0.Meta.Version,dI x0.Meta.Generation,dI x0.Meta.Created,dB x0.Meta.Deleting,dI x0.Meta.DeleteAt,.own 0 0 0 (r.1.length) none,.own 1 0 0 (r.2.1.length) none,.own 2 0 0 (r.2.2.1.length) none,.own 3 0 0 (r.2.2.2.1.length) none,.own 4 0 0 (r.2.2.2.2.1.length) none,.own 5 0 0 (r.2.2.2.2.2.1.length) none,.own 6 0 0 (r.2.2.2.2.2.2.1.length) none,dI x0.Meta.Generation,dI r.2.2.2.2.2.2.2.1,dI r.2.2.2.2.2.2.2.2.1,dI ((if(1000000000000000:Int)<(if x2<0 then 0 else x2)then(1000000000000000:Int)else(if x2<0 then 0 else x2))),dI r.2.2.2.2.2.2.2.2.2.1,.own 7 0 0 (r.2.2.2.2.2.2.2.2.2.2.length) none]]) [some (.arr 0 2 (r.1.map eLabel)),some (.arr 0 5 (r.2.1.map eOwner)),some (.arr 0 1 (r.2.2.1.map eS)),some (.arr 0 2 (r.2.2.2.1.map eManager)),some (.arr 0 3 (r.2.2.2.2.1.map eRequirement)),some (.arr 0 2 (r.2.2.2.2.2.1.map eAmount)),some (.arr 0 2 (r.2.2.2.2.2.2.1.map eAmount)),some (.arr 0 2 (r.2.2.2.2.2.2.2.2.2.2.map eWorkItem))]:=by
 rw[F11]at h
 refine zc a11 (by kernel_rfl) rfl (ww ?_)
 obtain⟨t1,ht1,h⟩:=bi h
 refine cN [] (F24_ok ht1) trivial (ww ?_)
 obtain⟨t2,ht2,h⟩:=bi h
 refine cN [] (F25_ok ht2) trivial (ww ?_)
 refine t_mkmap1 (κ:=ByteArray) (α:=Bool) (enc:=(fun x=> .v (.bool x))) Value.string (ww ?_)
 obtain⟨o3,ho,h⟩:=bi h
 refine cutS (fun s=>s=⟨[(1,oc (dM (x1.map ePod))),(2,oc (dI x2)),(4,Pz 0),(7,Pz 1),(8,Pz 2),(9,Pz 3),(10,Pz 12)],[xb (bBudget x0),xb [dI ((if(1000000000000:Int)<(if x3<0 then 0 else x3)then(1000000000000:Int)else(if x3<0 then 0 else x3)))],xb [dS ((⟨#[]⟩:ByteArray)),dS ((⟨#[]⟩:ByteArray)),dS ((⟨#[]⟩:ByteArray)),dI 0,dI 0,dI 0,dI 0,dB false,dI 0,dN,dN,dN,dN,dN,dN,dN,dI 0,dI 0,dI 0,dI 0,dI 0,dN],xb [dS x0.Meta.Kind,dS x0.Meta.Namespace,dS x0.Meta.Name,dI x0.Meta.Uid,dI x0.Meta.Version,dI x0.Meta.Generation,dI x0.Meta.Created,dB x0.Meta.Deleting,dI x0.Meta.DeleteAt,.own 4 0 0 (t1.1.length) none,.own 5 0 0 (t1.2.1.length) none,.own 6 0 0 (t1.2.2.1.length) none,.own 7 0 0 (t1.2.2.2.1.length) none,.own 8 0 0 (t1.2.2.2.2.1.length) none,.own 9 0 0 (t1.2.2.2.2.2.1.length) none,.own 10 0 0 (t1.2.2.2.2.2.2.1.length) none,dI x0.Observed,dI x0.Healthy,dI x0.Desired,dI x0.Expected,dI x0.Allowed,.own 11 0 0 (t1.2.2.2.2.2.2.2.length) none],some (.arr 0 2 (t1.1.map eLabel)),some (.arr 0 5 (t1.2.1.map eOwner)),some (.arr 0 1 (t1.2.2.1.map eS)),some (.arr 0 2 (t1.2.2.2.1.map eManager)),some (.arr 0 3 (t1.2.2.2.2.1.map eRequirement)),some (.arr 0 2 (t1.2.2.2.2.2.1.map eAmount)),some (.arr 0 2 (t1.2.2.2.2.2.2.1.map eAmount)),some (.arr 0 2 (t1.2.2.2.2.2.2.2.map eWorkItem)),xb [.mref 13],some (.map (eM1 Value.string (fun x=> .v (.bool x)) o3))]⟩) ?_ ?_
 ·have h:=ho
  clear ho
  obtain⟨_,hk,h⟩:=bi h
  have hk:=ck_some hk
  refine ww ?_
  refine bL (fun j s=>∃(o3_1:Nat) (o3_0:List (ByteArray×Bool)),(o3_1≤x1.length∧j=x1.length-o3_1)∧s=⟨[(1,oc (dM (x1.map ePod))),(2,oc (dI x2)),(4,Pz 0),(7,Pz 1),(8,Pz 2),(9,Pz 3),(10,Pz 12),(20,oc (dM (x1.map ePod))),(21,oc (dI ((x1.length:Int)))),(22,oc (dI ((o3_1:Int))))],[xb (bBudget x0),xb [dI ((if(1000000000000:Int)<(if x3<0 then 0 else x3)then(1000000000000:Int)else(if x3<0 then 0 else x3)))],xb [dS ((⟨#[]⟩:ByteArray)),dS ((⟨#[]⟩:ByteArray)),dS ((⟨#[]⟩:ByteArray)),dI 0,dI 0,dI 0,dI 0,dB false,dI 0,dN,dN,dN,dN,dN,dN,dN,dI 0,dI 0,dI 0,dI 0,dI 0,dN],xb [dS x0.Meta.Kind,dS x0.Meta.Namespace,dS x0.Meta.Name,dI x0.Meta.Uid,dI x0.Meta.Version,dI x0.Meta.Generation,dI x0.Meta.Created,dB x0.Meta.Deleting,dI x0.Meta.DeleteAt,.own 4 0 0 (t1.1.length) none,.own 5 0 0 (t1.2.1.length) none,.own 6 0 0 (t1.2.2.1.length) none,.own 7 0 0 (t1.2.2.2.1.length) none,.own 8 0 0 (t1.2.2.2.2.1.length) none,.own 9 0 0 (t1.2.2.2.2.2.1.length) none,.own 10 0 0 (t1.2.2.2.2.2.2.1.length) none,dI x0.Observed,dI x0.Healthy,dI x0.Desired,dI x0.Expected,dI x0.Allowed,.own 11 0 0 (t1.2.2.2.2.2.2.2.length) none],some (.arr 0 2 (t1.1.map eLabel)),some (.arr 0 5 (t1.2.1.map eOwner)),some (.arr 0 1 (t1.2.2.1.map eS)),some (.arr 0 2 (t1.2.2.2.1.map eManager)),some (.arr 0 3 (t1.2.2.2.2.1.map eRequirement)),some (.arr 0 2 (t1.2.2.2.2.2.1.map eAmount)),some (.arr 0 2 (t1.2.2.2.2.2.2.1.map eAmount)),some (.arr 0 2 (t1.2.2.2.2.2.2.2.map eWorkItem)),xb [.mref 13],some (.map (eM1 Value.string (fun x=> .v (.bool x)) o3_0))]⟩∧F11_l3 (x1.drop o3_1) o3_1 o3_0=some o3) (x1.length-0) [some 0,some 1,some 2,some 11,some 3,some 4,some 5,some 6,some 7,some 8,some 9,some 10,some 13,some 12] ⟨0,[],⟨hk.1,rfl⟩,rfl,h⟩ ?_
  rintro _ _ ⟨o3_1,o3_0,⟨hi,rfl⟩,rfl,h⟩
  refine ww ?_
  refine condS (fun c4=>?_) (fun c4=>?_)
  ·obtain⟨xo3,hxo3,hd⟩:=countY (show(o3_1:Int)<(x1.length:Int)from c4)
   rw[hd,F11_l3]at h
   refine ww ?_
   obtain⟨o5,ho,h⟩:=bi h
   refine cutS (fun s=>s=⟨[(1,oc (dM (x1.map ePod))),(2,oc (dI x2)),(4,Pz 0),(7,Pz 1),(8,Pz 2),(9,Pz 3),(10,Pz 12),(20,oc (dM (x1.map ePod))),(21,oc (dI ((x1.length:Int)))),(22,oc (dI ((o3_1:Int))))],[xb (bBudget x0),xb [dI ((if(1000000000000:Int)<(if x3<0 then 0 else x3)then(1000000000000:Int)else(if x3<0 then 0 else x3)))],xb [dS ((⟨#[]⟩:ByteArray)),dS ((⟨#[]⟩:ByteArray)),dS ((⟨#[]⟩:ByteArray)),dI 0,dI 0,dI 0,dI 0,dB false,dI 0,dN,dN,dN,dN,dN,dN,dN,dI 0,dI 0,dI 0,dI 0,dI 0,dN],xb [dS x0.Meta.Kind,dS x0.Meta.Namespace,dS x0.Meta.Name,dI x0.Meta.Uid,dI x0.Meta.Version,dI x0.Meta.Generation,dI x0.Meta.Created,dB x0.Meta.Deleting,dI x0.Meta.DeleteAt,.own 4 0 0 (t1.1.length) none,.own 5 0 0 (t1.2.1.length) none,.own 6 0 0 (t1.2.2.1.length) none,.own 7 0 0 (t1.2.2.2.1.length) none,.own 8 0 0 (t1.2.2.2.2.1.length) none,.own 9 0 0 (t1.2.2.2.2.2.1.length) none,.own 10 0 0 (t1.2.2.2.2.2.2.1.length) none,dI x0.Observed,dI x0.Healthy,dI x0.Desired,dI x0.Expected,dI x0.Allowed,.own 11 0 0 (t1.2.2.2.2.2.2.2.length) none],some (.arr 0 2 (t1.1.map eLabel)),some (.arr 0 5 (t1.2.1.map eOwner)),some (.arr 0 1 (t1.2.2.1.map eS)),some (.arr 0 2 (t1.2.2.2.1.map eManager)),some (.arr 0 3 (t1.2.2.2.2.1.map eRequirement)),some (.arr 0 2 (t1.2.2.2.2.2.1.map eAmount)),some (.arr 0 2 (t1.2.2.2.2.2.2.1.map eAmount)),some (.arr 0 2 (t1.2.2.2.2.2.2.2.map eWorkItem)),xb [.mref 13],some (.map (eM1 Value.string (fun x=> .v (.bool x)) o5))]⟩) ?_ ?_
   ·have h:=ho
    clear ho
    refine ww ?_
    refine t_idxF (enc:=ePod) (xs:=x1) rfl rfl hxo3 rfl (ww ?_)
    refine condBh h (fun c6 h=>ww ?_) (fun c6 h=>ww ?_)
    ·obtain⟨t7,ht7,h⟩:=bi h
     refine cN [] (F26_ok ht7) trivial (ww ?_)
     refine t_mset1 (enc:=(fun x=> .v (.bool x))) (l:=o3_0) (x:=true) kkS rfl rfl rfl rfl (ww ?_)
     cases h
     exact eM [some 0,some 1,some 2,some 3,some 4,some 5,some 6,some 7,some 8,some 9,some 10,some 11,some 12,some 13] rfl
    cases h
    exact eM [some 0,some 1,some 2,some 3,some 4,some 5,some 6,some 7,some 8,some 9,some 10,some 11,some 12,some 13] rfl
   rintro _ rfl
   clear ho
   refine ww ?_
   rw[wrapN (by omega)]
   exact eL' (x1.length-(o3_1+1)) [some 0,some 1,some 2,some 3,some 4,some 5,some 6,some 7,some 8,some 9,some 10,some 11,some 12,some 13] ⟨o3_1+1,o5,⟨by omega,rfl⟩,rfl,h⟩ (by omega)
  rw[countN (show¬((o3_1:Int)<(x1.length:Int))from c4),F11_l3]at h
  refine ww ?_
  cases h
  exact eM [some 0,some 1,some 2,some 3,some 4,some 5,some 6,some 7,some 8,some 9,some 10,some 11,some 12,some 13] rfl
 rintro _ rfl
 clear ho
 refine ww ?_
 obtain⟨t9,ht9,h⟩:=bi h
 refine cN [11,12,1,13] (F27_ok (e0:=0) ht9) ⟨⟨rfl,trivial⟩,⟨⟨rfl,by simp[Blk.live,C.live,hp]⟩,⟨⟨rfl,by simp[Blk.live,C.live,hp]⟩,⟨⟨congrArg some (by first|exact ren_m1.symm|exact ren_ms.symm),(by first|exact entsD_live entsD_1 _|exact entsD_live entsD_s _)⟩,trivial⟩⟩⟩⟩ ?_
 refine ww ?_
 obtain⟨t10,ht10,h⟩:=bi h
 refine cN [] (F25_ok ht10) trivial (ww ?_)
 obtain⟨o11,ho,h⟩:=bi h
 refine cutS (fun s=>s=⟨[(8,Pz 0),(9,Pz 1)],[xb [dS ((⟨#[]⟩:ByteArray)),dS ((⟨#[]⟩:ByteArray)),dS ((⟨#[]⟩:ByteArray)),dI 0,dI 0,dI 0,dI 0,dB false,dI 0,dN,dN,dN,dN,dN,dN,dN,dI 0,dI 0,dI 0,dI 0,dI 0,dN],xb [dS x0.Meta.Kind,dS x0.Meta.Namespace,dS x0.Meta.Name,dI x0.Meta.Uid,dI x0.Meta.Version,dI x0.Meta.Generation,dI x0.Meta.Created,dB x0.Meta.Deleting,dI x0.Meta.DeleteAt,.own 2 0 0 (t1.1.length) none,.own 3 0 0 (t1.2.1.length) none,.own 4 0 0 (t1.2.2.1.length) none,.own 5 0 0 (t1.2.2.2.1.length) none,.own 6 0 0 (t1.2.2.2.2.1.length) none,.own 7 0 0 (t1.2.2.2.2.2.1.length) none,.own 8 0 0 (t1.2.2.2.2.2.2.1.length) none,dI x0.Meta.Generation,dI o11,dI x0.Desired,dI ((if(1000000000000000:Int)<(if x2<0 then 0 else x2)then(1000000000000000:Int)else(if x2<0 then 0 else x2))),dI x0.Allowed,.own 9 0 0 (t9.length) none],some (.arr 0 2 (t1.1.map eLabel)),some (.arr 0 5 (t1.2.1.map eOwner)),some (.arr 0 1 (t1.2.2.1.map eS)),some (.arr 0 2 (t1.2.2.2.1.map eManager)),some (.arr 0 3 (t1.2.2.2.2.1.map eRequirement)),some (.arr 0 2 (t1.2.2.2.2.2.1.map eAmount)),some (.arr 0 2 (t1.2.2.2.2.2.2.1.map eAmount)),some (.arr 0 2 (t9.map eWorkItem))]⟩) ?_ ?_
 ·have h:=ho
  clear ho
  obtain⟨_,hk,h⟩:=bi h
  have hk:=ck_some hk
  refine ww ?_
  refine bL (fun j s=>∃(o11_1:Nat) (o11_0:Int),(o11_1≤x1.length∧j=x1.length-o11_1)∧s=⟨[(4,Pz 0),(8,Pz 1),(9,Pz 2),(48,oc (dM (x1.map ePod))),(49,oc (dI ((x1.length:Int)))),(50,oc (dI ((o11_1:Int))))],[xb (bBudget x0),xb [dS ((⟨#[]⟩:ByteArray)),dS ((⟨#[]⟩:ByteArray)),dS ((⟨#[]⟩:ByteArray)),dI 0,dI 0,dI 0,dI 0,dB false,dI 0,dN,dN,dN,dN,dN,dN,dN,dI 0,dI 0,dI 0,dI 0,dI 0,dN],xb [dS x0.Meta.Kind,dS x0.Meta.Namespace,dS x0.Meta.Name,dI x0.Meta.Uid,dI x0.Meta.Version,dI x0.Meta.Generation,dI x0.Meta.Created,dB x0.Meta.Deleting,dI x0.Meta.DeleteAt,.own 3 0 0 (t1.1.length) none,.own 4 0 0 (t1.2.1.length) none,.own 5 0 0 (t1.2.2.1.length) none,.own 6 0 0 (t1.2.2.2.1.length) none,.own 7 0 0 (t1.2.2.2.2.1.length) none,.own 8 0 0 (t1.2.2.2.2.2.1.length) none,.own 9 0 0 (t1.2.2.2.2.2.2.1.length) none,dI x0.Meta.Generation,dI o11_0,dI x0.Desired,dI ((if(1000000000000000:Int)<(if x2<0 then 0 else x2)then(1000000000000000:Int)else(if x2<0 then 0 else x2))),dI x0.Allowed,.own 10 0 0 (t9.length) none],some (.arr 0 2 (t1.1.map eLabel)),some (.arr 0 5 (t1.2.1.map eOwner)),some (.arr 0 1 (t1.2.2.1.map eS)),some (.arr 0 2 (t1.2.2.2.1.map eManager)),some (.arr 0 3 (t1.2.2.2.2.1.map eRequirement)),some (.arr 0 2 (t1.2.2.2.2.2.1.map eAmount)),some (.arr 0 2 (t1.2.2.2.2.2.2.1.map eAmount)),some (.arr 0 2 (t9.map eWorkItem))]⟩∧F11_l11 t1 t9 x0 x2 (x1.drop o11_1) o11_1 o11_0=some o11) (x1.length-0) [some 0,some 2,some 3,some 4,some 5,some 6,some 7,some 8,some 9,some 10,some 11] ⟨0,0,⟨hk.1,rfl⟩,rfl,h⟩ ?_
  rintro _ _ ⟨o11_1,o11_0,⟨hi,rfl⟩,rfl,h⟩
  refine ww ?_
  refine condS (fun c12=>?_) (fun c12=>?_)
  ·obtain⟨xo11,hxo11,hd⟩:=countY (show(o11_1:Int)<(x1.length:Int)from c12)
   rw[hd,F11_l11]at h
   refine ww ?_
   obtain⟨o13,ho,h⟩:=bi h
   refine cutS (fun s=>s=⟨[(4,Pz 0),(8,Pz 1),(9,Pz 2),(48,oc (dM (x1.map ePod))),(49,oc (dI ((x1.length:Int)))),(50,oc (dI ((o11_1:Int))))],[xb (bBudget x0),xb [dS ((⟨#[]⟩:ByteArray)),dS ((⟨#[]⟩:ByteArray)),dS ((⟨#[]⟩:ByteArray)),dI 0,dI 0,dI 0,dI 0,dB false,dI 0,dN,dN,dN,dN,dN,dN,dN,dI 0,dI 0,dI 0,dI 0,dI 0,dN],xb [dS x0.Meta.Kind,dS x0.Meta.Namespace,dS x0.Meta.Name,dI x0.Meta.Uid,dI x0.Meta.Version,dI x0.Meta.Generation,dI x0.Meta.Created,dB x0.Meta.Deleting,dI x0.Meta.DeleteAt,.own 3 0 0 (t1.1.length) none,.own 4 0 0 (t1.2.1.length) none,.own 5 0 0 (t1.2.2.1.length) none,.own 6 0 0 (t1.2.2.2.1.length) none,.own 7 0 0 (t1.2.2.2.2.1.length) none,.own 8 0 0 (t1.2.2.2.2.2.1.length) none,.own 9 0 0 (t1.2.2.2.2.2.2.1.length) none,dI x0.Meta.Generation,dI o13,dI x0.Desired,dI ((if(1000000000000000:Int)<(if x2<0 then 0 else x2)then(1000000000000000:Int)else(if x2<0 then 0 else x2))),dI x0.Allowed,.own 10 0 0 (t9.length) none],some (.arr 0 2 (t1.1.map eLabel)),some (.arr 0 5 (t1.2.1.map eOwner)),some (.arr 0 1 (t1.2.2.1.map eS)),some (.arr 0 2 (t1.2.2.2.1.map eManager)),some (.arr 0 3 (t1.2.2.2.2.1.map eRequirement)),some (.arr 0 2 (t1.2.2.2.2.2.1.map eAmount)),some (.arr 0 2 (t1.2.2.2.2.2.2.1.map eAmount)),some (.arr 0 2 (t9.map eWorkItem))]⟩) ?_ ?_
   ·have h:=ho
    clear ho
    refine ww ?_
    refine t_idxF (enc:=ePod) (xs:=x1) rfl rfl hxo11 rfl (ww ?_)
    obtain⟨o14,ho,h⟩:=bi h
    refine cutS (fun s=>s=⟨[(4,Pz 0),(8,Pz 1),(9,Pz 2),(48,oc (dM (x1.map ePod))),(49,oc (dI ((x1.length:Int)))),(50,oc (dI ((o11_1:Int)))),(68,oc (dB o14))],[xb (bBudget x0),xb [dS ((⟨#[]⟩:ByteArray)),dS ((⟨#[]⟩:ByteArray)),dS ((⟨#[]⟩:ByteArray)),dI 0,dI 0,dI 0,dI 0,dB false,dI 0,dN,dN,dN,dN,dN,dN,dN,dI 0,dI 0,dI 0,dI 0,dI 0,dN],xb [dS x0.Meta.Kind,dS x0.Meta.Namespace,dS x0.Meta.Name,dI x0.Meta.Uid,dI x0.Meta.Version,dI x0.Meta.Generation,dI x0.Meta.Created,dB x0.Meta.Deleting,dI x0.Meta.DeleteAt,.own 3 0 0 (t1.1.length) none,.own 4 0 0 (t1.2.1.length) none,.own 5 0 0 (t1.2.2.1.length) none,.own 6 0 0 (t1.2.2.2.1.length) none,.own 7 0 0 (t1.2.2.2.2.1.length) none,.own 8 0 0 (t1.2.2.2.2.2.1.length) none,.own 9 0 0 (t1.2.2.2.2.2.2.1.length) none,dI x0.Meta.Generation,dI o11_0,dI x0.Desired,dI ((if(1000000000000000:Int)<(if x2<0 then 0 else x2)then(1000000000000000:Int)else(if x2<0 then 0 else x2))),dI x0.Allowed,.own 10 0 0 (t9.length) none],some (.arr 0 2 (t1.1.map eLabel)),some (.arr 0 5 (t1.2.1.map eOwner)),some (.arr 0 1 (t1.2.2.1.map eS)),some (.arr 0 2 (t1.2.2.2.1.map eManager)),some (.arr 0 3 (t1.2.2.2.2.1.map eRequirement)),some (.arr 0 2 (t1.2.2.2.2.2.1.map eAmount)),some (.arr 0 2 (t1.2.2.2.2.2.2.1.map eAmount)),some (.arr 0 2 (t9.map eWorkItem))]⟩) ?_ ?_
    ·have h:=ho
     clear ho
     refine ww ?_
     obtain⟨t15,ht15,h⟩:=bi h
     refine cN [] (F29_ok ht15) trivial (ww ?_)
     refine guardDBh h (fun g16 h=>ww ?_) (fun g16 h=>ww ?_)
     ·obtain⟨t17,ht17,h⟩:=bi h
      refine cN [] (F30_ok ht17) trivial (ww ?_)
      refine guardDBh h (fun g18 h=>ww ?_) (fun g18 h=>ww ?_)
      ·obtain⟨t19,ht19,h⟩:=bi h
       refine cN [] (F26_ok ht19) trivial (ww ?_)
       obtain⟨t20,ht20,h⟩:=bi h
       refine callX_bor (F31_ok ht20) (by simp only[borAs,bors,hp,List.getElem?_cons_zero,List.getElem?_cons_succ,Option.join_some,List.drop_zero,bor_full',true_and,Nat.zero_add,List.length_map,Nat.le_refl,nrm,List.length_cons,List.length_nil,Nat.reduceAdd,Nat.reduceLeDiff,List.take_succ_cons,List.take_zero,List.take_nil,List.map_cons,List.map_nil,List.length_set,EE.down]) rfl ?_
       refine ww ?_
       cases h
       exact eM [some 0,some 1,some 2,some 3,some 4,some 5,some 6,some 7,some 8,some 9,some 10] rfl
      cases h
      exact eM [some 0,some 1,some 2,some 3,some 4,some 5,some 6,some 7,some 8,some 9,some 10] rfl
     cases h
     exact eM [some 0,some 1,some 2,some 3,some 4,some 5,some 6,some 7,some 8,some 9,some 10] rfl
    rintro _ rfl
    clear ho
    refine ww ?_
    refine condBh h (fun c21 h=>ww ?_) (fun c21 h=>ww ?_)
    ·cases h
     exact eM [some 0,some 1,some 2,some 3,some 4,some 5,some 6,some 7,some 8,some 9,some 10] rfl
    cases h
    exact eM [some 0,some 1,some 2,some 3,some 4,some 5,some 6,some 7,some 8,some 9,some 10] rfl
   rintro _ rfl
   clear ho
   refine ww ?_
   rw[wrapN (by omega)]
   exact eL' (x1.length-(o11_1+1)) [some 0,some 1,some 2,some 3,some 4,some 5,some 6,some 7,some 8,some 9,some 10] ⟨o11_1+1,o13,⟨by omega,rfl⟩,rfl,h⟩ (by omega)
  rw[countN (show¬((o11_1:Int)<(x1.length:Int))from c12),F11_l11]at h
  refine ww ?_
  cases h
  exact eM [some 1,some 2,some 3,some 4,some 5,some 6,some 7,some 8,some 9,some 10] rfl
 rintro _ rfl
 clear ho
 refine ww ?_
 obtain⟨t23,ht23,h⟩:=bi h
 refine callX_bor (F32_ok ht23) (by simp only[borAs,bors,hp,List.getElem?_cons_zero,List.getElem?_cons_succ,Option.join_some,List.drop_zero,bor_full',true_and,Nat.zero_add,List.length_map,Nat.le_refl,nrm,List.length_cons,List.length_nil,Nat.reduceAdd,Nat.reduceLeDiff,List.take_succ_cons,List.take_zero,List.take_nil,List.map_cons,List.map_nil,List.length_set,EE.down]) rfl ?_
 refine ww ?_
 cases h
 exact eF [some 2,some 3,some 4,some 5,some 6,some 7,some 8,some 9]
def F50(x0:Budget)(b0:Pod)(b1:ByteArray):Option (Bool):=(((F29 x0 b0).bind fun t2=>(if t2=true then(if x0.Allowed≤0 then(F31 x0 b1).bind fun t5=>some (nb t5)else some false)else some false)).bind fun o1=>some o1)
def a50:AFn:=⟨19,[(.tmp 4)],
 (.seq (.reg [Qg 3 0,
Qf 4 false])
 (.seq (.sem (.reg [Qc 5 22 3,
Qc 6 32 1,
Ql 7 29 5 6,
Qa 8 7,
Qs 9 8 true 20 3,
Qt 10 8 true 9,
zg 11 8 true (.bin .leq (.t 10) (kI 0)),
Qi 12 8 11,
Qa 13 12,
Qu 14 13 true 22 3,
Qt 15 13 true 2,
zg 16 13 true (.call 31 [(.t 14),(.t 15)]),
zg 17 13 true (.not (.t 16)),
Qi 18 13 17,
Qa 4 18]))
 .ret))⟩
theorem F50_ok{x0 b0 b1 r}(h:F50 x0 b0 b1=some r):CallD Try.prog 50 [.agg (bBudget x0),.c (.pt 0 0),.c (.pt 1 0)] [xb (bPod b0),xb [dS b1]] (tupV [.c (dB r)]) [xb (bPod b0),xb [dS b1]]:=by
 rw[F50]at h
 refine zc a50 (by kernel_rfl) rfl (ww ?_)
 obtain⟨o1,ho,h⟩:=bi h
 refine cutS (fun s=>s=⟨[(4,oc (dB o1))],[xb (bPod b0),xb [dS b1]]⟩) ?_ ?_
 ·have h:=ho
  clear ho
  refine ww ?_
  obtain⟨t2,ht2,h⟩:=bi h
  refine cN [] (F29_ok ht2) trivial (ww ?_)
  refine guardSBh h (fun g3 h=>ww ?_) (fun g3 h=>ww ?_)
  ·refine guardSh h (fun g4 h=>ww ?_) (fun g4 h=>ww ?_)
   ·obtain⟨t5,ht5,h⟩:=bi h
    refine cN [] (F31_ok ht5) trivial (ww ?_)
    cases h
    exact eM [some 0,some 1] rfl
   cases h
   exact eM [some 0,some 1] rfl
  cases h
  exact eM [some 0,some 1] rfl
 rintro _ rfl
 clear ho
 refine ww ?_
 cases h
 exact eF [some 0,some 1]
def cF14c3:AC:=(.seq (.sem (.regd [Qc 78 22 16,
Qa 79 1,
Qa 80 13,
sd 81 (.indexA 32 (.t 79) (.t 80)) [1,2],
sd 82 (.load (some 32) (.t 81)) [1,2,3],
zl 83 (.call 29 [(.t 78),(.t 82)]) [0,1,2,3,4] [],
sd 84 (.not (.t 83)) [0,1,2,3,4,5],
sd 85 (.mv (.t 84)) [0,1,2,3,4,5,6],
⟨(some 86),(some (85,false)),.load (some 22) (.t 16),[0,1,2,3,4,5,6,7],(.new [])⟩,
⟨(some 87),(some (85,false)),.load none (.t 6),[0,1,2,3,4,5,6,7],(.new [])⟩,
⟨(some 88),(some (85,false)),.call 31 [(.t 86),(.t 87)],[0,1,2,3,4,5,6,7,8,9],(.lone [])⟩,
zl 89 (.pick (.t 85) (kB true) (.t 88)) [0,1,2,3,4,5,6,7,8,9,10] []]))
 (.cond (.t 89)
 (.exit 4)
 .skip))
def F14c3(pods:List Pod)(key:ByteArray)(cs:List RBud)(at_:Int)(item:WorkItem)(n:Int)(i:Int)(b:Budget)(ws:List WorkItem):Option ((Unit) ⊕ (Unit)):=(((rdI pods at_).bind fun y2=>(F29 ((⟨b.Meta,b.Selector,b.MinAvailable,b.MaxUnavailable,b.Observed,b.Healthy,b.Desired,b.Expected,b.Allowed,ws⟩:Budget)) y2).bind fun t3=>(if(nb t3)=true then some true else(F31 ((⟨b.Meta,b.Selector,b.MinAvailable,b.MaxUnavailable,b.Observed,b.Healthy,b.Desired,b.Expected,b.Allowed,ws⟩:Budget)) key).bind fun t5=>some t5)).bind fun o1=>(if o1=true then some (Sum.inl (()))else some (Sum.inr (()))))
theorem F14c3_ok{pods key cs at_ item n i b ws r}(h:F14c3 pods key cs at_ item n i b ws=some r):sK Try.prog 118 5 cF14c3 [] (sM 118 5 (fun s=>∃o1,r=Sum.inr (o1)∧s=⟨[(1,oc (dM (pods.map ePod))),(6,Pz 0),(10,oc (.own 1 0 0 (cs.length) none)),(13,oc (dI at_)),(14,Pz 2),(15,oc (dI i)),(16,Pz 3),(71,oc (.own 1 0 0 (cs.length) none)),(72,oc (dI n)),(73,oc (dI i))],[xb [dS key],some (.arr 0 22 (cs.map eRBud)),xb [dS item.Key,dI item.At],xb [dS b.Meta.Kind,dS b.Meta.Namespace,dS b.Meta.Name,dI b.Meta.Uid,dI b.Meta.Version,dI b.Meta.Generation,dI b.Meta.Created,dB b.Meta.Deleting,dI b.Meta.DeleteAt,dM (b.Meta.Labels.map eLabel),dM (b.Meta.Owners.map eOwner),dM (b.Meta.Finalizers.map eS),dM (b.Meta.Managers.map eManager),dM (b.Selector.map eRequirement),dM (b.MinAvailable.map eAmount),dM (b.MaxUnavailable.map eAmount),dI b.Observed,dI b.Healthy,dI b.Desired,dI b.Expected,dI b.Allowed,.own 4 0 0 (ws.length) none],some (.arr 0 2 (ws.map eWorkItem))]⟩) (xQ 118 5 (fun xi s=>xi=4∧∃o0,r=Sum.inl o0∧s=⟨[(1,oc (dM (pods.map ePod))),(6,Pz 0),(10,oc (.own 1 0 0 (cs.length) none)),(13,oc (dI at_)),(14,Pz 2),(71,oc (.own 1 0 0 (cs.length) none)),(72,oc (dI n)),(73,oc (dI i))],[xb [dS key],some (.arr 0 22 (cs.map eRBud)),xb [dS item.Key,dI item.At],xb [dS b.Meta.Kind,dS b.Meta.Namespace,dS b.Meta.Name,dI b.Meta.Uid,dI b.Meta.Version,dI b.Meta.Generation,dI b.Meta.Created,dB b.Meta.Deleting,dI b.Meta.DeleteAt,dM (b.Meta.Labels.map eLabel),dM (b.Meta.Owners.map eOwner),dM (b.Meta.Finalizers.map eS),dM (b.Meta.Managers.map eManager),dM (b.Selector.map eRequirement),dM (b.MinAvailable.map eAmount),dM (b.MaxUnavailable.map eAmount),dI b.Observed,dI b.Healthy,dI b.Desired,dI b.Expected,dI b.Allowed,.own 4 0 0 (ws.length) none],some (.arr 0 2 (ws.map eWorkItem))]⟩) (fun _=>False)))
 ⟨[(1,oc (dM (pods.map ePod))),(6,Pz 0),(10,oc (.own 1 0 0 (cs.length) none)),(13,oc (dI at_)),(14,Pz 2),(15,oc (dI i)),(16,Pz 3),(71,oc (.own 1 0 0 (cs.length) none)),(72,oc (dI n)),(73,oc (dI i))],[xb [dS key],some (.arr 0 22 (cs.map eRBud)),xb [dS item.Key,dI item.At],xb [dS b.Meta.Kind,dS b.Meta.Namespace,dS b.Meta.Name,dI b.Meta.Uid,dI b.Meta.Version,dI b.Meta.Generation,dI b.Meta.Created,dB b.Meta.Deleting,dI b.Meta.DeleteAt,dM (b.Meta.Labels.map eLabel),dM (b.Meta.Owners.map eOwner),dM (b.Meta.Finalizers.map eS),dM (b.Meta.Managers.map eManager),dM (b.Selector.map eRequirement),dM (b.MinAvailable.map eAmount),dM (b.MaxUnavailable.map eAmount),dI b.Observed,dI b.Healthy,dI b.Desired,dI b.Expected,dI b.Allowed,.own 4 0 0 (ws.length) none],some (.arr 0 2 (ws.map eWorkItem))]⟩:=by
 rw[F14c3]at h
 simp only[cF14c3,VW.down,Nat.reduceEqDiff,reduceCtorEq,Nat.reduceAdd,Nat.reduceLeDiff,Nat.reduceLT,Nat.reduceBEq,Nat.reduceSub,EE.down]
 obtain⟨o1,ho,h⟩:=bi h
 refine cutS (fun s=>s=⟨[(1,oc (dM (pods.map ePod))),(6,Pz 0),(10,oc (.own 1 0 0 (cs.length) none)),(13,oc (dI at_)),(14,Pz 2),(15,oc (dI i)),(16,Pz 3),(71,oc (.own 1 0 0 (cs.length) none)),(72,oc (dI n)),(73,oc (dI i)),(89,oc (dB o1))],[xb [dS key],some (.arr 0 22 (cs.map eRBud)),xb [dS item.Key,dI item.At],xb [dS b.Meta.Kind,dS b.Meta.Namespace,dS b.Meta.Name,dI b.Meta.Uid,dI b.Meta.Version,dI b.Meta.Generation,dI b.Meta.Created,dB b.Meta.Deleting,dI b.Meta.DeleteAt,dM (b.Meta.Labels.map eLabel),dM (b.Meta.Owners.map eOwner),dM (b.Meta.Finalizers.map eS),dM (b.Meta.Managers.map eManager),dM (b.Selector.map eRequirement),dM (b.MinAvailable.map eAmount),dM (b.MaxUnavailable.map eAmount),dI b.Observed,dI b.Healthy,dI b.Desired,dI b.Expected,dI b.Allowed,.own 4 0 0 (ws.length) none],some (.arr 0 2 (ws.map eWorkItem))]⟩) ?_ ?_
 ·have h:=ho
  clear ho
  refine ww ?_
  obtain⟨y2,hy2,h⟩:=bi h
  refine t_idxF (enc:=ePod) (xs:=pods) rfl rfl hy2 rfl (ww ?_)
  obtain⟨t3,ht3,h⟩:=bi h
  refine callX_bor (F29_ok ht3) (by simp only[borAs,bors,hp,List.getElem?_cons_zero,List.getElem?_cons_succ,Option.join_some,List.drop_zero,bor_full',true_and,Nat.zero_add,List.length_map,Nat.le_refl,nrm,List.length_cons,List.length_nil,Nat.reduceAdd,Nat.reduceLeDiff,List.take_succ_cons,List.take_zero,List.take_nil,List.map_cons,List.map_nil,List.length_set,EE.down]) rfl ?_
  refine ww ?_
  refine guardDBh h (fun g4 h=>ww ?_) (fun g4 h=>?_)
  ·cases h
   exact eM [some 0,some 1,some 2,some 3,some 4] rfl
  ·refine ww ?_
   obtain⟨t5,ht5,h⟩:=bi h
   refine callX_bor (F31_ok ht5) (by simp only[borAs,bors,hp,List.getElem?_cons_zero,List.getElem?_cons_succ,Option.join_some,List.drop_zero,bor_full',true_and,Nat.zero_add,List.length_map,Nat.le_refl,nrm,List.length_cons,List.length_nil,Nat.reduceAdd,Nat.reduceLeDiff,List.take_succ_cons,List.take_zero,List.take_nil,List.map_cons,List.map_nil,List.length_set,EE.down]) rfl ?_
   refine ww ?_
   cases h
   exact eM [some 0,some 1,some 2,some 3,some 4] rfl
 ·rintro _ rfl
  clear ho
  refine ww ?_
  refine condBh h (fun c6 h=>ww ?_) (fun c6 h=>?_)
  ·cases h
   exact eX [some 0,some 1,some 2,some 3,some 4] ⟨rfl,_,rfl,rfl⟩
  ·refine ww ?_
   cases h
   exact eM [some 0,some 1,some 2,some 3,some 4] ⟨_,rfl,rfl⟩
end Go.Proofs.Ytedgocbpegllaaa
