/- Each Go function as a function over typed data, and its walk. -/
import Derived.Test.YtedgocbpegllaaaW0
namespace Go.Proofs.Ytedgocbpegllaaa
open Go Go.Fw Go.Shelf
set_option maxRecDepth 100000
set_option maxHeartbeats 4000000
set_option linter.unusedSimpArgs false
set_option linter.unusedVariables false
def F33(x0:Budget):Option ((List WorkItem)):=(apI ([]:List WorkItem) x0.Disrupted).bind fun a1=>some a1
def a33:AFn:=⟨11,[(.cell 2 (some 22))],
 (.seq (.reg [Qg 1 0,
sq 2 (.zbox [dS ⟨#[]⟩,dS ⟨#[]⟩,dS ⟨#[]⟩,dI 0,dI 0,dI 0,dI 0,dB false,dI 0,dN,dN,dN,dN,dN,dN,dN,dI 0,dI 0,dI 0,dI 0,dI 0,dN])])
 (.seq (.reg [Qc 4 22 1,
sq 3 (.zbox [dS ⟨#[]⟩,dS ⟨#[]⟩,dS ⟨#[]⟩,dI 0,dI 0,dI 0,dI 0,dB false,dI 0,dN,dN,dN,dN,dN,dN,dN,dI 0,dI 0,dI 0,dI 0,dI 0,dN]),
su (.store 22 (.t 3) (.t 4))])
 (.seq (.reg [sq 5 (.bslice 2 []),
Qb 6 21 1,
Qd 7 6,
sq 8 (.app 2 24 (.t 5) (.t 7)),
Qb 9 21 3,
su (.store 1 (.t 9) (.t 8))])
 (.seq (.reg [Qc 10 22 3,
⟨none,none,.store 22 (.t 2) (.t 10),[],(.lone [3])⟩])
 .ret))))⟩
theorem F33_ok{x0 r}(h:F33 x0=some r):CallD Try.prog 33 [.agg (bBudget x0)] [] (tupV [.agg [dS x0.Meta.Kind,dS x0.Meta.Namespace,dS x0.Meta.Name,dI x0.Meta.Uid,dI x0.Meta.Version,dI x0.Meta.Generation,dI x0.Meta.Created,dB x0.Meta.Deleting,dI x0.Meta.DeleteAt,dM (x0.Meta.Labels.map eLabel),dM (x0.Meta.Owners.map eOwner),dM (x0.Meta.Finalizers.map eS),dM (x0.Meta.Managers.map eManager),dM (x0.Selector.map eRequirement),dM (x0.MinAvailable.map eAmount),dM (x0.MaxUnavailable.map eAmount),dI x0.Observed,dI x0.Healthy,dI x0.Desired,dI x0.Expected,dI x0.Allowed,.own 0 0 0 (r.length) none]]) [some (.arr 0 2 (r.map eWorkItem))]:=by
 rw[F33]at h
 refine zc a33 (by kernel_rfl) rfl (ww ?_)
 refine t_bslice (enc:=eWorkItem) (ys:=([]:List WorkItem)) rfl rfl (by simp[A1.cells]) (by first|rfl|(simp only[List.drop_zero,take_mapL];rfl)|(simp only[lit,List.map_cons,List.map_nil,List.drop_zero,take_mapL,EE.down];done)|(simp only[lit,List.map_cons,List.map_nil,List.drop_zero,take_mapL,EE.down];rfl)) (ww ?_)
 obtain⟨a1,ha1,h⟩:=bi h
 refine t_app (enc:=eWorkItem) (xs:=([]:List WorkItem)) rfl rfl (by first|rfl|simp only[List.length_set]|exact(clrL_len (slI_len (by assumption))).symm) rfl (rows_frz (enc:=eWorkItem) (fun _=>rfl)) ha1 (ww ?_)
 cases h
 exact eF [some 3]
def F77_l1(x1:ByteArray):List Label→Nat→Option ((ByteArray×Bool) ⊕ (Unit))
 |[],o1_0=>some (Sum.inr (()))
 |xo1::xs,o1_0=>(if xo1.Key=x1 then(some ((xo1.Value,true))).map Sum.inl else F77_l1 x1 xs (o1_0+1))
def F77(x0:(List Label))(x1:ByteArray):Option (ByteArray×Bool):=(((ck (0≤x0.length∧x0.length≤4294967290)).bind fun u4=>F77_l1 x1 x0 0:Option ((ByteArray×Bool) ⊕ (Unit))).bind fun o1=>match o1 with|Sum.inl f=>some f|Sum.inr po1=>some (((⟨#[]⟩:ByteArray),false)))
def a77:AFn:=⟨25,[(.tmp 4),(.tmp 5)],
 (.seq (.reg [sq 4 (.mv (kS ⟨#[]⟩)),
Qf 5 false])
 (.seq (.seq (.reg [Qe 6 0])
 (.sem (.block 0 (.loop (.seq (.seq (.reg [Qa 7 6,
Qa 8 0,
Qh 9 8,
Qn 10 7 9])
 (.cond (.t 10)
 .skip
 (.exit 0)))
 (.seq (.block 1 (.seq (.reg [Qa 13 0,
Qa 14 6,
Qp 15 2 13 14,
Qb 16 0 15,
Qd 17 16,
Qa 18 1,
sq 19 (.bin .eql (.t 17) (.t 18))])
 (.cond (.t 19)
 (.seq (.reg [Qa 20 0,
Qa 21 6,
Qp 22 2 20 21,
Qb 23 1 22,
Qd 24 23,
Qa 4 24,
Qf 5 true])
 .ret)
 .skip)))
 (.reg [Qa 11 6,
Qm 12 11 1,
Qa 6 12])))))))
 (.seq (.reg [sq 4 (.mv (kS ⟨#[]⟩)),
Qf 5 false])
 .ret)))⟩
theorem F77_ok{x0 x1 r}(h:F77 x0 x1=some r):CallD Try.prog 77 [.c (dM (x0.map eLabel)),.c (dS x1)] [] (tupV [.c (dS r.1),.c (dB r.2)]) []:=by
 rw[F77]at h
 refine zc a77 (by kernel_rfl) rfl (ww ?_)
 obtain⟨o1,ho,h⟩:=bi h
 refine cutS (fun s=>∃po1,o1=Sum.inr po1∧s=⟨[],[]⟩) ?_ ?_
 ·have h0o1:=h
  have h:=ho
  clear ho
  obtain⟨_,hk,h⟩:=bi h
  have hk:=ck_some hk
  refine ww ?_
  refine bL (fun j s=>∃(o1_0:Nat),(o1_0≤x0.length∧j=x0.length-o1_0)∧s=⟨[(0,oc (dM (x0.map eLabel))),(1,oc (dS x1)),(6,oc (dI ((o1_0:Int))))],[]⟩∧F77_l1 x1 (x0.drop o1_0) o1_0=some o1) (x0.length-0) [] ⟨0,⟨hk.1,rfl⟩,rfl,h⟩ ?_
  rintro _ _ ⟨o1_0,⟨hi,rfl⟩,rfl,h⟩
  refine ww ?_
  refine condS (fun c2=>?_) (fun c2=>?_)
  ·obtain⟨xo1,hxo1,hd⟩:=countY (show(o1_0:Int)<(x0.length:Int)from c2)
   rw[hd,F77_l1]at h
   refine ww ?_
   refine t_idxF (enc:=eLabel) (xs:=x0) rfl rfl hxo1 rfl (ww ?_)
   refine condSh h (fun c3 h=>ww ?_) (fun c3 h=>ww ?_)
   ·refine t_idxF (enc:=eLabel) (xs:=x0) rfl rfl hxo1 rfl (ww ?_)
    obtain⟨fh0o1,hfh0o1,rfl⟩:=Option.map_eq_some_iff.1 h
    have h:=hfh0o1.trans h0o1
    cases h
    exact eF []
   rw[wrapN (by omega)]
   exact eL' (x0.length-(o1_0+1)) [] ⟨o1_0+1,⟨by omega,rfl⟩,rfl,h⟩ (by omega)
  rw[countN (show¬((o1_0:Int)<(x0.length:Int))from c2),F77_l1]at h
  refine ww ?_
  cases h
  exact eM [] ⟨_,rfl,rfl⟩
 rintro _ ⟨po1,rfl,rfl⟩
 clear ho
 dsimp only at h
 refine ww ?_
 cases h
 exact eF []
def F78_l1(x1:ByteArray):List ByteArray→Nat→Option ((Bool) ⊕ (Unit))
 |[],o1_0=>some (Sum.inr (()))
 |xo1::xs,o1_0=>(if xo1=x1 then(some true).map Sum.inl else F78_l1 x1 xs (o1_0+1))
def F78(x0:(List ByteArray))(x1:ByteArray):Option (Bool):=(((ck (0≤x0.length∧x0.length≤4294967290)).bind fun u4=>F78_l1 x1 x0 0:Option ((Bool) ⊕ (Unit))).bind fun o1=>match o1 with|Sum.inl f=>some f|Sum.inr po1=>some false)
def a78:AFn:=⟨18,[(.tmp 4)],
 (.seq (.reg [Qf 4 false])
 (.seq (.seq (.reg [Qe 5 0])
 (.sem (.block 0 (.loop (.seq (.seq (.reg [Qa 6 5,
Qa 7 0,
Qh 8 7,
Qn 9 6 8])
 (.cond (.t 9)
 .skip
 (.exit 0)))
 (.seq (.block 1 (.seq (.reg [Qa 12 0,
Qa 13 5,
Qp 14 1 12 13,
Qd 15 14,
Qa 16 1,
sq 17 (.bin .eql (.t 15) (.t 16))])
 (.cond (.t 17)
 (.seq (.reg [Qf 4 true])
 .ret)
 .skip)))
 (.reg [Qa 10 5,
Qm 11 10 1,
Qa 5 11])))))))
 (.seq (.reg [Qf 4 false])
 .ret)))⟩
theorem F78_ok{x0 x1 r}(h:F78 x0 x1=some r):CallD Try.prog 78 [.c (dM (x0.map eS)),.c (dS x1)] [] (tupV [.c (dB r)]) []:=by
 rw[F78]at h
 refine zc a78 (by kernel_rfl) rfl (ww ?_)
 obtain⟨o1,ho,h⟩:=bi h
 refine cutS (fun s=>∃po1,o1=Sum.inr po1∧s=⟨[],[]⟩) ?_ ?_
 ·have h0o1:=h
  have h:=ho
  clear ho
  obtain⟨_,hk,h⟩:=bi h
  have hk:=ck_some hk
  refine ww ?_
  refine bL (fun j s=>∃(o1_0:Nat),(o1_0≤x0.length∧j=x0.length-o1_0)∧s=⟨[(0,oc (dM (x0.map eS))),(1,oc (dS x1)),(5,oc (dI ((o1_0:Int))))],[]⟩∧F78_l1 x1 (x0.drop o1_0) o1_0=some o1) (x0.length-0) [] ⟨0,⟨hk.1,rfl⟩,rfl,h⟩ ?_
  rintro _ _ ⟨o1_0,⟨hi,rfl⟩,rfl,h⟩
  refine ww ?_
  refine condS (fun c2=>?_) (fun c2=>?_)
  ·obtain⟨xo1,hxo1,hd⟩:=countY (show(o1_0:Int)<(x0.length:Int)from c2)
   rw[hd,F78_l1]at h
   refine ww ?_
   refine t_idxF (enc:=eS) (xs:=x0) rfl rfl hxo1 rfl (ww ?_)
   refine condSh h (fun c3 h=>ww ?_) (fun c3 h=>ww ?_)
   ·obtain⟨fh0o1,hfh0o1,rfl⟩:=Option.map_eq_some_iff.1 h
    have h:=hfh0o1.trans h0o1
    cases h
    exact eF []
   rw[wrapN (by omega)]
   exact eL' (x0.length-(o1_0+1)) [] ⟨o1_0+1,⟨by omega,rfl⟩,rfl,h⟩ (by omega)
  rw[countN (show¬((o1_0:Int)<(x0.length:Int))from c2),F78_l1]at h
  refine ww ?_
  cases h
  exact eM [] ⟨_,rfl,rfl⟩
 rintro _ ⟨po1,rfl,rfl⟩
 clear ho
 dsimp only at h
 refine ww ?_
 cases h
 exact eF []
def F72(x0:Requirement)(x1:(List Label)):Option (Bool):=(F77 x1 x0.Key).bind fun t1=>(if x0.Op=1 then(((if t1.2=true then(F78 x0.Values t1.1).bind fun t5=>some t5 else some false)).bind fun o3=>some o3)else(if x0.Op=2 then(((if(nb t1.2)=true then some true else(F78 x0.Values t1.1).bind fun t9=>some (nb t9))).bind fun o7=>some o7)else(((if x0.Op=3 then(if t1.2=true then some true else(if x0.Op=4 then some (nb t1.2)else some false))else(if x0.Op=4 then some (nb t1.2)else some false))).bind fun o10=>some o10)))
def a72:AFn:=⟨51,[(.tmp 4)],
 (.seq (.reg [Qg 2 0,
Qf 4 false])
 (.seq (.reg [Qa 8 1,
Qb 9 0 2,
Qd 10 9,
Ql 11 77 8 10,
Qa 7 11,
Qo 12 7 0,
Qo 13 7 1,
Qa 5 12,
Qa 6 13])
 (.seq (.seq (.reg [Qb 14 1 2,
Qd 15 14,
Qr 16 15 1])
 (.cond (.t 16)
 (.seq (.sem (.reg [Qa 17 6,
Qa 18 17,
Qs 19 18 true 2 2,
Qt 20 18 true 19,
Qv 21 18 true 5,
zg 22 18 true (.call 78 [(.t 20),(.t 21)]),
Qi 23 18 22,
Qa 4 23]))
 .ret)
 .skip))
 (.seq (.seq (.reg [Qb 24 1 2,
Qd 25 24,
Qr 26 25 2])
 (.cond (.t 26)
 (.seq (.sem (.reg [Qa 27 6,
Qq 28 27,
Qa 29 28,
Qs 30 29 false 2 2,
Qt 31 29 false 30,
Qv 32 29 false 5,
zg 33 29 false (.call 78 [(.t 31),(.t 32)]),
zg 34 29 false (.not (.t 33)),
Qj 35 29 34,
Qa 4 35]))
 .ret)
 .skip))
 (.seq (.sem (.reg [Qb 36 1 2,
Qd 37 36,
Qr 38 37 3,
Qa 39 38,
Qv 40 39 true 6,
Qi 41 39 40,
Qa 42 41,
Qs 43 42 false 1 2,
Qt 44 42 false 43,
zg 45 42 false (.bin .eql (.t 44) (kI 4)),
Qv 46 42 false 45,
Qv 47 46 true 6,
zg 48 46 true (.not (.t 47)),
zg 49 42 false (.pick (.t 46) (.t 48) (kB false)),
Qj 50 42 49,
Qa 4 50]))
 .ret)))))⟩
theorem F72_ok{x0 x1 r}(h:F72 x0 x1=some r):CallD Try.prog 72 [.agg (bRequirement x0),.c (dM (x1.map eLabel))] [] (tupV [.c (dB r)]) []:=by
 rw[F72]at h
 refine zc a72 (by kernel_rfl) rfl (ww ?_)
 obtain⟨t1,ht1,h⟩:=bi h
 refine cN [] (F77_ok ht1) trivial (ww ?_)
 refine condSh h (fun c2 h=>ww ?_) (fun c2 h=>ww ?_)
 ·obtain⟨o3,ho,h⟩:=bi h
  refine cutS (fun s=>s=⟨[(4,oc (dB o3))],[]⟩) ?_ ?_
  ·have h:=ho
   clear ho
   refine ww ?_
   refine guardSBh h (fun g4 h=>ww ?_) (fun g4 h=>ww ?_)
   ·obtain⟨t5,ht5,h⟩:=bi h
    refine cN [] (F78_ok ht5) trivial (ww ?_)
    cases h
    exact eM [] rfl
   cases h
   exact eM [] rfl
  rintro _ rfl
  clear ho
  refine ww ?_
  cases h
  exact eF []
 refine condSh h (fun c6 h=>ww ?_) (fun c6 h=>ww ?_)
 ·obtain⟨o7,ho,h⟩:=bi h
  refine cutS (fun s=>s=⟨[(4,oc (dB o7))],[]⟩) ?_ ?_
  ·have h:=ho
   clear ho
   refine ww ?_
   refine guardSBh h (fun g8 h=>ww ?_) (fun g8 h=>ww ?_)
   ·cases h
    exact eM [] rfl
   obtain⟨t9,ht9,h⟩:=bi h
   refine cN [] (F78_ok ht9) trivial (ww ?_)
   cases h
   exact eM [] rfl
  rintro _ rfl
  clear ho
  refine ww ?_
  cases h
  exact eF []
 obtain⟨o10,ho,h⟩:=bi h
 refine cutS (fun s=>s=⟨[(4,oc (dB o10))],[]⟩) ?_ ?_
 ·have h:=ho
  clear ho
  refine ww ?_
  refine guardSh h (fun g11 h=>ww ?_) (fun g11 h=>ww ?_)
  ·refine guardSBh h (fun g12 h=>ww ?_) (fun g12 h=>ww ?_)
   ·cases h
    exact eM [] rfl
   refine guardSh h (fun g13 h=>ww ?_) (fun g13 h=>ww ?_)
   ·cases h
    exact eM [] rfl
   cases h
   exact eM [] rfl
  refine guardSh h (fun g14 h=>ww ?_) (fun g14 h=>ww ?_)
  ·cases h
   exact eM [] rfl
  cases h
  exact eM [] rfl
 rintro _ rfl
 clear ho
 refine ww ?_
 cases h
 exact eF []
def F65_l1(x1:(List Label)):List Requirement→Nat→Option ((Bool) ⊕ (Unit))
 |[],o1_0=>some (Sum.inr (()))
 |xo1::xs,o1_0=>(F72 xo1 x1).bind fun t3=>(if(nb t3)=true then(some false).map Sum.inl else F65_l1 x1 xs (o1_0+1))
def F65(x0:(List Requirement))(x1:(List Label)):Option (Bool):=(((ck (0≤x0.length∧x0.length≤4294967290)).bind fun u5=>F65_l1 x1 x0 0:Option ((Bool) ⊕ (Unit))).bind fun o1=>match o1 with|Sum.inl f=>some f|Sum.inr po1=>some true)
def a65:AFn:=⟨19,[(.tmp 4)],
 (.seq (.reg [Qf 4 false])
 (.seq (.seq (.reg [Qe 5 0])
 (.sem (.block 0 (.loop (.seq (.seq (.reg [Qa 6 5,
Qa 7 0,
Qh 8 7,
Qn 9 6 8])
 (.cond (.t 9)
 .skip
 (.exit 0)))
 (.seq (.block 1 (.seq (.reg [Qa 12 0,
Qa 13 5,
Qp 14 3 12 13,
Qc 15 3 14,
Qa 16 1,
Ql 17 72 15 16,
Qq 18 17])
 (.cond (.t 18)
 (.seq (.reg [Qf 4 false])
 .ret)
 .skip)))
 (.reg [Qa 10 5,
Qm 11 10 1,
Qa 5 11])))))))
 (.seq (.reg [Qf 4 true])
 .ret)))⟩
theorem F65_ok{x0 x1 r}(h:F65 x0 x1=some r):CallD Try.prog 65 [.c (dM (x0.map eRequirement)),.c (dM (x1.map eLabel))] [] (tupV [.c (dB r)]) []:=by
 rw[F65]at h
 refine zc a65 (by kernel_rfl) rfl (ww ?_)
 obtain⟨o1,ho,h⟩:=bi h
 refine cutS (fun s=>∃po1,o1=Sum.inr po1∧s=⟨[],[]⟩) ?_ ?_
 ·have h0o1:=h
  have h:=ho
  clear ho
  obtain⟨_,hk,h⟩:=bi h
  have hk:=ck_some hk
  refine ww ?_
  refine bL (fun j s=>∃(o1_0:Nat),(o1_0≤x0.length∧j=x0.length-o1_0)∧s=⟨[(0,oc (dM (x0.map eRequirement))),(1,oc (dM (x1.map eLabel))),(5,oc (dI ((o1_0:Int))))],[]⟩∧F65_l1 x1 (x0.drop o1_0) o1_0=some o1) (x0.length-0) [] ⟨0,⟨hk.1,rfl⟩,rfl,h⟩ ?_
  rintro _ _ ⟨o1_0,⟨hi,rfl⟩,rfl,h⟩
  refine ww ?_
  refine condS (fun c2=>?_) (fun c2=>?_)
  ·obtain⟨xo1,hxo1,hd⟩:=countY (show(o1_0:Int)<(x0.length:Int)from c2)
   rw[hd,F65_l1]at h
   refine ww ?_
   refine t_idxF (enc:=eRequirement) (xs:=x0) rfl rfl hxo1 rfl (ww ?_)
   obtain⟨t3,ht3,h⟩:=bi h
   refine cN [] (F72_ok ht3) trivial (ww ?_)
   refine condBh h (fun c4 h=>ww ?_) (fun c4 h=>ww ?_)
   ·obtain⟨fh0o1,hfh0o1,rfl⟩:=Option.map_eq_some_iff.1 h
    have h:=hfh0o1.trans h0o1
    cases h
    exact eF []
   rw[wrapN (by omega)]
   exact eL' (x0.length-(o1_0+1)) [] ⟨o1_0+1,⟨by omega,rfl⟩,rfl,h⟩ (by omega)
  rw[countN (show¬((o1_0:Int)<(x0.length:Int))from c2),F65_l1]at h
  refine ww ?_
  cases h
  exact eM [] ⟨_,rfl,rfl⟩
 rintro _ ⟨po1,rfl,rfl⟩
 clear ho
 dsimp only at h
 refine ww ?_
 cases h
 exact eF []
def F35(x0:Budget)(x1:Pod):Option (Bool):=(((if x0.Meta.Namespace=x1.Meta.Namespace then(F65 x0.Selector x1.Meta.Labels).bind fun t3=>some t3 else some false)).bind fun o1=>some o1)
def a35:AFn:=⟨20,[(.tmp 4)],
 (.seq (.reg [Qg 2 0,
Qg 3 1,
Qf 4 false])
 (.seq (.sem (.reg [Qb 5 0 2,
Qb 6 1 5,
Qd 7 6,
Qb 8 0 3,
Qb 9 1 8,
Qd 10 9,
sq 11 (.bin .eql (.t 7) (.t 10)),
Qa 12 11,
Qs 13 12 true 13 2,
Qt 14 12 true 13,
Qs 15 12 true 0 3,
Qs 16 12 true 9 15,
Qt 17 12 true 16,
zg 18 12 true (.call 65 [(.t 14),(.t 17)]),
Qi 19 12 18,
Qa 4 19]))
 .ret))⟩
theorem F35_ok{x0 x1 r}(h:F35 x0 x1=some r):CallD Try.prog 35 [.agg (bBudget x0),.agg (bPod x1)] [] (tupV [.c (dB r)]) []:=by
 rw[F35]at h
 refine zc a35 (by kernel_rfl) rfl (ww ?_)
 obtain⟨o1,ho,h⟩:=bi h
 refine cutS (fun s=>s=⟨[(4,oc (dB o1))],[]⟩) ?_ ?_
 ·have h:=ho
  clear ho
  refine ww ?_
  refine guardSh h (fun g2 h=>ww ?_) (fun g2 h=>ww ?_)
  ·obtain⟨t3,ht3,h⟩:=bi h
   refine cN [] (F65_ok ht3) trivial (ww ?_)
   cases h
   exact eM [] rfl
  cases h
  exact eM [] rfl
 rintro _ rfl
 clear ho
 refine ww ?_
 cases h
 exact eF []
def F47(x0:Pod):Option (Bool):=(((if x0.Status.Phase=0 then some (nb x0.Meta.Deleting)else(if x0.Status.Phase=1 then some (nb x0.Meta.Deleting)else some false))).bind fun o1=>some o1)
def a47:AFn:=⟨19,[(.tmp 2)],
 (.seq (.reg [Qg 1 0,
Qf 2 false])
 (.seq (.sem (.reg [Qb 3 23 1,
Qb 4 0 3,
Qd 5 4,
Qr 6 5 0,
Qa 7 6,
Qs 8 7 false 23 1,
Qs 9 7 false 0 8,
Qt 10 7 false 9,
zg 11 7 false (.bin .eql (.t 10) (kI 1)),
Qj 12 7 11,
Qa 13 12,
Qs 14 13 true 0 1,
Qs 15 13 true 7 14,
Qt 16 13 true 15,
zg 17 13 true (.not (.t 16)),
Qi 18 13 17,
Qa 2 18]))
 .ret))⟩
theorem F47_ok{x0 r}(h:F47 x0=some r):CallD Try.prog 47 [.agg (bPod x0)] [] (tupV [.c (dB r)]) []:=by
 rw[F47]at h
 refine zc a47 (by kernel_rfl) rfl (ww ?_)
 obtain⟨o1,ho,h⟩:=bi h
 refine cutS (fun s=>s=⟨[(2,oc (dB o1))],[]⟩) ?_ ?_
 ·have h:=ho
  clear ho
  refine ww ?_
  refine guardSh h (fun g2 h=>ww ?_) (fun g2 h=>ww ?_)
  ·cases h
   exact eM [] rfl
  refine guardSh h (fun g3 h=>ww ?_) (fun g3 h=>ww ?_)
  ·cases h
   exact eM [] rfl
  cases h
  exact eM [] rfl
 rintro _ rfl
 clear ho
 refine ww ?_
 cases h
 exact eF []
def F36(x0:Pod):Option (Bool):=(((F47 x0).bind fun t2=>(if t2=true then some x0.Status.Ready else some false)).bind fun o1=>some o1)
def a36:AFn:=⟨10,[(.tmp 2)],
 (.seq (.reg [Qg 1 0,
Qf 2 false])
 (.seq (.sem (.reg [Qc 3 32 1,
Qk 4 47 3,
Qa 5 4,
Qs 6 5 true 23 1,
Qs 7 5 true 1 6,
Qt 8 5 true 7,
Qi 9 5 8,
Qa 2 9]))
 .ret))⟩
theorem F36_ok{x0 r}(h:F36 x0=some r):CallD Try.prog 36 [.agg (bPod x0)] [] (tupV [.c (dB r)]) []:=by
 rw[F36]at h
 refine zc a36 (by kernel_rfl) rfl (ww ?_)
 obtain⟨o1,ho,h⟩:=bi h
 refine cutS (fun s=>s=⟨[(2,oc (dB o1))],[]⟩) ?_ ?_
 ·have h:=ho
  clear ho
  refine ww ?_
  obtain⟨t2,ht2,h⟩:=bi h
  refine cN [] (F47_ok ht2) trivial (ww ?_)
  refine guardSBh h (fun g3 h=>ww ?_) (fun g3 h=>ww ?_)
  ·cases h
   exact eM [] rfl
  cases h
  exact eM [] rfl
 rintro _ rfl
 clear ho
 refine ww ?_
 cases h
 exact eF []
def F37_l1(x1:ByteArray):List WorkItem→Nat→Option ((Bool) ⊕ (Unit))
 |[],o1_0=>some (Sum.inr (()))
 |xo1::xs,o1_0=>(if xo1.Key=x1 then(some true).map Sum.inl else F37_l1 x1 xs (o1_0+1))
def F37(x0:(List WorkItem))(x1:ByteArray):Option (Bool):=(((ck (0≤x0.length∧x0.length≤4294967290)).bind fun u4=>F37_l1 x1 x0 0:Option ((Bool) ⊕ (Unit))).bind fun o1=>match o1 with|Sum.inl f=>some f|Sum.inr po1=>some false)
def a37:AFn:=⟨19,[(.tmp 4)],
 (.seq (.reg [Qf 4 false])
 (.seq (.seq (.reg [Qe 5 0])
 (.sem (.block 0 (.loop (.seq (.seq (.reg [Qa 6 5,
Qa 7 0,
Qh 8 7,
Qn 9 6 8])
 (.cond (.t 9)
 .skip
 (.exit 0)))
 (.seq (.block 1 (.seq (.reg [Qa 12 0,
Qa 13 5,
Qp 14 2 12 13,
Qb 15 0 14,
Qd 16 15,
Qa 17 1,
sq 18 (.bin .eql (.t 16) (.t 17))])
 (.cond (.t 18)
 (.seq (.reg [Qf 4 true])
 .ret)
 .skip)))
 (.reg [Qa 10 5,
Qm 11 10 1,
Qa 5 11])))))))
 (.seq (.reg [Qf 4 false])
 .ret)))⟩
theorem F37_ok{x0 x1 r}(h:F37 x0 x1=some r):CallD Try.prog 37 [.c (dM (x0.map eWorkItem)),.c (dS x1)] [] (tupV [.c (dB r)]) []:=by
 rw[F37]at h
 refine zc a37 (by kernel_rfl) rfl (ww ?_)
 obtain⟨o1,ho,h⟩:=bi h
 refine cutS (fun s=>∃po1,o1=Sum.inr po1∧s=⟨[],[]⟩) ?_ ?_
 ·have h0o1:=h
  have h:=ho
  clear ho
  obtain⟨_,hk,h⟩:=bi h
  have hk:=ck_some hk
  refine ww ?_
  refine bL (fun j s=>∃(o1_0:Nat),(o1_0≤x0.length∧j=x0.length-o1_0)∧s=⟨[(0,oc (dM (x0.map eWorkItem))),(1,oc (dS x1)),(5,oc (dI ((o1_0:Int))))],[]⟩∧F37_l1 x1 (x0.drop o1_0) o1_0=some o1) (x0.length-0) [] ⟨0,⟨hk.1,rfl⟩,rfl,h⟩ ?_
  rintro _ _ ⟨o1_0,⟨hi,rfl⟩,rfl,h⟩
  refine ww ?_
  refine condS (fun c2=>?_) (fun c2=>?_)
  ·obtain⟨xo1,hxo1,hd⟩:=countY (show(o1_0:Int)<(x0.length:Int)from c2)
   rw[hd,F37_l1]at h
   refine ww ?_
   refine t_idxF (enc:=eWorkItem) (xs:=x0) rfl rfl hxo1 rfl (ww ?_)
   refine condSh h (fun c3 h=>ww ?_) (fun c3 h=>ww ?_)
   ·obtain⟨fh0o1,hfh0o1,rfl⟩:=Option.map_eq_some_iff.1 h
    have h:=hfh0o1.trans h0o1
    cases h
    exact eF []
   rw[wrapN (by omega)]
   exact eL' (x0.length-(o1_0+1)) [] ⟨o1_0+1,⟨by omega,rfl⟩,rfl,h⟩ (by omega)
  rw[countN (show¬((o1_0:Int)<(x0.length:Int))from c2),F37_l1]at h
  refine ww ?_
  cases h
  exact eM [] ⟨_,rfl,rfl⟩
 rintro _ ⟨po1,rfl,rfl⟩
 clear ho
 dsimp only at h
 refine ww ?_
 cases h
 exact eF []
end Go.Proofs.Ytedgocbpegllaaa
