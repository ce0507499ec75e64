/- Each Go function as a function over typed data, and its walk. -/
import Derived.Test.YtfkkccgopmcnaaaW0
namespace Go.Proofs.Ytfkkccgopmcnaaa
open Go Go.Fw Go.Shelf
set_option maxRecDepth 100000
set_option maxHeartbeats 4000000
set_option linter.unusedSimpArgs false
set_option linter.unusedVariables false
def F20_l2:List Requirement→Nat→Option ((Bool) ⊕ (Unit))
 |[],o2_0=>some (Sum.inr (()))
 |xo2::xs,o2_0=>(if 100<(xo2.Values.length:Int)then(some false).map Sum.inl else F20_l2 xs (o2_0+1))
def F20(x0:(List Requirement)):Option (Bool):=(if 40<(x0.length:Int)then some false else(((ck (0≤x0.length∧x0.length≤4294967290)).bind fun u5=>F20_l2 x0 0:Option ((Bool) ⊕ (Unit))).bind fun o2=>match o2 with|Sum.inl f=>some f|Sum.inr po2=>some true))
def a20:AFn:=⟨19,[(.tmp 2)],
 (.seq (.reg [sq 2 (.mv (kB false))])
 (.seq (.seq (.reg [sq 5 (.mv (.t 0)),
sq 6 (.len (.t 5)),
sq 7 (.bin .gtr (.t 6) (kI 40))])
 (.cond (.t 7)
 (.seq (.reg [sq 2 (.mv (kB false))])
 .ret)
 .skip))
 (.seq (.seq (.reg [sq 8 (.mv (.t 0)),
sq 9 (.len (.t 8)),
sq 10 (.mv (kI 0))])
 (.sem (.block 0 (.loop (.seq (.reg [sq 11 (.bin .lss (.t 10) (.t 9))])
 (.seq (.cond (.t 11)
 .skip
 (.exit 0))
 (.seq (.block 1 (.seq (.reg [sq 12 (.indexA 3 (.t 8) (.t 10)),
sq 13 (.load (some 3) (.t 12)),
sq 4 (.zbox [dS ⟨#[]⟩,dI 0,dN]),
su (.store 3 (.t 4) (.t 13))])
 (.seq (.reg [sq 14 (.fieldA 2 (.t 4)),
sq 15 (.load none (.t 14)),
sq 16 (.len (.t 15)),
sq 17 (.bin .gtr (.t 16) (kI 100))])
 (.cond (.t 17)
 (.seq (.reg [sq 2 (.mv (kB false))])
 .ret)
 .skip))))
 (.reg [sq 18 (.bin .add (.t 10) (kI 1)),
sq 10 (.mv (.t 18))]))))))))
 (.seq (.reg [sq 2 (.mv (kB true))])
 .ret))))⟩
theorem F20_ok{x0 r}(h:F20 x0=some r):CallD Try.prog 20 [.c (dM (x0.map eRequirement))] [] (tupV [.c (dB r)]) []:=by
 rw[F20]at h
 refine zc a20 (by kernel_rfl) rfl (ww ?_)
 refine condSh h (fun c1 h=>?_) (fun c1 h=>?_)
 ·refine ww ?_
  cases h
  exact eF []
 refine ww ?_
 obtain⟨o2,ho,h⟩:=bi h
 refine cutS (fun s=>∃po2,o2=Sum.inr po2∧s=⟨[],[]⟩) ?_ ?_
 ·have h0o2:=h
  have h:=ho
  clear ho
  obtain⟨_,hk,h⟩:=bi h
  have hk:=ck_some hk
  refine ww ?_
  refine bL (fun j s=>∃(o2_0:Nat),(o2_0≤x0.length∧j=x0.length-o2_0)∧s=⟨[(8,.one (.c (dM (x0.map eRequirement)))),(9,.one (.c (dI ((x0.length:Int))))),(10,.one (.c (dI ((o2_0:Int)))))],[]⟩∧F20_l2 (x0.drop o2_0) o2_0=some o2) (x0.length-0) [] ⟨0,⟨hk.1,rfl⟩,rfl,h⟩ ?_
  rintro _ _ ⟨o2_0,⟨hi,rfl⟩,rfl,h⟩
  refine ww ?_
  refine condS (fun c3=>?_) (fun c3=>?_)
  ·obtain⟨xo2,hxo2,hd⟩:=countY (show(o2_0:Int)<(x0.length:Int)from c3)
   rw[hd,F20_l2]at h
   refine ww ?_
   refine t_idxF (enc:=eRequirement) (xs:=x0) rfl rfl hxo2 rfl (ww ?_)
   refine condSh h (fun c4 h=>?_) (fun c4 h=>?_)
   ·refine ww ?_
    obtain⟨fh0o2,hfh0o2,rfl⟩:=Option.map_eq_some_iff.1 h
    have h:=hfh0o2.trans h0o2
    cases h
    exact eF []
   refine ww ?_
   rw[wrapN (by omega)]
   exact eL' (x0.length-(o2_0+1)) [] ⟨o2_0+1,⟨by omega,rfl⟩,rfl,h⟩ (by omega)
  rw[countN (show¬((o2_0:Int)<(x0.length:Int))from c3),F20_l2]at h
  refine ww ?_
  cases h
  exact eM [] ⟨_,rfl,rfl⟩
 rintro _ ⟨po2,rfl,rfl⟩
 clear ho
 dsimp only at h
 refine ww ?_
 cases h
 exact eF []
def F64(x0:Int):Option (Unit):=some (())
def a64:AFn:=⟨5,[(.cell 2 (some 5))],
 (.seq (.reg [zl 2 (.zbox [dI 0,dI 0,dS ⟨#[]⟩,dN,dN]) [] []])
 (.seq (.reg [sq 3 (.mv (.t 0)),
sq 4 (.build [dI 0,dI 0,dS ⟨#[]⟩,dN,dN] [(0,1,(kI 2)),(1,1,(.t 3))]),
su (.store 5 (.t 2) (.t 4))])
 .ret))⟩
theorem F64_ok{x0 r}(h:F64 x0=some r):CallD Try.prog 64 [.c (dI x0)] [] (tupV [.agg [dI 2,dI x0,dS ((⟨#[]⟩:ByteArray)),dM (([]:List TValue).map eTValue),dM (([]:List TField).map eTField)]]) []:=by
 rw[F64]at h
 refine zc a64 (by kernel_rfl) rfl (ww ?_)
 cases h
 exact eF []
def F89(x0:(List TValue)):Option (Unit):=some (())
def a89:AFn:=⟨5,[(.cell 2 (some 5))],
 (.seq (.reg [zl 2 (.zbox [dI 0,dI 0,dS ⟨#[]⟩,dN,dN]) [] []])
 (.seq (.reg [sq 3 (.mv (.t 0)),
sq 4 (.build [dI 0,dI 0,dS ⟨#[]⟩,dN,dN] [(0,1,(kI 4)),(3,1,(.t 3))]),
su (.store 5 (.t 2) (.t 4))])
 .ret))⟩
theorem F89_ok{x0 r}(h:F89 x0=some r):CallD Try.prog 89 [.c (dM (x0.map eTValue))] [] (tupV [.agg [dI 4,dI 0,dS ((⟨#[]⟩:ByteArray)),dM (x0.map eTValue),dM (([]:List TField).map eTField)]]) []:=by
 rw[F89]at h
 refine zc a89 (by kernel_rfl) rfl (ww ?_)
 cases h
 exact eF []
def F23(x0:ByteArray)(x1:ByteArray)(x2:Int):Option (Unit):=some (())
def a23:AFn:=⟨22,[(.cell 6 (some 32))],
 (.seq (.reg [zl 6 (.zbox [dS ⟨#[]⟩,dS ⟨#[]⟩,dS ⟨#[]⟩,dI 0,dI 0,dI 0,dI 0,dB false,dI 0,dN,dN,dN,dN,dS ⟨#[]⟩,dI 0,dI 0,dI 0,dN,dN,dN,dN,dN,dN,dI 0,dB false,dI 0,dI 0,dI 0,dN,dI 0,dS ⟨#[]⟩,dS ⟨#[]⟩]) [] []])
 (.seq (.reg [sq 8 (.mv (.t 0)),
sq 9 (.mv (.t 1)),
sq 10 (.build [dS ⟨#[]⟩,dS ⟨#[]⟩] [(0,1,(kS ⟨#[97,112,112]⟩)),(1,1,(.t 9))]),
sq 11 (.bslice 2 [(.t 10)]),
sq 12 (.build [dS ⟨#[]⟩,dS ⟨#[]⟩,dS ⟨#[]⟩,dI 0,dI 0,dI 0,dI 0,dB false,dI 0,dN,dN,dN,dN] [(0,1,(kS ⟨#[80,111,100]⟩)),(1,1,(kS ⟨#[110]⟩)),(2,1,(.t 8)),(9,1,(.t 11))]),
sq 13 (.build [dS ⟨#[]⟩,dS ⟨#[]⟩,dS ⟨#[]⟩,dI 0,dI 0,dI 0,dI 0,dB false,dI 0,dN,dN,dN,dN,dS ⟨#[]⟩,dI 0,dI 0,dI 0,dN,dN,dN,dN,dN,dN,dI 0,dB false,dI 0,dI 0,dI 0,dN,dI 0,dS ⟨#[]⟩,dS ⟨#[]⟩] [(0,13,(.t 12))]),
sq 7 (.zbox [dS ⟨#[]⟩,dS ⟨#[]⟩,dS ⟨#[]⟩,dI 0,dI 0,dI 0,dI 0,dB false,dI 0,dN,dN,dN,dN,dS ⟨#[]⟩,dI 0,dI 0,dI 0,dN,dN,dN,dN,dN,dN,dI 0,dB false,dI 0,dI 0,dI 0,dN,dI 0,dS ⟨#[]⟩,dS ⟨#[]⟩]),
su (.store 32 (.t 7) (.t 13))])
 (.seq (.reg [sq 14 (.fieldA 23 (.t 7)),
sq 15 (.fieldA 0 (.t 14)),
⟨none,none,.store 1 (.t 15) (kI 1),[],(.lone [7,14])⟩])
 (.seq (.reg [sq 16 (.fieldA 23 (.t 7)),
sq 17 (.fieldA 1 (.t 16)),
⟨none,none,.store 1 (.t 17) (kB true),[],(.lone [7,16])⟩])
 (.seq (.reg [sq 18 (.mv (.t 2)),
sq 19 (.fieldA 23 (.t 7)),
sq 20 (.fieldA 6 (.t 19)),
⟨none,none,.store 1 (.t 20) (.t 18),[],(.lone [7,19])⟩])
 (.seq (.reg [sq 21 (.load (some 32) (.t 7)),
⟨none,none,.store 32 (.t 6) (.t 21),[],(.lone [7])⟩])
 .ret))))))⟩
theorem F23_ok{x0 x1 x2 r}(h:F23 x0 x1 x2=some r):CallD Try.prog 23 [.c (dS x0),.c (dS x1),.c (dI x2)] [] (tupV [.agg [dS ((⟨#[80,111,100]⟩:ByteArray)),dS ((⟨#[110]⟩:ByteArray)),dS x0,dI 0,dI 0,dI 0,dI 0,dB false,dI 0,.own 0 0 0 (([(⟨(⟨#[97,112,112]⟩:ByteArray),x1⟩:Label)]).length) none,dM (([]:List Owner).map eOwner),dM (([]:List ByteArray).map eS),dM (([]:List Manager).map eManager),dS ((⟨#[]⟩:ByteArray)),dI 0,dI 0,dI 0,dM (([]:List Container).map eContainer),dM (([]:List Requirement).map eRequirement),dM (([]:List NodeTerm).map eNodeTerm),dM (([]:List PodTerm).map ePodTerm),dM (([]:List SpreadRule).map eSpreadRule),dM (([]:List Toleration).map eToleration),dI 1,dB true,dI 0,dI 0,dI 0,dM (([]:List ContainerStatus).map eContainerStatus),dI x2,dS ((⟨#[]⟩:ByteArray)),dS ((⟨#[]⟩:ByteArray))]]) [some (.arr 0 2 (([(⟨(⟨#[97,112,112]⟩:ByteArray),x1⟩:Label)]).map eLabel))]:=by
 rw[F23]at h
 refine zc a23 (by kernel_rfl) rfl (ww ?_)
 refine t_bslice (enc:=eLabel) (ys:=[(⟨(⟨#[97,112,112]⟩:ByteArray),x1⟩:Label)]) rfl rfl (by simp[A1.cells]) (by first|rfl|(simp only[List.drop_zero,take_mapL];rfl)|(simp only[lit,List.map_cons,List.map_nil,List.drop_zero,take_mapL,EE.down];done)|(simp only[lit,List.map_cons,List.map_nil,List.drop_zero,take_mapL,EE.down];rfl)) (ww ?_)
 cases h
 exact eF [some 1]
def F92_l1(x1:Int)(x2:Int)(x3:Int):Nat→(List Endpoint)→Int→Option ((List Endpoint))
 |0,_,_=>none
 |k+1,o1_0,o1_1=>(if o1_1<x3 then(rdI o1_0 ((IntKind.i64.wrap (x2+o1_1)))).bind fun y3=>(rdI o1_0 ((IntKind.i64.wrap (x1+o1_1)))).bind fun y4=>(rdI o1_0 ((IntKind.i64.wrap (x1+o1_1)))).bind fun y5=>(rdI ((o1_0.set ((IntKind.i64.wrap (x1+o1_1))).toNat y3)) ((IntKind.i64.wrap (x2+o1_1)))).bind fun y6=>F92_l1 x1 x2 x3 k ((((o1_0.set ((IntKind.i64.wrap (x1+o1_1))).toNat y3)).set ((IntKind.i64.wrap (x2+o1_1))).toNat y4)) ((IntKind.i64.wrap (o1_1+1)))else some o1_0)
def F92i(x0:(List Endpoint))(x1:Int)(x2:Int)(x3:Int):Option ((List Endpoint)):=((F92_l1 x1 x2 x3 1099511627776 x0 0).bind fun o1=>some o1)
def F92(x0:(List Endpoint))(x1:Int)(x2:Int)(x3:Int):Option ((List Endpoint)):=(F92i x0 x1 x2 x3).bind fun r=>if r.length=x0.length then some r else none
theorem F92_len0{x0:(List Endpoint)}{x1:Int}{x2:Int}{x3:Int}{r:(List Endpoint)}(h:F92 x0 x1 x2 x3=some r):r.length=x0.length:=(guard_some h).2
def a92:AFn:=⟨38,[],
 (.seq (.reg [sq 10 (.mv (kI 0))])
 (.sem (.block 0 (.loop (.seq (.seq (.reg [sq 11 (.mv (.t 10)),
sq 12 (.mv (.t 3)),
sq 13 (.bin .lss (.t 11) (.t 12))])
 (.cond (.t 13)
 .skip
 (.exit 0)))
 (.seq (.block 1 (.regd [sq 16 (.mv (.t 0)),
sq 17 (.mv (.t 1)),
sq 18 (.mv (.t 10)),
sd 19 (.bin .add (.t 17) (.t 18)) [1,2],
sq 20 (.mv (.t 0)),
sq 21 (.mv (.t 2)),
sq 22 (.mv (.t 10)),
sd 23 (.bin .add (.t 21) (.t 22)) [5,6],
sq 24 (.mv (.t 0)),
sq 25 (.mv (.t 2)),
sq 26 (.mv (.t 10)),
sd 27 (.bin .add (.t 25) (.t 26)) [9,10],
sd 28 (.indexA 5 (.t 24) (.t 27)) [8,9,10,11],
sd 29 (.load (some 5) (.t 28)) [8,9,10,11,12],
sq 30 (.mv (.t 0)),
sq 31 (.mv (.t 1)),
sq 32 (.mv (.t 10)),
sd 33 (.bin .add (.t 31) (.t 32)) [15,16],
sd 34 (.indexA 5 (.t 30) (.t 33)) [14,15,16,17],
sd 35 (.load (some 5) (.t 34)) [14,15,16,17,18],
sd 36 (.indexA 5 (.t 16) (.t 19)) [0,1,2,3,8,9,10,11,12,13,14,15,16,17,18,19],
⟨none,none,.store 5 (.t 36) (.t 29),[0,1,2,3,8,9,10,11,12,13,14,15,16,17,18,19,20],(.lone [])⟩,
sd 37 (.indexA 5 (.t 20) (.t 23)) [0,1,2,3,4,5,6,7,8,9,10,11,12,13,14,15,16,17,18,19,20,21],
⟨none,none,.store 5 (.t 37) (.t 35),[0,1,2,3,4,5,6,7,8,9,10,11,12,13,14,15,16,17,18,19,20,21,22],(.lone [])⟩]))
 (.reg [sq 14 (.mv (.t 10)),
sq 15 (.bin .add (.t 14) (kI 1)),
sq 10 (.mv (.t 15))])))))))⟩
theorem F92_ok{x0 x1 x2 x3 r}{e0:Nat}(h:F92 x0 x1 x2 x3=some r):CallD Try.prog 92 [.c (.own 0 e0 0 (x0.length) none),.c (dI x1),.c (dI x2),.c (dI x3),.c (.fn 28 [])] [some (.arr e0 5 (x0.map eEndpoint))] (tupV []) [some (.arr e0 5 (r.map eEndpoint))]:=by
 replace h:=(guard_some h).1
 rw[F92i]at h
 refine zc a92 (by kernel_rfl) rfl (ww ?_)
 obtain⟨o1,ho,h⟩:=bi h
 refine cutS (fun s=>s=⟨[],[some (.arr e0 5 (o1.map eEndpoint))]⟩) ?_ ?_
 ·have h:=ho
  clear ho
  refine ww ?_
  refine bL (fun j s=>∃(o1_0:List Endpoint) (o1_1:Int),s=⟨[(0,.one (.c (.own 0 e0 0 (o1_0.length) none))),(1,.one (.c (dI x1))),(2,.one (.c (dI x2))),(3,.one (.c (dI x3))),(10,.one (.c (dI o1_1)))],[some (.arr e0 5 (o1_0.map eEndpoint))]⟩∧F92_l1 x1 x2 x3 j o1_0 o1_1=some o1) 1099511627776 [some 0] ⟨x0,0,rfl,h⟩ ?_
  rintro j _ ⟨o1_0,o1_1,rfl,h⟩
  cases j with
  |zero=>cases(show(none:Option _)=some _ from h)
  |succ j=>
   rw[F92_l1]at h
   refine ww ?_
   refine condSh h (fun c2 h=>?_) (fun c2 h=>?_)
   ·refine ww ?_
    obtain⟨y3,hy3,h⟩:=bi h
    refine t_idxO (enc:=eEndpoint) (xs:=o1_0) rfl rfl rfl (by first|rfl|simp only[List.length_set]|exact(clrL_len (slI_len (by assumption))).symm) hy3 (ww ?_)
    refine LdRow.rd (rdI_some hy3).2.1 (ww ?_)
    obtain⟨y4,hy4,h⟩:=bi h
    refine t_idxO (enc:=eEndpoint) (xs:=o1_0) rfl rfl rfl (by first|rfl|simp only[List.length_set]|exact(clrL_len (slI_len (by assumption))).symm) hy4 (ww ?_)
    refine LdRow.rd (rdI_some hy4).2.1 (ww ?_)
    obtain⟨y5,hy5,h⟩:=bi h
    refine t_idxO (enc:=eEndpoint) (xs:=o1_0) rfl rfl rfl (by first|rfl|simp only[List.length_set]|exact(clrL_len (slI_len (by assumption))).symm) hy5 (ww ?_)
    refine StRow.rd (y':=y3) (rdI_some hy5).2.1 (by simp[EE.down]) (by first|rfl|(simp only[bor_full'];rfl)) (ww ?_)
    obtain⟨y6,hy6,h⟩:=bi h
    refine t_idxO (enc:=eEndpoint) (xs:=((o1_0.set ((IntKind.i64.wrap (x1+o1_1))).toNat y3))) rfl rfl rfl (by first|rfl|simp only[List.length_set]|exact(clrL_len (slI_len (by assumption))).symm) hy6 (ww ?_)
    refine StRow.rd (y':=y4) (rdI_some hy6).2.1 (by simp[EE.down]) (by first|rfl|(simp only[bor_full'];rfl)) (ww ?_)
    exact eL' j [some 0] ⟨(((o1_0.set ((IntKind.i64.wrap (x1+o1_1))).toNat y3)).set ((IntKind.i64.wrap (x2+o1_1))).toNat y4),(IntKind.i64.wrap (o1_1+1)),rfl,h⟩ (Nat.lt_succ_self _)
   ·refine ww ?_
    cases h
    exact eM [some 0] rfl
 rintro _ rfl
 clear ho
 refine ww ?_
 cases h
 exact eF [some 0]
def F33_l1:List Endpoint→Nat→(List (ByteArray×Endpoint))→Option ((List (ByteArray×Endpoint)))
 |[],o1_1,o1_0=>some o1_0
 |xo1::xs,o1_1,o1_0=>(((if(nb ((getM xo1.Pod o1_0).isSome))=true then some ((putM xo1.Pod xo1 o1_0))else some o1_0)).bind fun o3=>F33_l1 xs (o1_1+1) o3)
def F33(x0:EndpointSet):Option ((List (ByteArray×Endpoint))):=(((ck (0≤x0.Items.length∧x0.Items.length≤4294967290)).bind fun u5=>F33_l1 x0.Items 0 ([])).bind fun o1=>some o1)
def a33:AFn:=⟨31,[(.tmp 2)],
 (.seq (.reg [sq 1 (.box (.t 0)),
sq 2 (.mv (.k (.c (.d (.v (.map none))))))])
 (.seq (.reg [sq 8 (.mkmap),
sq 3 (.mv (.t 8))])
 (.seq (.seq (.reg [sq 9 (.fieldA 14 (.t 1)),
sq 10 (.load none (.t 9)),
sq 11 (.len (.t 10)),
sq 12 (.mv (kI 0))])
 (.sem (.block 0 (.loop (.seq (.reg [sq 13 (.bin .lss (.t 12) (.t 11))])
 (.seq (.cond (.t 13)
 .skip
 (.exit 0))
 (.seq (.sem (.block 1 (.seq (.reg [sq 14 (.indexA 5 (.t 10) (.t 12)),
sq 15 (.load (some 5) (.t 14)),
sq 5 (.zbox [dS ⟨#[]⟩,dS ⟨#[]⟩,dI 0,dB false,dB false]),
su (.store 5 (.t 5) (.t 15))])
 (.seq (.reg [sq 17 (.mv (.t 3)),
sq 18 (.fieldA 0 (.t 5)),
sq 19 (.load none (.t 18)),
sq 20 (.mget 1 true (.agg [dS ⟨#[]⟩,dS ⟨#[]⟩,dI 0,dB false,dB false]) (.t 17) (.t 19)),
sq 16 (.mv (.t 20)),
sq 21 (.ext (.t 16) 0),
sq 22 (.ext (.t 16) 1),
sq 6 (.zbox [dS ⟨#[]⟩,dS ⟨#[]⟩,dI 0,dB false,dB false]),
su (.store 5 (.t 6) (.t 21)),
sq 7 (.mv (.t 22))])
 (.seq (.reg [sq 23 (.mv (.t 7)),
sq 24 (.not (.t 23))])
 (.cond (.t 24)
 (.reg [sq 25 (.mv (.t 3)),
sq 26 (.fieldA 0 (.t 5)),
sq 27 (.load none (.t 26)),
sq 28 (.load (some 5) (.t 5)),
⟨none,none,.mset 1 (.t 25) (.t 27) (.t 28),[],(.lone [5,26,5])⟩])
 .skip))))))
 (.reg [sq 29 (.bin .add (.t 12) (kI 1)),
sq 12 (.mv (.t 29))]))))))))
 (.seq (.reg [sq 30 (.mv (.t 3)),
sq 2 (.mv (.t 30))])
 .ret))))⟩
theorem F33_ok{x0 r}(h:F33 x0=some r):CallD Try.prog 33 [.agg [dS x0.Meta.Kind,dS x0.Meta.Namespace,dS x0.Meta.Name,dI x0.Meta.Uid,dI x0.Meta.Version,dI x0.Meta.Generation,dI x0.Meta.Created,dB x0.Meta.Deleting,dI x0.Meta.DeleteAt,dM (x0.Meta.Labels.map eLabel),dM (x0.Meta.Owners.map eOwner),dM (x0.Meta.Finalizers.map eS),dM (x0.Meta.Managers.map eManager),dM (x0.Ports.map eServicePort),dM (x0.Items.map eEndpoint)]] [] (tupV [.c (.mref 0)]) [some (.map (eMs Value.string eEndpoint r))]:=by
 rw[F33]at h
 refine zc a33 (by kernel_rfl) rfl (ww ?_)
 refine t_mkmaps (κ:=ByteArray) (α:=Endpoint) (enc:=eEndpoint) Value.string (ww ?_)
 obtain⟨o1,ho,h⟩:=bi h
 refine cutS (fun s=>s=⟨[(3,.one (.c (.mref 0)))],[some (.map (eMs Value.string eEndpoint o1))]⟩) ?_ ?_
 ·have h:=ho
  clear ho
  obtain⟨_,hk,h⟩:=bi h
  have hk:=ck_some hk
  refine ww ?_
  refine bL (fun j s=>∃(o1_1:Nat) (o1_0:List (ByteArray×Endpoint)),(o1_1≤x0.Items.length∧j=x0.Items.length-o1_1)∧s=⟨[(3,.one (.c (.mref 0))),(10,.one (.c (dM (x0.Items.map eEndpoint)))),(11,.one (.c (dI ((x0.Items.length:Int))))),(12,.one (.c (dI ((o1_1:Int)))))],[some (.map (eMs Value.string eEndpoint o1_0))]⟩∧F33_l1 (x0.Items.drop o1_1) o1_1 o1_0=some o1) (x0.Items.length-0) [some 1] ⟨0,[],⟨hk.1,rfl⟩,rfl,h⟩ ?_
  rintro _ _ ⟨o1_1,o1_0,⟨hi,rfl⟩,rfl,h⟩
  refine ww ?_
  refine condS (fun c2=>?_) (fun c2=>?_)
  ·obtain⟨xo1,hxo1,hd⟩:=countY (show(o1_1:Int)<(x0.Items.length:Int)from c2)
   rw[hd,F33_l1]at h
   refine ww ?_
   obtain⟨o3,ho,h⟩:=bi h
   refine cutS (fun s=>s=⟨[(3,.one (.c (.mref 0))),(10,.one (.c (dM (x0.Items.map eEndpoint)))),(11,.one (.c (dI ((x0.Items.length:Int))))),(12,.one (.c (dI ((o1_1:Int)))))],[some (.map (eMs Value.string eEndpoint o3))]⟩) ?_ ?_
   ·have h:=ho
    clear ho
    refine ww ?_
    refine t_idxF (enc:=eEndpoint) (xs:=x0.Items) rfl rfl hxo1 rfl (ww ?_)
    refine t_mgetsk (enc:=eEndpoint) (l:=o1_0) (z:=(⟨(⟨#[]⟩:ByteArray),(⟨#[]⟩:ByteArray),0,false,false⟩:Endpoint)) kkS rfl rfl rfl rfl (ww ?_)
    refine condBh h (fun c4 h=>?_) (fun c4 h=>?_)
    ·refine ww ?_
     refine t_msets (enc:=eEndpoint) (l:=o1_0) (x:=xo1) kkS rfl rfl rfl rfl (ww ?_)
     cases h
     exact eM [some 0] rfl
    refine ww ?_
    cases h
    exact eM [some 0] rfl
   rintro _ rfl
   clear ho
   refine ww ?_
   rw[wrapN (by omega)]
   exact eL' (x0.Items.length-(o1_1+1)) [some 0] ⟨o1_1+1,o3,⟨by omega,rfl⟩,rfl,h⟩ (by omega)
  rw[countN (show¬((o1_1:Int)<(x0.Items.length:Int))from c2),F33_l1]at h
  refine ww ?_
  cases h
  exact eM [some 0] rfl
 rintro _ rfl
 clear ho
 refine ww ?_
 cases h
 exact eF [some 0]
def Try.laysSorted_ren:Go.Shelf.Ren:=⟨fun|6=>34|8=>46|9=>47|11=>58|13=>60|12=>59|23=>85|24=>86|14=>76|15=>77|16=>78|17=>79|18=>80|19=>81|20=>82|21=>83|22=>84|25=>93|26=>94|27=>95|28=>96|29=>97|30=>98|31=>99|n=>n,fun|26=>9|28=>86|24=>24|0=>0|3=>3|37=>117|48=>142|50=>144|4=>4|40=>134|39=>133|45=>139|5=>5|9=>9|51=>165|55=>169|57=>173|58=>174|33=>105|n=>n,fun|n=>n⟩
theorem Try.laysSorted:Go.Proofs.SlLaysZ.n6 Try.prog Try.laysSorted_ren:={
 mixed:=by kernel_rfl
 f6:=⟨Try.f34.name,by decide,Try.func34.trans (congrArg some (by kernel_rfl))⟩
 f8:=⟨Try.f46.name,by decide,Try.func46.trans (congrArg some (by kernel_rfl))⟩
 f11:=⟨Try.f58.name,by decide,Try.func58.trans (congrArg some (by kernel_rfl))⟩
 t0:=Try.underlying0
 a0:=Try.isAgg0
 z0:=Try.sizeOf0
 v0:=Try.zeroValue0
 t24:=Try.underlying24
 a24:=Try.isAgg24
 z24:=Try.sizeOf24
 v24:=Try.zeroValue24
 t26:=Try.underlying9
 a26:=Try.isAgg9
 z26:=Try.sizeOf9
 v26:=Try.zeroValue9
 t28:=Try.underlying86
 a28:=Try.isAgg86
 z28:=Try.sizeOf86
 v28:=Try.zeroValue86
 i26:=by kernel_rfl}
def F16_l2(x1:(List ByteArray)):List ByteArray→Nat→Option ((Bool) ⊕ (Unit))
 |[],o2_0=>some (Sum.inr (()))
 |xo2::xs,o2_0=>(rdI x1 ((o2_0:Int))).bind fun y4=>(if¬(xo2=y4)then(some false).map Sum.inl else F16_l2 x1 xs (o2_0+1))
def F16(x0:(List ByteArray))(x1:(List ByteArray)):Option (Bool):=(if¬((x0.length:Int)=(x1.length:Int))then some false else(((ck (0≤x0.length∧x0.length≤4294967290)).bind fun u6=>F16_l2 x1 x0 0:Option ((Bool) ⊕ (Unit))).bind fun o2=>match o2 with|Sum.inl f=>some f|Sum.inr po2=>some true))
def a16:AFn:=⟨26,[(.tmp 4)],
 (.seq (.reg [sq 4 (.mv (kB false))])
 (.seq (.seq (.reg [sq 6 (.mv (.t 0)),
sq 7 (.len (.t 6)),
sq 8 (.mv (.t 1)),
sq 9 (.len (.t 8)),
sq 10 (.bin .neq (.t 7) (.t 9))])
 (.cond (.t 10)
 (.seq (.reg [sq 4 (.mv (kB false))])
 .ret)
 .skip))
 (.seq (.seq (.reg [sq 5 (.mv (kI 0))])
 (.sem (.block 0 (.loop (.seq (.seq (.reg [sq 11 (.mv (.t 5)),
sq 12 (.mv (.t 0)),
sq 13 (.len (.t 12)),
sq 14 (.bin .lss (.t 11) (.t 13))])
 (.cond (.t 14)
 .skip
 (.exit 0)))
 (.seq (.block 1 (.seq (.regd [sq 17 (.mv (.t 0)),
sq 18 (.mv (.t 5)),
sd 19 (.indexA 1 (.t 17) (.t 18)) [0,1],
sd 20 (.load none (.t 19)) [0,1,2],
sq 21 (.mv (.t 1)),
sq 22 (.mv (.t 5)),
sd 23 (.indexA 1 (.t 21) (.t 22)) [4,5],
sd 24 (.load none (.t 23)) [4,5,6],
sd 25 (.bin .neq (.t 20) (.t 24)) [0,1,2,3,4,5,6,7]])
 (.cond (.t 25)
 (.seq (.reg [sq 4 (.mv (kB false))])
 .ret)
 .skip)))
 (.reg [sq 15 (.mv (.t 5)),
sq 16 (.bin .add (.t 15) (kI 1)),
sq 5 (.mv (.t 16))])))))))
 (.seq (.reg [sq 4 (.mv (kB true))])
 .ret))))⟩
theorem F16_ok{x0 x1 r}(h:F16 x0 x1=some r):CallD Try.prog 16 [.c (dM (x0.map eS)),.c (dM (x1.map eS))] [] (tupV [.c (dB r)]) []:=by
 rw[F16]at h
 refine zc a16 (by kernel_rfl) rfl (ww ?_)
 refine condSh h (fun c1 h=>?_) (fun c1 h=>?_)
 ·refine ww ?_
  cases h
  exact eF []
 refine ww ?_
 obtain⟨o2,ho,h⟩:=bi h
 refine cutS (fun s=>∃po2,o2=Sum.inr po2∧s=⟨[],[]⟩) ?_ ?_
 ·have h0o2:=h
  have h:=ho
  clear ho
  obtain⟨_,hk,h⟩:=bi h
  have hk:=ck_some hk
  refine ww ?_
  refine bL (fun j s=>∃(o2_0:Nat),(o2_0≤x0.length∧j=x0.length-o2_0)∧s=⟨[(0,.one (.c (dM (x0.map eS)))),(1,.one (.c (dM (x1.map eS)))),(5,.one (.c (dI ((o2_0:Int)))))],[]⟩∧F16_l2 x1 (x0.drop o2_0) o2_0=some o2) (x0.length-0) [] ⟨0,⟨hk.1,rfl⟩,rfl,h⟩ ?_
  rintro _ _ ⟨o2_0,⟨hi,rfl⟩,rfl,h⟩
  refine ww ?_
  refine condS (fun c3=>?_) (fun c3=>?_)
  ·obtain⟨xo2,hxo2,hd⟩:=countY (show(o2_0:Int)<(x0.length:Int)from c3)
   rw[hd,F16_l2]at h
   refine ww ?_
   refine t_idxF (enc:=eS) (xs:=x0) rfl rfl hxo2 rfl (ww ?_)
   obtain⟨y4,hy4,h⟩:=bi h
   refine t_idxF (enc:=eS) (xs:=x1) rfl rfl hy4 rfl (ww ?_)
   refine condSh h (fun c5 h=>?_) (fun c5 h=>?_)
   ·refine ww ?_
    obtain⟨fh0o2,hfh0o2,rfl⟩:=Option.map_eq_some_iff.1 h
    have h:=hfh0o2.trans h0o2
    cases h
    exact eF []
   refine ww ?_
   rw[wrapN (by omega)]
   exact eL' (x0.length-(o2_0+1)) [] ⟨o2_0+1,⟨by omega,rfl⟩,rfl,h⟩ (by omega)
  rw[countN (show¬((o2_0:Int)<(x0.length:Int))from c3),F16_l2]at h
  refine ww ?_
  cases h
  exact eM [] ⟨_,rfl,rfl⟩
 rintro _ ⟨po2,rfl,rfl⟩
 clear ho
 dsimp only at h
 refine ww ?_
 cases h
 exact eF []
def F50_l1(x1:ByteArray):List ByteArray→Nat→Option ((Bool) ⊕ (Unit))
 |[],o1_0=>some (Sum.inr (()))
 |xo1::xs,o1_0=>(if xo1=x1 then(some true).map Sum.inl else F50_l1 x1 xs (o1_0+1))
def F50(x0:(List ByteArray))(x1:ByteArray):Option (Bool):=(((ck (0≤x0.length∧x0.length≤4294967290)).bind fun u4=>F50_l1 x1 x0 0:Option ((Bool) ⊕ (Unit))).bind fun o1=>match o1 with|Sum.inl f=>some f|Sum.inr po1=>some false)
def a50:AFn:=⟨18,[(.tmp 4)],
 (.seq (.reg [sq 4 (.mv (kB false))])
 (.seq (.seq (.reg [sq 5 (.mv (kI 0))])
 (.sem (.block 0 (.loop (.seq (.seq (.reg [sq 6 (.mv (.t 5)),
sq 7 (.mv (.t 0)),
sq 8 (.len (.t 7)),
sq 9 (.bin .lss (.t 6) (.t 8))])
 (.cond (.t 9)
 .skip
 (.exit 0)))
 (.seq (.block 1 (.seq (.reg [sq 12 (.mv (.t 0)),
sq 13 (.mv (.t 5)),
sq 14 (.indexA 1 (.t 12) (.t 13)),
sq 15 (.load none (.t 14)),
sq 16 (.mv (.t 1)),
sq 17 (.bin .eql (.t 15) (.t 16))])
 (.cond (.t 17)
 (.seq (.reg [sq 4 (.mv (kB true))])
 .ret)
 .skip)))
 (.reg [sq 10 (.mv (.t 5)),
sq 11 (.bin .add (.t 10) (kI 1)),
sq 5 (.mv (.t 11))])))))))
 (.seq (.reg [sq 4 (.mv (kB false))])
 .ret)))⟩
theorem F50_ok{x0 x1 r}(h:F50 x0 x1=some r):CallD Try.prog 50 [.c (dM (x0.map eS)),.c (dS x1)] [] (tupV [.c (dB r)]) []:=by
 rw[F50]at h
 refine zc a50 (by kernel_rfl) rfl (ww ?_)
 obtain⟨o1,ho,h⟩:=bi h
 refine cutS (fun s=>∃po1,o1=Sum.inr po1∧s=⟨[],[]⟩) ?_ ?_
 ·have h0o1:=h
  have h:=ho
  clear ho
  obtain⟨_,hk,h⟩:=bi h
  have hk:=ck_some hk
  refine ww ?_
  refine bL (fun j s=>∃(o1_0:Nat),(o1_0≤x0.length∧j=x0.length-o1_0)∧s=⟨[(0,.one (.c (dM (x0.map eS)))),(1,.one (.c (dS x1))),(5,.one (.c (dI ((o1_0:Int)))))],[]⟩∧F50_l1 x1 (x0.drop o1_0) o1_0=some o1) (x0.length-0) [] ⟨0,⟨hk.1,rfl⟩,rfl,h⟩ ?_
  rintro _ _ ⟨o1_0,⟨hi,rfl⟩,rfl,h⟩
  refine ww ?_
  refine condS (fun c2=>?_) (fun c2=>?_)
  ·obtain⟨xo1,hxo1,hd⟩:=countY (show(o1_0:Int)<(x0.length:Int)from c2)
   rw[hd,F50_l1]at h
   refine ww ?_
   refine t_idxF (enc:=eS) (xs:=x0) rfl rfl hxo1 rfl (ww ?_)
   refine condSh h (fun c3 h=>?_) (fun c3 h=>?_)
   ·refine ww ?_
    obtain⟨fh0o1,hfh0o1,rfl⟩:=Option.map_eq_some_iff.1 h
    have h:=hfh0o1.trans h0o1
    cases h
    exact eF []
   refine ww ?_
   rw[wrapN (by omega)]
   exact eL' (x0.length-(o1_0+1)) [] ⟨o1_0+1,⟨by omega,rfl⟩,rfl,h⟩ (by omega)
  rw[countN (show¬((o1_0:Int)<(x0.length:Int))from c2),F50_l1]at h
  refine ww ?_
  cases h
  exact eM [] ⟨_,rfl,rfl⟩
 rintro _ ⟨po1,rfl,rfl⟩
 clear ho
 dsimp only at h
 refine ww ?_
 cases h
 exact eF []
end Go.Proofs.Ytfkkccgopmcnaaa
