/- Each Go function as a function over typed data, and its walk. -/
import Derived.Test.YtondgcmdhkhkkaaGreatAX
import Derived.Test.YtondgcmdhkhkkaaGreatAX2
import Derived.Test.YtondgcmdhkhkkaaGreatAX4
import Derived.Test.YtondgcmdhkhkkaaGreatAX5
import Derived.Test.YtondgcmdhkhkkaaGreatAX12
import Derived.Test.YtondgcmdhkhkkaaGreatAX13
namespace Go.Proofs.YtondgcmdhkhkkaaGreat
open Go Go.Fw Go.Shelf
set_option maxRecDepth 100000
set_option maxHeartbeats 4000000
set_option linter.unusedSimpArgs false
set_option linter.unusedVariables false
def F42_l1(x1:(List Label)):List Requirement→Nat→Option ((Bool) ⊕ (Unit))
 |[],o1_0=>some (Sum.inr (()))
 |xo1::xs,o1_0=>(F78 xo1 x1).bind fun t3=>(if(nb t3)=true then(some false).map Sum.inl else F42_l1 x1 xs (o1_0+1))
def F42(x0:(List Requirement))(x1:(List Label)):Option (Bool):=(((ck (0≤x0.length∧x0.length≤4294967290)).bind fun u5=>F42_l1 x1 x0 0:Option ((Bool) ⊕ (Unit))).bind fun o1=>match o1 with|Sum.inl f=>some f|Sum.inr po1=>some true)
def a42:AFn:=⟨18,[(.tmp 4)],
 (.seq (.reg [sq 4 (.mv (kB false))])
 (.seq (.seq (.reg [sq 7 (.mv (.t 0)),
sq 8 (.len (.t 7)),
sq 9 (.mv (kI 0))])
 (.sem (.block 0 (.loop (.seq (.reg [sq 10 (.bin .lss (.t 9) (.t 8))])
 (.seq (.cond (.t 10)
 .skip
 (.exit 0))
 (.seq (.block 1 (.seq (.reg [sq 11 (.indexA 3 (.t 7) (.t 9)),
sq 12 (.load (some 3) (.t 11)),
sq 6 (.zbox [dS ⟨#[]⟩,dI 0,dN]),
su (.store 3 (.t 6) (.t 12))])
 (.seq (.reg [sq 13 (.load (some 3) (.t 6)),
sq 14 (.mv (.t 1)),
sq 15 (.call 78 [(.t 13),(.t 14)]),
sq 16 (.not (.t 15))])
 (.cond (.t 16)
 (.seq (.reg [sq 4 (.mv (kB false))])
 .ret)
 .skip))))
 (.reg [sq 17 (.bin .add (.t 9) (kI 1)),
sq 9 (.mv (.t 17))]))))))))
 (.seq (.reg [sq 4 (.mv (kB true))])
 .ret)))⟩
theorem a42_ok:afn Tryz.prog 42=some a42.er:=by kernel_rfl
theorem F42_ok{x0 x1 r}(h:F42 x0 x1=some r):CallD Tryz.prog 42 [.c (dM (x0.map eRequirement)),.c (dM (x1.map eLabel))] [] (tupV [.c (dB r)]) []:=by
 refine callS a42_ok (by simp[a42]) ?_
 rw[F42]at h
 simp only[a42,VW.down,Nat.reduceEqDiff,reduceCtorEq,Nat.reduceAdd,Nat.reduceLeDiff,Nat.reduceLT,Nat.reduceBEq,Nat.reduceSub,EE.down]
 obtain⟨o1,ho,h⟩:=bi h
 refine cutS (fun s=>∃po1,o1=Sum.inr po1∧s=⟨[],[]⟩) ?_ ?_
 ·have h0o1:=h
  have h:=ho
  clear ho
  obtain⟨_,hk,h⟩:=bi h
  have hk:=ck_some hk
  refine ww ?_
  refine bL (fun j s=>∃(o1_0:Nat),(o1_0≤x0.length∧j=x0.length-o1_0)∧s=⟨[(1,.one (.c (dM (x1.map eLabel)))),(7,.one (.c (dM (x0.map eRequirement)))),(8,.one (.c (dI ((x0.length:Int))))),(9,.one (.c (dI ((o1_0:Int)))))],[]⟩∧F42_l1 x1 (x0.drop o1_0) o1_0=some o1) (x0.length-0) [] ⟨0,⟨hk.1,rfl⟩,rfl,h⟩ ?_
  rintro _ _ ⟨o1_0,⟨hi,rfl⟩,rfl,h⟩
  refine ww ?_
  refine condS (fun c2=>?_) (fun c2=>?_)
  ·obtain⟨xo1,hxo1,hd⟩:=countY (show(o1_0:Int)<(x0.length:Int)from c2)
   rw[hd,F42_l1]at h
   refine ww ?_
   refine t_idxF (enc:=eRequirement) (xs:=x0) rfl rfl hxo1 rfl (ww ?_)
   obtain⟨t3,ht3,h⟩:=bi h
   refine cN [] (F78_ok ht3) trivial (ww ?_)
   refine condBh h (fun c4 h=>?_) (fun c4 h=>?_)
   ·refine ww ?_
    obtain⟨fh0o1,hfh0o1,rfl⟩:=Option.map_eq_some_iff.1 h
    have h:=hfh0o1.trans h0o1
    cases h
    exact eF []
   refine ww ?_
   rw[wrapN (by omega)]
   exact eL' (x0.length-(o1_0+1)) [] ⟨o1_0+1,⟨by omega,rfl⟩,rfl,h⟩ (by omega)
  rw[countN (show¬((o1_0:Int)<(x0.length:Int))from c2),F42_l1]at h
  refine ww ?_
  cases h
  exact eM [] ⟨_,rfl,rfl⟩
 rintro _ ⟨po1,rfl,rfl⟩
 clear ho
 dsimp only at h
 refine ww ?_
 cases h
 exact eF []
def F16(x0:Filter)(x1:Object):Option (Bool):=(((if x0.Kind=(⟨#[]⟩:ByteArray)then(if x0.Namespace=(⟨#[]⟩:ByteArray)then(F42 x0.Selector x1.Meta.Labels).bind fun t4=>some t4 else(if x0.Namespace=x1.Meta.Namespace then(F42 x0.Selector x1.Meta.Labels).bind fun t6=>some t6 else some false))else(if x0.Kind=x1.Meta.Kind then(if x0.Namespace=(⟨#[]⟩:ByteArray)then(F42 x0.Selector x1.Meta.Labels).bind fun t9=>some t9 else(if x0.Namespace=x1.Meta.Namespace then(F42 x0.Selector x1.Meta.Labels).bind fun t11=>some t11 else some false))else some false))).bind fun o1=>some o1)
def a16:AFn:=⟨37,[(.tmp 4)],
 (.seq (.reg [sq 2 (.box (.t 0)),
sq 3 (.box (.t 1)),
sq 4 (.mv (kB false))])
 (.seq (.sem (.reg [sq 5 (.fieldA 0 (.t 2)),
sq 6 (.load none (.t 5)),
sq 7 (.bin .eql (.t 6) (kS ⟨#[]⟩)),
sq 8 (.mv (.t 7)),
zg 9 8 false (.fieldA 0 (.t 2)),
zg 10 8 false (.load none (.t 9)),
zg 11 8 false (.fieldA 0 (.t 3)),
zg 12 8 false (.fieldA 0 (.t 11)),
zg 13 8 false (.load none (.t 12)),
zg 14 8 false (.bin .eql (.t 10) (.t 13)),
sq 15 (.pick (.t 8) (kB true) (.t 14)),
sq 16 (.mv (.t 15)),
zg 17 16 true (.fieldA 1 (.t 2)),
zg 18 16 true (.load none (.t 17)),
zg 19 16 true (.bin .eql (.t 18) (kS ⟨#[]⟩)),
zg 20 16 true (.mv (.t 19)),
zg 21 20 false (.fieldA 1 (.t 2)),
zg 22 20 false (.load none (.t 21)),
zg 23 20 false (.fieldA 0 (.t 3)),
zg 24 20 false (.fieldA 1 (.t 23)),
zg 25 20 false (.load none (.t 24)),
zg 26 20 false (.bin .eql (.t 22) (.t 25)),
zg 27 16 true (.pick (.t 20) (kB true) (.t 26)),
sq 28 (.pick (.t 16) (.t 27) (kB false)),
sq 29 (.mv (.t 28)),
zg 30 29 true (.fieldA 2 (.t 2)),
zg 31 29 true (.load none (.t 30)),
zg 32 29 true (.fieldA 0 (.t 3)),
zg 33 29 true (.fieldA 9 (.t 32)),
zg 34 29 true (.load none (.t 33)),
zg 35 29 true (.call 42 [(.t 31),(.t 34)]),
sq 36 (.pick (.t 29) (.t 35) (kB false)),
sq 4 (.mv (.t 36))]))
 .ret))⟩
theorem a16_ok:afn Tryz.prog 16=some a16.er:=by kernel_rfl
theorem F16_ok{x0 x1 r}(h:F16 x0 x1=some r):CallD Tryz.prog 16 [.agg [dS x0.Kind,dS x0.Namespace,dM (x0.Selector.map eRequirement)],.agg [dS x1.Meta.Kind,dS x1.Meta.Namespace,dS x1.Meta.Name,dI x1.Meta.Uid,dI x1.Meta.Version,dI x1.Meta.Generation,dI x1.Meta.Created,dB x1.Meta.Deleting,dI x1.Meta.DeleteAt,dM (x1.Meta.Labels.map eLabel),dM (x1.Meta.Owners.map eOwner),dM (x1.Meta.Finalizers.map eS),dM (x1.Meta.Managers.map eManager),dI x1.Spec.Kind,dI x1.Spec.N,dS x1.Spec.S,dM (x1.Spec.List_.map eTValue),dM (x1.Spec.Fields.map eTField),dI x1.Status.Kind,dI x1.Status.N,dS x1.Status.S,dM (x1.Status.List_.map eTValue),dM (x1.Status.Fields.map eTField)]] [] (tupV [.c (dB r)]) []:=by
 refine callS a16_ok (by simp[a16]) ?_
 rw[F16]at h
 simp only[a16,VW.down,Nat.reduceEqDiff,reduceCtorEq,Nat.reduceAdd,Nat.reduceLeDiff,Nat.reduceLT,Nat.reduceBEq,Nat.reduceSub,EE.down]
 obtain⟨o1,ho,h⟩:=bi h
 refine cutS (fun s=>s=⟨[(4,.one (.c (dB o1)))],[]⟩) ?_ ?_
 ·have h:=ho
  clear ho
  refine ww ?_
  refine guardSh h (fun g2 h=>?_) (fun g2 h=>?_)
  ·refine ww ?_
   refine guardSh h (fun g3 h=>?_) (fun g3 h=>?_)
   ·refine ww ?_
    obtain⟨t4,ht4,h⟩:=bi h
    refine cN [] (F42_ok ht4) trivial (ww ?_)
    cases h
    exact eM [] rfl
   refine ww ?_
   refine guardSh h (fun g5 h=>?_) (fun g5 h=>?_)
   ·refine ww ?_
    obtain⟨t6,ht6,h⟩:=bi h
    refine cN [] (F42_ok ht6) trivial (ww ?_)
    cases h
    exact eM [] rfl
   refine ww ?_
   cases h
   exact eM [] rfl
  refine ww ?_
  refine guardSh h (fun g7 h=>?_) (fun g7 h=>?_)
  ·refine ww ?_
   refine guardSh h (fun g8 h=>?_) (fun g8 h=>?_)
   ·refine ww ?_
    obtain⟨t9,ht9,h⟩:=bi h
    refine cN [] (F42_ok ht9) trivial (ww ?_)
    cases h
    exact eM [] rfl
   refine ww ?_
   refine guardSh h (fun g10 h=>?_) (fun g10 h=>?_)
   ·refine ww ?_
    obtain⟨t11,ht11,h⟩:=bi h
    refine cN [] (F42_ok ht11) trivial (ww ?_)
    cases h
    exact eM [] rfl
   refine ww ?_
   cases h
   exact eM [] rfl
  refine ww ?_
  cases h
  exact eM [] rfl
 rintro _ rfl
 clear ho
 refine ww ?_
 cases h
 exact eF []
def F38_l5:List Manager→Nat→(List Manager)→Option ((List Manager))
 |[],o5_1,o5_0=>some o5_0
 |xo5::xs,o5_1,o5_0=>(rdI o5_0 ((o5_1:Int))).bind fun y7=>(cloneI y7.Fields).bind fun t8=>(rdI o5_0 ((o5_1:Int))).bind fun y9=>F38_l5 xs (o5_1+1) ((o5_0.set ((o5_1:Int)).toNat ((⟨y9.Name,t8⟩:Manager))))
def F38(x0:Object):Option ((List Label)×(List Owner)×(List ByteArray)×(List Manager)×Int×Int×ByteArray×((List TValue))×((List TField))×Int×Int×ByteArray×((List TValue))×((List TField))):=(cloneI x0.Meta.Labels).bind fun t1=>(cloneI x0.Meta.Owners).bind fun t2=>(cloneI x0.Meta.Finalizers).bind fun t3=>(cloneI x0.Meta.Managers).bind fun t4=>(((ck (0≤t4.length∧t4.length≤4294967290)).bind fun u10=>F38_l5 t4 0 t4).bind fun o5=>(F74 ([x0.Spec,x0.Status])).bind fun t11=>(rdI t11.1 0).bind fun y12=>(rdI t11.1 1).bind fun y13=>some ((t1,t2,t3,o5,y12.Kind,y12.N,y12.S,y12.List_,y12.Fields,y13.Kind,y13.N,y13.S,y13.List_,y13.Fields)))
def a38:AFn:=⟨65,[(.cell 2 (some 23))],
 (.seq (.reg [sq 1 (.box (.t 0)),
sq 2 (.zbox [dS ⟨#[]⟩,dS ⟨#[]⟩,dS ⟨#[]⟩,dI 0,dI 0,dI 0,dI 0,dB false,dI 0,dN,dN,dN,dN,dI 0,dI 0,dS ⟨#[]⟩,dN,dN,dI 0,dI 0,dS ⟨#[]⟩,dN,dN])])
 (.seq (.reg [sq 6 (.fieldA 0 (.t 1)),
sq 7 (.fieldA 9 (.t 6)),
sq 8 (.load none (.t 7)),
sq 9 (.call 71 [(.t 8)]),
sq 10 (.fieldA 0 (.t 1)),
sq 11 (.fieldA 9 (.t 10)),
su (.store 1 (.t 11) (.t 9))])
 (.seq (.reg [sq 12 (.fieldA 0 (.t 1)),
sq 13 (.fieldA 10 (.t 12)),
sq 14 (.load none (.t 13)),
sq 15 (.call 72 [(.t 14)]),
sq 16 (.fieldA 0 (.t 1)),
sq 17 (.fieldA 10 (.t 16)),
su (.store 1 (.t 17) (.t 15))])
 (.seq (.reg [sq 18 (.fieldA 0 (.t 1)),
sq 19 (.fieldA 11 (.t 18)),
sq 20 (.load none (.t 19)),
sq 21 (.call 69 [(.t 20)]),
sq 22 (.fieldA 0 (.t 1)),
sq 23 (.fieldA 11 (.t 22)),
su (.store 1 (.t 23) (.t 21))])
 (.seq (.reg [sq 24 (.fieldA 0 (.t 1)),
sq 25 (.fieldA 12 (.t 24)),
sq 26 (.load none (.t 25)),
sq 27 (.call 73 [(.t 26)]),
sq 28 (.fieldA 0 (.t 1)),
sq 29 (.fieldA 12 (.t 28)),
su (.store 1 (.t 29) (.t 27))])
 (.seq (.seq (.reg [sq 30 (.fieldA 0 (.t 1)),
sq 31 (.fieldA 12 (.t 30)),
sq 32 (.load none (.t 31)),
sq 33 (.len (.t 32)),
sq 34 (.mv (kI 0))])
 (.sem (.block 0 (.loop (.seq (.reg [sq 35 (.bin .lss (.t 34) (.t 33))])
 (.seq (.cond (.t 35)
 .skip
 (.exit 0))
 (.seq (.block 1 (.seq (.reg [sq 36 (.mv (.t 34)),
sq 37 (.indexA 2 (.t 32) (.t 34)),
sq 38 (.load (some 2) (.t 37)),
sq 4 (.zbox [dS ⟨#[]⟩,dN]),
sq 3 (.mv (.t 36)),
su (.store 2 (.t 4) (.t 38))])
 (.regd [sq 39 (.fieldA 0 (.t 1)),
sd 40 (.fieldA 12 (.t 39)) [0],
sd 41 (.load none (.t 40)) [0,1],
sq 42 (.mv (.t 3)),
sq 43 (.fieldA 1 (.t 4)),
sd 44 (.load none (.t 43)) [4],
zl 45 (.call 69 [(.t 44)]) [4,5] [1,39,40],
sd 46 (.indexA 2 (.t 41) (.t 42)) [0,1,2,3,4,5,6],
sd 47 (.fieldA 1 (.t 46)) [0,1,2,3,4,5,6,7],
⟨none,none,.store 1 (.t 47) (.t 45),[0,1,2,3,4,5,6,7,8],(.lone [])⟩])))
 (.reg [sq 48 (.bin .add (.t 34) (kI 1)),
sq 34 (.mv (.t 48))]))))))))
 (.seq (.reg [sq 49 (.fieldA 13 (.t 1)),
sq 50 (.load (some 5) (.t 49)),
sq 51 (.fieldA 18 (.t 1)),
sq 52 (.load (some 5) (.t 51)),
sq 53 (.bslice 5 [(.t 50),(.t 52)]),
sq 54 (.call 74 [(.t 53)]),
sq 55 (.field 3 none (.t 54)),
sq 5 (.mv (.t 55))])
 (.seq (.regd [sq 56 (.mv (.t 5)),
sd 57 (.indexA 5 (.t 56) (kI 0)) [0],
sd 58 (.load (some 5) (.t 57)) [0,1],
sq 59 (.mv (.t 5)),
sd 60 (.indexA 5 (.t 59) (kI 1)) [3],
sd 61 (.load (some 5) (.t 60)) [3,4],
sd 62 (.fieldA 13 (.t 1)) [0,1,2],
⟨none,none,.store 5 (.t 62) (.t 58),[0,1,2,6],(.lone [59,60])⟩,
sd 63 (.fieldA 18 (.t 1)) [0,1,2,3,4,5,6,7],
⟨none,none,.store 5 (.t 63) (.t 61),[0,1,2,3,4,5,6,7,8],(.lone [])⟩])
 (.seq (.reg [sq 64 (.load (some 23) (.t 1)),
⟨none,none,.store 23 (.t 2) (.t 64),[],(.lone [1])⟩])
 .ret)))))))))⟩
theorem a38_ok:afn Tryz.prog 38=some a38.er:=by kernel_rfl
theorem F38_ok{x0 r}(h:F38 x0=some r):CallD Tryz.prog 38 [.agg [dS x0.Meta.Kind,dS x0.Meta.Namespace,dS x0.Meta.Name,dI x0.Meta.Uid,dI x0.Meta.Version,dI x0.Meta.Generation,dI x0.Meta.Created,dB x0.Meta.Deleting,dI x0.Meta.DeleteAt,dM (x0.Meta.Labels.map eLabel),dM (x0.Meta.Owners.map eOwner),dM (x0.Meta.Finalizers.map eS),dM (x0.Meta.Managers.map eManager),dI x0.Spec.Kind,dI x0.Spec.N,dS x0.Spec.S,dM (x0.Spec.List_.map eTValue),dM (x0.Spec.Fields.map eTField),dI x0.Status.Kind,dI x0.Status.N,dS x0.Status.S,dM (x0.Status.List_.map eTValue),dM (x0.Status.Fields.map eTField)]] [] (tupV [.agg [dS x0.Meta.Kind,dS x0.Meta.Namespace,dS x0.Meta.Name,dI x0.Meta.Uid,dI x0.Meta.Version,dI x0.Meta.Generation,dI x0.Meta.Created,dB x0.Meta.Deleting,dI x0.Meta.DeleteAt,.own 0 0 0 (r.1.length) none,.own 1 0 0 (r.2.1.length) none,.own 2 0 0 (r.2.2.1.length) none,.own 3 0 0 (r.2.2.2.1.length) none,dI r.2.2.2.2.1,dI r.2.2.2.2.2.1,dS r.2.2.2.2.2.2.1,dM (r.2.2.2.2.2.2.2.1.map eTValue),dM (r.2.2.2.2.2.2.2.2.1.map eTField),dI r.2.2.2.2.2.2.2.2.2.1,dI r.2.2.2.2.2.2.2.2.2.2.1,dS r.2.2.2.2.2.2.2.2.2.2.2.1,dM (r.2.2.2.2.2.2.2.2.2.2.2.2.1.map eTValue),dM (r.2.2.2.2.2.2.2.2.2.2.2.2.2.map eTField)]]) [some (.arr 0 2 (r.1.map eLabel)),some (.arr 0 5 (r.2.1.map eOwner)),some (.arr 0 1 (r.2.2.1.map eS)),some (.arr 0 2 (r.2.2.2.1.map eManager))]:=by
 refine callS a38_ok (by simp[a38]) ?_
 rw[F38]at h
 simp only[a38,VW.down,Nat.reduceEqDiff,reduceCtorEq,Nat.reduceAdd,Nat.reduceLeDiff,Nat.reduceLT,Nat.reduceBEq,Nat.reduceSub,EE.down]
 obtain⟨t1,ht1,h⟩:=bi h
 refine cN [] (F71_ok ht1) trivial (ww ?_)
 obtain⟨t2,ht2,h⟩:=bi h
 refine cN [] (F72_ok ht2) trivial (ww ?_)
 obtain⟨t3,ht3,h⟩:=bi h
 refine cN [] (F69_ok ht3) trivial (ww ?_)
 obtain⟨t4,ht4,h⟩:=bi h
 refine cN [] (F73_ok ht4) trivial (ww ?_)
 obtain⟨o5,ho,h⟩:=bi h
 refine cutS (fun s=>s=⟨[(1,.one (.c (.pt 0 0))),(2,.one (.c (.pt 5 0)))],[some (.box [dS x0.Meta.Kind,dS x0.Meta.Namespace,dS x0.Meta.Name,dI x0.Meta.Uid,dI x0.Meta.Version,dI x0.Meta.Generation,dI x0.Meta.Created,dB x0.Meta.Deleting,dI x0.Meta.DeleteAt,.own 1 0 0 (t1.length) none,.own 2 0 0 (t2.length) none,.own 3 0 0 (t3.length) none,.own 4 0 0 (o5.length) none,dI x0.Spec.Kind,dI x0.Spec.N,dS x0.Spec.S,dM (x0.Spec.List_.map eTValue),dM (x0.Spec.Fields.map eTField),dI x0.Status.Kind,dI x0.Status.N,dS x0.Status.S,dM (x0.Status.List_.map eTValue),dM (x0.Status.Fields.map eTField)]),some (.arr 0 2 (t1.map eLabel)),some (.arr 0 5 (t2.map eOwner)),some (.arr 0 1 (t3.map eS)),some (.arr 0 2 (o5.map eManager)),some (.box [dS ((⟨#[]⟩:ByteArray)),dS ((⟨#[]⟩:ByteArray)),dS ((⟨#[]⟩:ByteArray)),dI 0,dI 0,dI 0,dI 0,dB false,dI 0,dN,dN,dN,dN,dI 0,dI 0,dS ((⟨#[]⟩:ByteArray)),dN,dN,dI 0,dI 0,dS ((⟨#[]⟩:ByteArray)),dN,dN])]⟩) ?_ ?_
 ·have h:=ho
  clear ho
  obtain⟨_,hk,h⟩:=bi h
  have hk:=ck_some hk
  refine ww ?_
  refine bL (fun j s=>∃(o5_1:Nat) (o5_0:List Manager),(o5_1≤t4.length∧j=t4.length-o5_1)∧s=⟨[(1,.one (.c (.pt 0 0))),(2,.one (.c (.pt 5 0))),(32,.one (.c (.own 4 0 0 (o5_0.length) none))),(33,.one (.c (dI ((t4.length:Int))))),(34,.one (.c (dI ((o5_1:Int)))))],[some (.box [dS x0.Meta.Kind,dS x0.Meta.Namespace,dS x0.Meta.Name,dI x0.Meta.Uid,dI x0.Meta.Version,dI x0.Meta.Generation,dI x0.Meta.Created,dB x0.Meta.Deleting,dI x0.Meta.DeleteAt,.own 1 0 0 (t1.length) none,.own 2 0 0 (t2.length) none,.own 3 0 0 (t3.length) none,.own 4 0 0 (o5_0.length) none,dI x0.Spec.Kind,dI x0.Spec.N,dS x0.Spec.S,dM (x0.Spec.List_.map eTValue),dM (x0.Spec.Fields.map eTField),dI x0.Status.Kind,dI x0.Status.N,dS x0.Status.S,dM (x0.Status.List_.map eTValue),dM (x0.Status.Fields.map eTField)]),some (.arr 0 2 (t1.map eLabel)),some (.arr 0 5 (t2.map eOwner)),some (.arr 0 1 (t3.map eS)),some (.arr 0 2 (o5_0.map eManager)),some (.box [dS ((⟨#[]⟩:ByteArray)),dS ((⟨#[]⟩:ByteArray)),dS ((⟨#[]⟩:ByteArray)),dI 0,dI 0,dI 0,dI 0,dB false,dI 0,dN,dN,dN,dN,dI 0,dI 0,dS ((⟨#[]⟩:ByteArray)),dN,dN,dI 0,dI 0,dS ((⟨#[]⟩:ByteArray)),dN,dN])]⟩∧F38_l5 (t4.drop o5_1) o5_1 o5_0=some o5) (t4.length-0) [some 0,some 2,some 3,some 4,some 5,some 1] ⟨0,t4,⟨hk.1,rfl⟩,rfl,h⟩ ?_
  rintro _ _ ⟨o5_1,o5_0,⟨hi,rfl⟩,rfl,h⟩
  refine ww ?_
  refine condS (fun c6=>?_) (fun c6=>?_)
  ·obtain⟨xo5,hxo5,hd⟩:=countY (show(o5_1:Int)<(t4.length:Int)from c6)
   rw[hd,F38_l5]at h
   refine ww ?_
   obtain⟨y7,hy7,h⟩:=bi h
   refine t_idxO (enc:=eManager) (xs:=o5_0) rfl rfl rfl (by first|rfl|simp only[List.length_set]|exact(clrL_len (slI_len (by assumption))).symm) hy7 (ww ?_)
   refine LdRow.rd (rdI_some hy7).2.1 (ww ?_)
   obtain⟨t8,ht8,h⟩:=bi h
   refine cN [] (F69_ok ht8) trivial (ww ?_)
   obtain⟨y9,hy9,h⟩:=bi h
   refine t_idxO (enc:=eManager) (xs:=o5_0) rfl rfl rfl (by first|rfl|simp only[List.length_set]|exact(clrL_len (slI_len (by assumption))).symm) hy9 (ww ?_)
   refine StRow.rd (y':=(⟨y9.Name,t8⟩:Manager)) (rdI_some hy9).2.1 (by simp[EE.down]) (by first|rfl|(simp only[bor_full'];rfl)) (ww ?_)
   rw[wrapN (by omega)]
   exact eL' (t4.length-(o5_1+1)) [some 0,some 1,some 2,some 3,some 4,some 5] ⟨o5_1+1,(o5_0.set ((o5_1:Int)).toNat ((⟨y9.Name,t8⟩:Manager))),⟨by omega,rfl⟩,rfl,h⟩ (by omega)
  rw[countN (show¬((o5_1:Int)<(t4.length:Int))from c6),F38_l5]at h
  refine ww ?_
  cases h
  exact eM [some 0,some 1,some 2,some 3,some 4,some 5] rfl
 rintro _ rfl
 clear ho
 refine ww ?_
 refine t_bslice (enc:=eTValue) (ys:=[x0.Spec,x0.Status]) rfl rfl (by simp[A1.cells]) (by first|rfl|(simp only[List.drop_zero,take_mapL];rfl)|(simp only[lit,List.map_cons,List.map_nil,List.drop_zero,take_mapL,EE.down];done)|(simp only[lit,List.map_cons,List.map_nil,List.drop_zero,take_mapL,EE.down];rfl)) (ww ?_)
 obtain⟨t11,ht11,h⟩:=bi h
 refine callX_gen (as1:=[.c (dM (([x0.Spec,x0.Status]).map eTValue))]) [(6,.arr 1 5 [])] [some 0,some 1,some 2,some 3,some 4,some 5,none] [] (F74_ok ht11) ⟨?_,rfl,?_⟩ ?_ ?_ ?_ ?_ ?_ ?_ ?_ ?_
 ·simp only[ZZ.down,Nat.reduceEqDiff,reduceCtorEq,Nat.reduceAdd,Nat.reduceLeDiff,Nat.reduceLT,Nat.reduceBNe,EE.down]
 ·simp only[ZZ.down,Nat.reduceEqDiff,reduceCtorEq,Nat.reduceAdd,Nat.reduceLeDiff,Nat.reduceLT,Nat.reduceBNe,EE.down]
 ·simp only[ZZ.down,Nat.reduceEqDiff,reduceCtorEq,Nat.reduceAdd,Nat.reduceLeDiff,Nat.reduceLT,Nat.reduceBNe,EE.down]
 ·rfl
 ·rfl
 ·simp[liveAll,A1.live,C.live]
 ·rfl
 ·decide
 ·exact trivial
 refine ww ?_
 obtain⟨y12,hy12,h⟩:=bi h
 refine t_idxO (enc:=eTValue) (xs:=t11.1) rfl rfl rfl (by first|rfl|simp only[List.length_set]|exact(clrL_len (slI_len (by assumption))).symm) hy12 (ww ?_)
 refine LdRow.rd (rdI_some hy12).2.1 (ww ?_)
 obtain⟨y13,hy13,h⟩:=bi h
 refine t_idxO (enc:=eTValue) (xs:=t11.1) rfl rfl rfl (by first|rfl|simp only[List.length_set]|exact(clrL_len (slI_len (by assumption))).symm) hy13 (ww ?_)
 refine LdRow.rd (rdI_some hy13).2.1 (ww ?_)
 cases h
 exact eF [some 1,some 2,some 3,some 4]
def F23_l1(x1:ByteArray):List Object→Nat→Option ((Int) ⊕ (Unit))
 |[],o1_0=>some (Sum.inr (()))
 |xo1::xs,o1_0=>(F55 xo1).bind fun t3=>(if t3=x1 then(some ((o1_0:Int))).map Sum.inl else F23_l1 x1 xs (o1_0+1))
def F23(x0:(List Object))(x1:ByteArray):Option (Int):=(((ck (0≤x0.length∧x0.length≤4294967290)).bind fun u5=>F23_l1 x1 x0 0:Option ((Int) ⊕ (Unit))).bind fun o1=>match o1 with|Sum.inl f=>some f|Sum.inr po1=>some ((-1)))
def a23:AFn:=⟨20,[(.tmp 4)],
 (.seq (.reg [sq 4 (.mv (kI 0))])
 (.seq (.seq (.reg [sq 5 (.mv (kI 0))])
 (.sem (.block 0 (.loop (.seq (.seq (.reg [sq 6 (.mv (.t 5)),
sq 7 (.mv (.t 0)),
sq 8 (.len (.t 7)),
sq 9 (.bin .lss (.t 6) (.t 8))])
 (.cond (.t 9)
 .skip
 (.exit 0)))
 (.seq (.block 1 (.seq (.reg [sq 12 (.mv (.t 0)),
sq 13 (.mv (.t 5)),
sq 14 (.indexA 23 (.t 12) (.t 13)),
sq 15 (.load (some 23) (.t 14)),
sq 16 (.call 55 [(.t 15)]),
sq 17 (.mv (.t 1)),
sq 18 (.bin .eql (.t 16) (.t 17))])
 (.cond (.t 18)
 (.seq (.reg [sq 19 (.mv (.t 5)),
sq 4 (.mv (.t 19))])
 .ret)
 .skip)))
 (.reg [sq 10 (.mv (.t 5)),
sq 11 (.bin .add (.t 10) (kI 1)),
sq 5 (.mv (.t 11))])))))))
 (.seq (.reg [sq 4 (.mv (kI (-1)))])
 .ret)))⟩
theorem a23_ok:afn Tryz.prog 23=some a23.er:=by kernel_rfl
theorem F23_ok{x0 x1 r}(h:F23 x0 x1=some r):CallD Tryz.prog 23 [.c (dM (x0.map eObject)),.c (dS x1)] [] (tupV [.c (dI r)]) []:=by
 refine callS a23_ok (by simp[a23]) ?_
 rw[F23]at h
 simp only[a23,VW.down,Nat.reduceEqDiff,reduceCtorEq,Nat.reduceAdd,Nat.reduceLeDiff,Nat.reduceLT,Nat.reduceBEq,Nat.reduceSub,EE.down]
 obtain⟨o1,ho,h⟩:=bi h
 refine cutS (fun s=>∃po1,o1=Sum.inr po1∧s=⟨[],[]⟩) ?_ ?_
 ·have h0o1:=h
  have h:=ho
  clear ho
  obtain⟨_,hk,h⟩:=bi h
  have hk:=ck_some hk
  refine ww ?_
  refine bL (fun j s=>∃(o1_0:Nat),(o1_0≤x0.length∧j=x0.length-o1_0)∧s=⟨[(0,.one (.c (dM (x0.map eObject)))),(1,.one (.c (dS x1))),(5,.one (.c (dI ((o1_0:Int)))))],[]⟩∧F23_l1 x1 (x0.drop o1_0) o1_0=some o1) (x0.length-0) [] ⟨0,⟨hk.1,rfl⟩,rfl,h⟩ ?_
  rintro _ _ ⟨o1_0,⟨hi,rfl⟩,rfl,h⟩
  refine ww ?_
  refine condS (fun c2=>?_) (fun c2=>?_)
  ·obtain⟨xo1,hxo1,hd⟩:=countY (show(o1_0:Int)<(x0.length:Int)from c2)
   rw[hd,F23_l1]at h
   refine ww ?_
   refine t_idxF (enc:=eObject) (xs:=x0) rfl rfl hxo1 rfl (ww ?_)
   obtain⟨t3,ht3,h⟩:=bi h
   refine cN [] (F55_ok ht3) trivial (ww ?_)
   refine condSh h (fun c4 h=>?_) (fun c4 h=>?_)
   ·refine ww ?_
    obtain⟨fh0o1,hfh0o1,rfl⟩:=Option.map_eq_some_iff.1 h
    have h:=hfh0o1.trans h0o1
    cases h
    exact eF []
   refine ww ?_
   rw[wrapN (by omega)]
   exact eL' (x0.length-(o1_0+1)) [] ⟨o1_0+1,⟨by omega,rfl⟩,rfl,h⟩ (by omega)
  rw[countN (show¬((o1_0:Int)<(x0.length:Int))from c2),F23_l1]at h
  refine ww ?_
  cases h
  exact eM [] ⟨_,rfl,rfl⟩
 rintro _ ⟨po1,rfl,rfl⟩
 clear ho
 dsimp only at h
 refine ww ?_
 cases h
 exact eF []
def F95(x0:TStore)(x1:ByteArray):Option (Object×Bool):=(F23 x0.Objects x1).bind fun t1=>(if t1<0 then some (((⟨(⟨(⟨#[]⟩:ByteArray),(⟨#[]⟩:ByteArray),(⟨#[]⟩:ByteArray),0,0,0,0,false,0,[],[],[],[]⟩:Meta),(⟨0,0,(⟨#[]⟩:ByteArray),[],[]⟩:TValue),(⟨0,0,(⟨#[]⟩:ByteArray),[],[]⟩:TValue)⟩:Object),false))else(rdI x0.Objects t1).bind fun y3=>some ((y3,true)))
def a95:AFn:=⟨19,[(.cell 4 (some 23)),(.tmp 5)],
 (.seq (.reg [sq 2 (.box (.t 0)),
sq 4 (.zbox [dS ⟨#[]⟩,dS ⟨#[]⟩,dS ⟨#[]⟩,dI 0,dI 0,dI 0,dI 0,dB false,dI 0,dN,dN,dN,dN,dI 0,dI 0,dS ⟨#[]⟩,dN,dN,dI 0,dI 0,dS ⟨#[]⟩,dN,dN]),
sq 5 (.mv (kB false))])
 (.seq (.reg [sq 7 (.fieldA 4 (.t 2)),
sq 8 (.load none (.t 7)),
sq 9 (.mv (.t 1)),
sq 10 (.call 23 [(.t 8),(.t 9)]),
sq 6 (.mv (.t 10))])
 (.seq (.seq (.reg [sq 11 (.mv (.t 6)),
sq 12 (.bin .lss (.t 11) (kI 0))])
 (.cond (.t 12)
 (.seq (.reg [sq 13 (.build [dS ⟨#[]⟩,dS ⟨#[]⟩,dS ⟨#[]⟩,dI 0,dI 0,dI 0,dI 0,dB false,dI 0,dN,dN,dN,dN,dI 0,dI 0,dS ⟨#[]⟩,dN,dN,dI 0,dI 0,dS ⟨#[]⟩,dN,dN] []),
su (.store 23 (.t 4) (.t 13)),
sq 5 (.mv (kB false))])
 .ret)
 .skip))
 (.seq (.reg [sq 14 (.fieldA 4 (.t 2)),
sq 15 (.load none (.t 14)),
sq 16 (.mv (.t 6)),
sq 17 (.indexA 23 (.t 15) (.t 16)),
sq 18 (.load (some 23) (.t 17)),
su (.store 23 (.t 4) (.t 18)),
sq 5 (.mv (kB true))])
 .ret))))⟩
theorem a95_ok:afn Tryz.prog 95=some a95.er:=by kernel_rfl
theorem F95_ok{x0 x1 r}(h:F95 x0 x1=some r):CallD Tryz.prog 95 [.agg [dI x0.Rev,dI x0.Floor,dI x0.NextUid,dM (x0.Base.map eObject),dM (x0.Objects.map eObject),dM (x0.History.map eChange)],.c (dS x1)] [] (tupV [.agg [dS ((r.1).Meta.Kind),dS ((r.1).Meta.Namespace),dS ((r.1).Meta.Name),dI ((r.1).Meta.Uid),dI ((r.1).Meta.Version),dI ((r.1).Meta.Generation),dI ((r.1).Meta.Created),dB ((r.1).Meta.Deleting),dI ((r.1).Meta.DeleteAt),dM (((r.1).Meta.Labels).map eLabel),dM (((r.1).Meta.Owners).map eOwner),dM (((r.1).Meta.Finalizers).map eS),dM (((r.1).Meta.Managers).map eManager),dI ((r.1).Spec.Kind),dI ((r.1).Spec.N),dS ((r.1).Spec.S),dM (((r.1).Spec.List_).map eTValue),dM (((r.1).Spec.Fields).map eTField),dI ((r.1).Status.Kind),dI ((r.1).Status.N),dS ((r.1).Status.S),dM (((r.1).Status.List_).map eTValue),dM (((r.1).Status.Fields).map eTField)],.c (dB r.2)]) []:=by
 refine callS a95_ok (by simp[a95]) ?_
 rw[F95]at h
 simp only[a95,VW.down,Nat.reduceEqDiff,reduceCtorEq,Nat.reduceAdd,Nat.reduceLeDiff,Nat.reduceLT,Nat.reduceBEq,Nat.reduceSub,EE.down]
 obtain⟨t1,ht1,h⟩:=bi h
 refine cN [] (F23_ok ht1) trivial (ww ?_)
 refine condSh h (fun c2 h=>?_) (fun c2 h=>?_)
 ·refine ww ?_
  cases h
  exact eF []
 refine ww ?_
 obtain⟨y3,hy3,h⟩:=bi h
 refine t_idxF (enc:=eObject) (xs:=x0.Objects) rfl rfl hy3 rfl (ww ?_)
 cases h
 exact eF []
end Go.Proofs.YtondgcmdhkhkkaaGreat
