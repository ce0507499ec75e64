/- Each Go function as a function over typed data, and its walk. -/
import Derived.Test.YtondgcmdhkhkkaaGreatW0
import Derived.Test.YtondgcmdhkhkkaaGreatW1
import Derived.Test.YtondgcmdhkhkkaaGreatW2
import Derived.Test.YtondgcmdhkhkkaaGreatW3
import Derived.Test.YtondgcmdhkhkkaaGreatW4
import Derived.Test.YtondgcmdhkhkkaaGreatW5
namespace Go.Proofs.YtondgcmdhkhkkaaGreat
open Go Go.Fw Go.Shelf
set_option maxRecDepth 100000
set_option maxHeartbeats 4000000
set_option linter.unusedSimpArgs false
set_option linter.unusedVariables false
def F74(x0:(List TValue)):Option ((List TValue)×(List TField)):=(F97k 1099511627776 ((⟨4,0,(⟨#[]⟩:ByteArray),x0,[]⟩:TValue))).bind fun t1=>some ((t1.1,t1.2))
def a74:AFn:=⟨6,[(.cell 2 (some 5))],
 (.seq (.reg [zl 2 (.zbox [dI 0,dI 0,dS ⟨#[]⟩,dN,dN]) [] []])
 (.seq (.reg [sq 3 (.mv (.t 0)),
sq 4 (.build [dI 0,dI 0,dS ⟨#[]⟩,dN,dN] [(0,1,(kI 4)),(3,1,(.t 3))]),
sq 5 (.call 97 [(.t 4)]),
su (.store 5 (.t 2) (.t 5))])
 .ret))⟩
theorem a74_ok:afn Tryz.prog 74=some a74.er:=by kernel_rfl
theorem F74_ok{x0 r}(h:F74 x0=some r):CallD Tryz.prog 74 [.c (dM (x0.map eTValue))] [] (tupV [.agg [dI ((4:Int)),dI ((0:Int)),dS (((⟨#[]⟩:ByteArray))),.own 0 0 0 (r.1.length) none,.own 1 0 0 (r.2.length) none]]) [some (.arr 0 5 (r.1.map eTValue)),some (.arr 0 6 (r.2.map eTField))]:=by
 refine callS a74_ok (by simp[a74]) ?_
 rw[F74]at h
 simp only[a74,VW.down,Nat.reduceEqDiff,reduceCtorEq,Nat.reduceAdd,Nat.reduceLeDiff,Nat.reduceLT,Nat.reduceBEq,Nat.reduceSub,EE.down]
 obtain⟨t1,ht1,h⟩:=bi h
 refine cN [] (F97k_ok 1099511627776 ht1) trivial (ww ?_)
 cases h
 exact eF [some 1,some 2]
def F110(x0:TValue):Option (TValue):=(F74 ([x0])).bind fun t1=>(rdI t1.1 0).bind fun y2=>some y2
def a110:AFn:=⟨9,[(.cell 2 (some 5))],
 (.seq (.reg [sq 1 (.box (.t 0)),
sq 2 (.zbox [dI 0,dI 0,dS ⟨#[]⟩,dN,dN])])
 (.seq (.reg [sq 3 (.load (some 5) (.t 1)),
sq 4 (.bslice 5 [(.t 3)]),
sq 5 (.call 74 [(.t 4)]),
sq 6 (.field 3 none (.t 5)),
sq 7 (.indexA 5 (.t 6) (kI 0)),
sq 8 (.load (some 5) (.t 7)),
su (.store 5 (.t 2) (.t 8))])
 .ret))⟩
theorem a110_ok:afn Tryz.prog 110=some a110.er:=by kernel_rfl
theorem F110_ok{x0 r}(h:F110 x0=some r):CallD Tryz.prog 110 [.agg [dI x0.Kind,dI x0.N,dS x0.S,dM (x0.List_.map eTValue),dM (x0.Fields.map eTField)]] [] (tupV [.agg [dI ((r).Kind),dI ((r).N),dS ((r).S),dM (((r).List_).map eTValue),dM (((r).Fields).map eTField)]]) []:=by
 refine callS a110_ok (by simp[a110]) ?_
 rw[F110]at h
 simp only[a110,VW.down,Nat.reduceEqDiff,reduceCtorEq,Nat.reduceAdd,Nat.reduceLeDiff,Nat.reduceLT,Nat.reduceBEq,Nat.reduceSub,EE.down]
 refine t_bslice (enc:=eTValue) (ys:=[x0]) rfl rfl (by simp[A1.cells]) (by first|rfl|(simp only[List.drop_zero,take_mapL];rfl)|(simp only[lit,List.map_cons,List.map_nil,List.drop_zero,take_mapL,EE.down];done)|(simp only[lit,List.map_cons,List.map_nil,List.drop_zero,take_mapL,EE.down];rfl)) (ww ?_)
 obtain⟨t1,ht1,h⟩:=bi h
 refine callX_gen (as1:=[.c (dM (([x0]).map eTValue))]) [(2,.arr 1 5 [])] [some 0,some 1,none] [] (F74_ok ht1) ⟨?_,rfl,?_⟩ ?_ ?_ ?_ ?_ ?_ ?_ ?_ ?_
 ·simp only[ZZ.down,Nat.reduceEqDiff,reduceCtorEq,Nat.reduceAdd,Nat.reduceLeDiff,Nat.reduceLT,Nat.reduceBNe,EE.down]
 ·simp only[ZZ.down,Nat.reduceEqDiff,reduceCtorEq,Nat.reduceAdd,Nat.reduceLeDiff,Nat.reduceLT,Nat.reduceBNe,EE.down]
 ·simp only[ZZ.down,Nat.reduceEqDiff,reduceCtorEq,Nat.reduceAdd,Nat.reduceLeDiff,Nat.reduceLT,Nat.reduceBNe,EE.down]
 ·rfl
 ·rfl
 ·simp[liveAll,A1.live,C.live]
 ·rfl
 ·decide
 ·exact trivial
 refine ww ?_
 obtain⟨y2,hy2,h⟩:=bi h
 refine t_idxO (enc:=eTValue) (xs:=t1.1) rfl rfl rfl (by first|rfl|simp only[List.length_set]|exact(clrL_len (slI_len (by assumption))).symm) hy2 (ww ?_)
 refine LdRow.rd (rdI_some hy2).2.1 (ww ?_)
 cases h
 exact eF []
def F78(x0:Requirement)(x1:(List Label)):Option (Bool):=(F99 x1 x0.Key).bind fun t1=>(if x0.Op=1 then(((if t1.2=true then(F100 x0.Values t1.1).bind fun t5=>some t5 else some false)).bind fun o3=>some o3)else(if x0.Op=2 then(((if(nb t1.2)=true then some true else(F100 x0.Values t1.1).bind fun t9=>some (nb t9))).bind fun o7=>some o7)else(if x0.Op=3 then some t1.2 else(if x0.Op=4 then some (nb t1.2)else some false))))
def a78:AFn:=⟨43,[(.tmp 4)],
 (.seq (.reg [sq 2 (.box (.t 0)),
sq 4 (.mv (kB false))])
 (.seq (.reg [sq 8 (.mv (.t 1)),
sq 9 (.fieldA 0 (.t 2)),
sq 10 (.load none (.t 9)),
sq 11 (.call 99 [(.t 8),(.t 10)]),
sq 7 (.mv (.t 11)),
sq 12 (.ext (.t 7) 0),
sq 13 (.ext (.t 7) 1),
sq 5 (.mv (.t 12)),
sq 6 (.mv (.t 13))])
 (.seq (.seq (.reg [sq 14 (.fieldA 1 (.t 2)),
sq 15 (.load none (.t 14))])
 (.block 0 (.seq (.reg [sq 17 (.bin .eql (.t 15) (kI 1)),
sq 16 (.mv (.t 17))])
 (.cond (.t 16)
 (.seq (.sem (.reg [sq 18 (.mv (.t 6)),
sq 19 (.mv (.t 18)),
zg 20 19 true (.fieldA 2 (.t 2)),
zg 21 19 true (.load none (.t 20)),
zg 22 19 true (.mv (.t 5)),
zg 23 19 true (.call 100 [(.t 21),(.t 22)]),
sq 24 (.pick (.t 19) (.t 23) (kB false)),
sq 4 (.mv (.t 24))]))
 .ret)
 (.seq (.reg [sq 26 (.bin .eql (.t 15) (kI 2)),
sq 25 (.mv (.t 26))])
 (.cond (.t 25)
 (.seq (.sem (.reg [sq 27 (.mv (.t 6)),
sq 28 (.not (.t 27)),
sq 29 (.mv (.t 28)),
zg 30 29 false (.fieldA 2 (.t 2)),
zg 31 29 false (.load none (.t 30)),
zg 32 29 false (.mv (.t 5)),
zg 33 29 false (.call 100 [(.t 31),(.t 32)]),
zg 34 29 false (.not (.t 33)),
sq 35 (.pick (.t 29) (kB true) (.t 34)),
sq 4 (.mv (.t 35))]))
 .ret)
 (.seq (.reg [sq 37 (.bin .eql (.t 15) (kI 3)),
sq 36 (.mv (.t 37))])
 (.cond (.t 36)
 (.seq (.reg [sq 38 (.mv (.t 6)),
sq 4 (.mv (.t 38))])
 .ret)
 (.seq (.reg [sq 40 (.bin .eql (.t 15) (kI 4)),
sq 39 (.mv (.t 40))])
 (.cond (.t 39)
 (.seq (.reg [sq 41 (.mv (.t 6)),
sq 42 (.not (.t 41)),
sq 4 (.mv (.t 42))])
 .ret)
 .skip))))))))))
 (.seq (.reg [sq 4 (.mv (kB false))])
 .ret))))⟩
theorem a78_ok:afn Tryz.prog 78=some a78.er:=by kernel_rfl
theorem F78_ok{x0 x1 r}(h:F78 x0 x1=some r):CallD Tryz.prog 78 [.agg [dS x0.Key,dI x0.Op,dM (x0.Values.map eS)],.c (dM (x1.map eLabel))] [] (tupV [.c (dB r)]) []:=by
 refine callS a78_ok (by simp[a78]) ?_
 rw[F78]at h
 simp only[a78,VW.down,Nat.reduceEqDiff,reduceCtorEq,Nat.reduceAdd,Nat.reduceLeDiff,Nat.reduceLT,Nat.reduceBEq,Nat.reduceSub,EE.down]
 obtain⟨t1,ht1,h⟩:=bi h
 refine cN [] (F99_ok ht1) trivial (ww ?_)
 refine condSh h (fun c2 h=>?_) (fun c2 h=>?_)
 ·refine ww ?_
  obtain⟨o3,ho,h⟩:=bi h
  refine cutS (fun s=>s=⟨[(4,.one (.c (dB o3)))],[]⟩) ?_ ?_
  ·have h:=ho
   clear ho
   refine ww ?_
   refine guardSBh h (fun g4 h=>?_) (fun g4 h=>?_)
   ·refine ww ?_
    obtain⟨t5,ht5,h⟩:=bi h
    refine cN [] (F100_ok ht5) trivial (ww ?_)
    cases h
    exact eM [] rfl
   refine ww ?_
   cases h
   exact eM [] rfl
  rintro _ rfl
  clear ho
  refine ww ?_
  cases h
  exact eF []
 refine ww ?_
 refine condSh h (fun c6 h=>?_) (fun c6 h=>?_)
 ·refine ww ?_
  obtain⟨o7,ho,h⟩:=bi h
  refine cutS (fun s=>s=⟨[(4,.one (.c (dB o7)))],[]⟩) ?_ ?_
  ·have h:=ho
   clear ho
   refine ww ?_
   refine guardSBh h (fun g8 h=>?_) (fun g8 h=>?_)
   ·refine ww ?_
    cases h
    exact eM [] rfl
   refine ww ?_
   obtain⟨t9,ht9,h⟩:=bi h
   refine cN [] (F100_ok ht9) trivial (ww ?_)
   cases h
   exact eM [] rfl
  rintro _ rfl
  clear ho
  refine ww ?_
  cases h
  exact eF []
 refine ww ?_
 refine condSh h (fun c10 h=>?_) (fun c10 h=>?_)
 ·refine ww ?_
  cases h
  exact eF []
 refine ww ?_
 refine condSh h (fun c11 h=>?_) (fun c11 h=>?_)
 ·refine ww ?_
  cases h
  exact eF []
 refine ww ?_
 cases h
 exact eF []
def F42_l1(x1:(List Label)):List Requirement→Nat→Option ((Bool) ⊕ (Unit))
 |[],o1_0=>some (Sum.inr (()))
 |xo1::xs,o1_0=>(F78 xo1 x1).bind fun t3=>(if(nb t3)=true then(some false).map Sum.inl else F42_l1 x1 xs (o1_0+1))
def F42(x0:(List Requirement))(x1:(List Label)):Option (Bool):=(((ck (0≤x0.length∧x0.length≤4294967290)).bind fun u5=>F42_l1 x1 x0 0:Option ((Bool) ⊕ (Unit))).bind fun o1=>match o1 with|Sum.inl f=>some f|Sum.inr po1=>some true)
def a42:AFn:=⟨18,[(.tmp 4)],
 (.seq (.reg [sq 4 (.mv (kB false))])
 (.seq (.seq (.reg [sq 7 (.mv (.t 0)),
sq 8 (.len (.t 7)),
sq 9 (.mv (kI 0))])
 (.sem (.block 0 (.loop (.seq (.reg [sq 10 (.bin .lss (.t 9) (.t 8))])
 (.seq (.cond (.t 10)
 .skip
 (.exit 0))
 (.seq (.block 1 (.seq (.reg [sq 11 (.indexA 3 (.t 7) (.t 9)),
sq 12 (.load (some 3) (.t 11)),
sq 6 (.zbox [dS ⟨#[]⟩,dI 0,dN]),
su (.store 3 (.t 6) (.t 12))])
 (.seq (.reg [sq 13 (.load (some 3) (.t 6)),
sq 14 (.mv (.t 1)),
sq 15 (.call 78 [(.t 13),(.t 14)]),
sq 16 (.not (.t 15))])
 (.cond (.t 16)
 (.seq (.reg [sq 4 (.mv (kB false))])
 .ret)
 .skip))))
 (.reg [sq 17 (.bin .add (.t 9) (kI 1)),
sq 9 (.mv (.t 17))]))))))))
 (.seq (.reg [sq 4 (.mv (kB true))])
 .ret)))⟩
theorem a42_ok:afn Tryz.prog 42=some a42.er:=by kernel_rfl
theorem F42_ok{x0 x1 r}(h:F42 x0 x1=some r):CallD Tryz.prog 42 [.c (dM (x0.map eRequirement)),.c (dM (x1.map eLabel))] [] (tupV [.c (dB r)]) []:=by
 refine callS a42_ok (by simp[a42]) ?_
 rw[F42]at h
 simp only[a42,VW.down,Nat.reduceEqDiff,reduceCtorEq,Nat.reduceAdd,Nat.reduceLeDiff,Nat.reduceLT,Nat.reduceBEq,Nat.reduceSub,EE.down]
 obtain⟨o1,ho,h⟩:=bi h
 refine cutS (fun s=>∃po1,o1=Sum.inr po1∧s=⟨[],[]⟩) ?_ ?_
 ·have h0o1:=h
  have h:=ho
  clear ho
  obtain⟨_,hk,h⟩:=bi h
  have hk:=ck_some hk
  refine ww ?_
  refine bL (fun j s=>∃(o1_0:Nat),(o1_0≤x0.length∧j=x0.length-o1_0)∧s=⟨[(1,.one (.c (dM (x1.map eLabel)))),(7,.one (.c (dM (x0.map eRequirement)))),(8,.one (.c (dI ((x0.length:Int))))),(9,.one (.c (dI ((o1_0:Int)))))],[]⟩∧F42_l1 x1 (x0.drop o1_0) o1_0=some o1) (x0.length-0) [] ⟨0,⟨hk.1,rfl⟩,rfl,h⟩ ?_
  rintro _ _ ⟨o1_0,⟨hi,rfl⟩,rfl,h⟩
  refine ww ?_
  refine condS (fun c2=>?_) (fun c2=>?_)
  ·obtain⟨xo1,hxo1,hd⟩:=countY (show(o1_0:Int)<(x0.length:Int)from c2)
   rw[hd,F42_l1]at h
   refine ww ?_
   refine t_idxF (enc:=eRequirement) (xs:=x0) rfl rfl hxo1 rfl (ww ?_)
   obtain⟨t3,ht3,h⟩:=bi h
   refine cN [] (F78_ok ht3) trivial (ww ?_)
   refine condBh h (fun c4 h=>?_) (fun c4 h=>?_)
   ·refine ww ?_
    obtain⟨fh0o1,hfh0o1,rfl⟩:=Option.map_eq_some_iff.1 h
    have h:=hfh0o1.trans h0o1
    cases h
    exact eF []
   refine ww ?_
   rw[wrapN (by omega)]
   exact eL' (x0.length-(o1_0+1)) [] ⟨o1_0+1,⟨by omega,rfl⟩,rfl,h⟩ (by omega)
  rw[countN (show¬((o1_0:Int)<(x0.length:Int))from c2),F42_l1]at h
  refine ww ?_
  cases h
  exact eM [] ⟨_,rfl,rfl⟩
 rintro _ ⟨po1,rfl,rfl⟩
 clear ho
 dsimp only at h
 refine ww ?_
 cases h
 exact eF []
def F38_l5:List Manager→Nat→(List Manager)→Option ((List Manager))
 |[],o5_1,o5_0=>some o5_0
 |xo5::xs,o5_1,o5_0=>(rdI o5_0 ((o5_1:Int))).bind fun y7=>(cloneI y7.Fields).bind fun t8=>(rdI o5_0 ((o5_1:Int))).bind fun y9=>F38_l5 xs (o5_1+1) ((o5_0.set ((o5_1:Int)).toNat ((⟨y9.Name,t8⟩:Manager))))
def F38(x0:Object):Option ((List Label)×(List Owner)×(List ByteArray)×(List Manager)×Int×Int×ByteArray×((List TValue))×((List TField))×Int×Int×ByteArray×((List TValue))×((List TField))):=(cloneI x0.Meta.Labels).bind fun t1=>(cloneI x0.Meta.Owners).bind fun t2=>(cloneI x0.Meta.Finalizers).bind fun t3=>(cloneI x0.Meta.Managers).bind fun t4=>(((ck (0≤t4.length∧t4.length≤4294967290)).bind fun u10=>F38_l5 t4 0 t4).bind fun o5=>(F74 ([x0.Spec,x0.Status])).bind fun t11=>(rdI t11.1 0).bind fun y12=>(rdI t11.1 1).bind fun y13=>some ((t1,t2,t3,o5,y12.Kind,y12.N,y12.S,y12.List_,y12.Fields,y13.Kind,y13.N,y13.S,y13.List_,y13.Fields)))
def a38:AFn:=⟨65,[(.cell 2 (some 23))],
 (.seq (.reg [sq 1 (.box (.t 0)),
sq 2 (.zbox [dS ⟨#[]⟩,dS ⟨#[]⟩,dS ⟨#[]⟩,dI 0,dI 0,dI 0,dI 0,dB false,dI 0,dN,dN,dN,dN,dI 0,dI 0,dS ⟨#[]⟩,dN,dN,dI 0,dI 0,dS ⟨#[]⟩,dN,dN])])
 (.seq (.reg [sq 6 (.fieldA 0 (.t 1)),
sq 7 (.fieldA 9 (.t 6)),
sq 8 (.load none (.t 7)),
sq 9 (.call 71 [(.t 8)]),
sq 10 (.fieldA 0 (.t 1)),
sq 11 (.fieldA 9 (.t 10)),
su (.store 1 (.t 11) (.t 9))])
 (.seq (.reg [sq 12 (.fieldA 0 (.t 1)),
sq 13 (.fieldA 10 (.t 12)),
sq 14 (.load none (.t 13)),
sq 15 (.call 72 [(.t 14)]),
sq 16 (.fieldA 0 (.t 1)),
sq 17 (.fieldA 10 (.t 16)),
su (.store 1 (.t 17) (.t 15))])
 (.seq (.reg [sq 18 (.fieldA 0 (.t 1)),
sq 19 (.fieldA 11 (.t 18)),
sq 20 (.load none (.t 19)),
sq 21 (.call 69 [(.t 20)]),
sq 22 (.fieldA 0 (.t 1)),
sq 23 (.fieldA 11 (.t 22)),
su (.store 1 (.t 23) (.t 21))])
 (.seq (.reg [sq 24 (.fieldA 0 (.t 1)),
sq 25 (.fieldA 12 (.t 24)),
sq 26 (.load none (.t 25)),
sq 27 (.call 73 [(.t 26)]),
sq 28 (.fieldA 0 (.t 1)),
sq 29 (.fieldA 12 (.t 28)),
su (.store 1 (.t 29) (.t 27))])
 (.seq (.seq (.reg [sq 30 (.fieldA 0 (.t 1)),
sq 31 (.fieldA 12 (.t 30)),
sq 32 (.load none (.t 31)),
sq 33 (.len (.t 32)),
sq 34 (.mv (kI 0))])
 (.sem (.block 0 (.loop (.seq (.reg [sq 35 (.bin .lss (.t 34) (.t 33))])
 (.seq (.cond (.t 35)
 .skip
 (.exit 0))
 (.seq (.block 1 (.seq (.reg [sq 36 (.mv (.t 34)),
sq 37 (.indexA 2 (.t 32) (.t 34)),
sq 38 (.load (some 2) (.t 37)),
sq 4 (.zbox [dS ⟨#[]⟩,dN]),
sq 3 (.mv (.t 36)),
su (.store 2 (.t 4) (.t 38))])
 (.regd [sq 39 (.fieldA 0 (.t 1)),
sd 40 (.fieldA 12 (.t 39)) [0],
sd 41 (.load none (.t 40)) [0,1],
sq 42 (.mv (.t 3)),
sq 43 (.fieldA 1 (.t 4)),
sd 44 (.load none (.t 43)) [4],
zl 45 (.call 69 [(.t 44)]) [4,5] [1,39,40],
sd 46 (.indexA 2 (.t 41) (.t 42)) [0,1,2,3,4,5,6],
sd 47 (.fieldA 1 (.t 46)) [0,1,2,3,4,5,6,7],
⟨none,none,.store 1 (.t 47) (.t 45),[0,1,2,3,4,5,6,7,8],(.lone [])⟩])))
 (.reg [sq 48 (.bin .add (.t 34) (kI 1)),
sq 34 (.mv (.t 48))]))))))))
 (.seq (.reg [sq 49 (.fieldA 13 (.t 1)),
sq 50 (.load (some 5) (.t 49)),
sq 51 (.fieldA 18 (.t 1)),
sq 52 (.load (some 5) (.t 51)),
sq 53 (.bslice 5 [(.t 50),(.t 52)]),
sq 54 (.call 74 [(.t 53)]),
sq 55 (.field 3 none (.t 54)),
sq 5 (.mv (.t 55))])
 (.seq (.regd [sq 56 (.mv (.t 5)),
sd 57 (.indexA 5 (.t 56) (kI 0)) [0],
sd 58 (.load (some 5) (.t 57)) [0,1],
sq 59 (.mv (.t 5)),
sd 60 (.indexA 5 (.t 59) (kI 1)) [3],
sd 61 (.load (some 5) (.t 60)) [3,4],
sd 62 (.fieldA 13 (.t 1)) [0,1,2],
⟨none,none,.store 5 (.t 62) (.t 58),[0,1,2,6],(.lone [59,60])⟩,
sd 63 (.fieldA 18 (.t 1)) [0,1,2,3,4,5,6,7],
⟨none,none,.store 5 (.t 63) (.t 61),[0,1,2,3,4,5,6,7,8],(.lone [])⟩])
 (.seq (.reg [sq 64 (.load (some 23) (.t 1)),
⟨none,none,.store 23 (.t 2) (.t 64),[],(.lone [1])⟩])
 .ret)))))))))⟩
theorem a38_ok:afn Tryz.prog 38=some a38.er:=by kernel_rfl
theorem F38_ok{x0 r}(h:F38 x0=some r):CallD Tryz.prog 38 [.agg [dS x0.Meta.Kind,dS x0.Meta.Namespace,dS x0.Meta.Name,dI x0.Meta.Uid,dI x0.Meta.Version,dI x0.Meta.Generation,dI x0.Meta.Created,dB x0.Meta.Deleting,dI x0.Meta.DeleteAt,dM (x0.Meta.Labels.map eLabel),dM (x0.Meta.Owners.map eOwner),dM (x0.Meta.Finalizers.map eS),dM (x0.Meta.Managers.map eManager),dI x0.Spec.Kind,dI x0.Spec.N,dS x0.Spec.S,dM (x0.Spec.List_.map eTValue),dM (x0.Spec.Fields.map eTField),dI x0.Status.Kind,dI x0.Status.N,dS x0.Status.S,dM (x0.Status.List_.map eTValue),dM (x0.Status.Fields.map eTField)]] [] (tupV [.agg [dS x0.Meta.Kind,dS x0.Meta.Namespace,dS x0.Meta.Name,dI x0.Meta.Uid,dI x0.Meta.Version,dI x0.Meta.Generation,dI x0.Meta.Created,dB x0.Meta.Deleting,dI x0.Meta.DeleteAt,.own 0 0 0 (r.1.length) none,.own 1 0 0 (r.2.1.length) none,.own 2 0 0 (r.2.2.1.length) none,.own 3 0 0 (r.2.2.2.1.length) none,dI r.2.2.2.2.1,dI r.2.2.2.2.2.1,dS r.2.2.2.2.2.2.1,dM (r.2.2.2.2.2.2.2.1.map eTValue),dM (r.2.2.2.2.2.2.2.2.1.map eTField),dI r.2.2.2.2.2.2.2.2.2.1,dI r.2.2.2.2.2.2.2.2.2.2.1,dS r.2.2.2.2.2.2.2.2.2.2.2.1,dM (r.2.2.2.2.2.2.2.2.2.2.2.2.1.map eTValue),dM (r.2.2.2.2.2.2.2.2.2.2.2.2.2.map eTField)]]) [some (.arr 0 2 (r.1.map eLabel)),some (.arr 0 5 (r.2.1.map eOwner)),some (.arr 0 1 (r.2.2.1.map eS)),some (.arr 0 2 (r.2.2.2.1.map eManager))]:=by
 refine callS a38_ok (by simp[a38]) ?_
 rw[F38]at h
 simp only[a38,VW.down,Nat.reduceEqDiff,reduceCtorEq,Nat.reduceAdd,Nat.reduceLeDiff,Nat.reduceLT,Nat.reduceBEq,Nat.reduceSub,EE.down]
 obtain⟨t1,ht1,h⟩:=bi h
 refine cN [] (F71_ok ht1) trivial (ww ?_)
 obtain⟨t2,ht2,h⟩:=bi h
 refine cN [] (F72_ok ht2) trivial (ww ?_)
 obtain⟨t3,ht3,h⟩:=bi h
 refine cN [] (F69_ok ht3) trivial (ww ?_)
 obtain⟨t4,ht4,h⟩:=bi h
 refine cN [] (F73_ok ht4) trivial (ww ?_)
 obtain⟨o5,ho,h⟩:=bi h
 refine cutS (fun s=>s=⟨[(1,.one (.c (.pt 0 0))),(2,.one (.c (.pt 5 0)))],[some (.box [dS x0.Meta.Kind,dS x0.Meta.Namespace,dS x0.Meta.Name,dI x0.Meta.Uid,dI x0.Meta.Version,dI x0.Meta.Generation,dI x0.Meta.Created,dB x0.Meta.Deleting,dI x0.Meta.DeleteAt,.own 1 0 0 (t1.length) none,.own 2 0 0 (t2.length) none,.own 3 0 0 (t3.length) none,.own 4 0 0 (o5.length) none,dI x0.Spec.Kind,dI x0.Spec.N,dS x0.Spec.S,dM (x0.Spec.List_.map eTValue),dM (x0.Spec.Fields.map eTField),dI x0.Status.Kind,dI x0.Status.N,dS x0.Status.S,dM (x0.Status.List_.map eTValue),dM (x0.Status.Fields.map eTField)]),some (.arr 0 2 (t1.map eLabel)),some (.arr 0 5 (t2.map eOwner)),some (.arr 0 1 (t3.map eS)),some (.arr 0 2 (o5.map eManager)),some (.box [dS ((⟨#[]⟩:ByteArray)),dS ((⟨#[]⟩:ByteArray)),dS ((⟨#[]⟩:ByteArray)),dI 0,dI 0,dI 0,dI 0,dB false,dI 0,dN,dN,dN,dN,dI 0,dI 0,dS ((⟨#[]⟩:ByteArray)),dN,dN,dI 0,dI 0,dS ((⟨#[]⟩:ByteArray)),dN,dN])]⟩) ?_ ?_
 ·have h:=ho
  clear ho
  obtain⟨_,hk,h⟩:=bi h
  have hk:=ck_some hk
  refine ww ?_
  refine bL (fun j s=>∃(o5_1:Nat) (o5_0:List Manager),(o5_1≤t4.length∧j=t4.length-o5_1)∧s=⟨[(1,.one (.c (.pt 0 0))),(2,.one (.c (.pt 5 0))),(32,.one (.c (.own 4 0 0 (o5_0.length) none))),(33,.one (.c (dI ((t4.length:Int))))),(34,.one (.c (dI ((o5_1:Int)))))],[some (.box [dS x0.Meta.Kind,dS x0.Meta.Namespace,dS x0.Meta.Name,dI x0.Meta.Uid,dI x0.Meta.Version,dI x0.Meta.Generation,dI x0.Meta.Created,dB x0.Meta.Deleting,dI x0.Meta.DeleteAt,.own 1 0 0 (t1.length) none,.own 2 0 0 (t2.length) none,.own 3 0 0 (t3.length) none,.own 4 0 0 (o5_0.length) none,dI x0.Spec.Kind,dI x0.Spec.N,dS x0.Spec.S,dM (x0.Spec.List_.map eTValue),dM (x0.Spec.Fields.map eTField),dI x0.Status.Kind,dI x0.Status.N,dS x0.Status.S,dM (x0.Status.List_.map eTValue),dM (x0.Status.Fields.map eTField)]),some (.arr 0 2 (t1.map eLabel)),some (.arr 0 5 (t2.map eOwner)),some (.arr 0 1 (t3.map eS)),some (.arr 0 2 (o5_0.map eManager)),some (.box [dS ((⟨#[]⟩:ByteArray)),dS ((⟨#[]⟩:ByteArray)),dS ((⟨#[]⟩:ByteArray)),dI 0,dI 0,dI 0,dI 0,dB false,dI 0,dN,dN,dN,dN,dI 0,dI 0,dS ((⟨#[]⟩:ByteArray)),dN,dN,dI 0,dI 0,dS ((⟨#[]⟩:ByteArray)),dN,dN])]⟩∧F38_l5 (t4.drop o5_1) o5_1 o5_0=some o5) (t4.length-0) [some 0,some 2,some 3,some 4,some 5,some 1] ⟨0,t4,⟨hk.1,rfl⟩,rfl,h⟩ ?_
  rintro _ _ ⟨o5_1,o5_0,⟨hi,rfl⟩,rfl,h⟩
  refine ww ?_
  refine condS (fun c6=>?_) (fun c6=>?_)
  ·obtain⟨xo5,hxo5,hd⟩:=countY (show(o5_1:Int)<(t4.length:Int)from c6)
   rw[hd,F38_l5]at h
   refine ww ?_
   obtain⟨y7,hy7,h⟩:=bi h
   refine t_idxO (enc:=eManager) (xs:=o5_0) rfl rfl rfl (by first|rfl|simp only[List.length_set]|exact(clrL_len (slI_len (by assumption))).symm) hy7 (ww ?_)
   refine LdRow.rd (rdI_some hy7).2.1 (ww ?_)
   obtain⟨t8,ht8,h⟩:=bi h
   refine cN [] (F69_ok ht8) trivial (ww ?_)
   obtain⟨y9,hy9,h⟩:=bi h
   refine t_idxO (enc:=eManager) (xs:=o5_0) rfl rfl rfl (by first|rfl|simp only[List.length_set]|exact(clrL_len (slI_len (by assumption))).symm) hy9 (ww ?_)
   refine StRow.rd (y':=(⟨y9.Name,t8⟩:Manager)) (rdI_some hy9).2.1 (by simp[EE.down]) (by first|rfl|(simp only[bor_full'];rfl)) (ww ?_)
   rw[wrapN (by omega)]
   exact eL' (t4.length-(o5_1+1)) [some 0,some 1,some 2,some 3,some 4,some 5] ⟨o5_1+1,(o5_0.set ((o5_1:Int)).toNat ((⟨y9.Name,t8⟩:Manager))),⟨by omega,rfl⟩,rfl,h⟩ (by omega)
  rw[countN (show¬((o5_1:Int)<(t4.length:Int))from c6),F38_l5]at h
  refine ww ?_
  cases h
  exact eM [some 0,some 1,some 2,some 3,some 4,some 5] rfl
 rintro _ rfl
 clear ho
 refine ww ?_
 refine t_bslice (enc:=eTValue) (ys:=[x0.Spec,x0.Status]) rfl rfl (by simp[A1.cells]) (by first|rfl|(simp only[List.drop_zero,take_mapL];rfl)|(simp only[lit,List.map_cons,List.map_nil,List.drop_zero,take_mapL,EE.down];done)|(simp only[lit,List.map_cons,List.map_nil,List.drop_zero,take_mapL,EE.down];rfl)) (ww ?_)
 obtain⟨t11,ht11,h⟩:=bi h
 refine callX_gen (as1:=[.c (dM (([x0.Spec,x0.Status]).map eTValue))]) [(6,.arr 1 5 [])] [some 0,some 1,some 2,some 3,some 4,some 5,none] [] (F74_ok ht11) ⟨?_,rfl,?_⟩ ?_ ?_ ?_ ?_ ?_ ?_ ?_ ?_
 ·simp only[ZZ.down,Nat.reduceEqDiff,reduceCtorEq,Nat.reduceAdd,Nat.reduceLeDiff,Nat.reduceLT,Nat.reduceBNe,EE.down]
 ·simp only[ZZ.down,Nat.reduceEqDiff,reduceCtorEq,Nat.reduceAdd,Nat.reduceLeDiff,Nat.reduceLT,Nat.reduceBNe,EE.down]
 ·simp only[ZZ.down,Nat.reduceEqDiff,reduceCtorEq,Nat.reduceAdd,Nat.reduceLeDiff,Nat.reduceLT,Nat.reduceBNe,EE.down]
 ·rfl
 ·rfl
 ·simp[liveAll,A1.live,C.live]
 ·rfl
 ·decide
 ·exact trivial
 refine ww ?_
 obtain⟨y12,hy12,h⟩:=bi h
 refine t_idxO (enc:=eTValue) (xs:=t11.1) rfl rfl rfl (by first|rfl|simp only[List.length_set]|exact(clrL_len (slI_len (by assumption))).symm) hy12 (ww ?_)
 refine LdRow.rd (rdI_some hy12).2.1 (ww ?_)
 obtain⟨y13,hy13,h⟩:=bi h
 refine t_idxO (enc:=eTValue) (xs:=t11.1) rfl rfl rfl (by first|rfl|simp only[List.length_set]|exact(clrL_len (slI_len (by assumption))).symm) hy13 (ww ?_)
 refine LdRow.rd (rdI_some hy13).2.1 (ww ?_)
 cases h
 exact eF [some 1,some 2,some 3,some 4]
def F55(x0:Object):Option (ByteArray):=(F75 x0.Meta).bind fun t1=>some t1
def a55:AFn:=⟨6,[(.tmp 2)],
 (.seq (.reg [sq 1 (.box (.t 0)),
sq 2 (.mv (kS ⟨#[]⟩))])
 (.seq (.reg [sq 3 (.fieldA 0 (.t 1)),
sq 4 (.load (some 13) (.t 3)),
sq 5 (.call 75 [(.t 4)]),
sq 2 (.mv (.t 5))])
 .ret))⟩
theorem a55_ok:afn Tryz.prog 55=some a55.er:=by kernel_rfl
theorem F55_ok{x0 r}(h:F55 x0=some r):CallD Tryz.prog 55 [.agg [dS x0.Meta.Kind,dS x0.Meta.Namespace,dS x0.Meta.Name,dI x0.Meta.Uid,dI x0.Meta.Version,dI x0.Meta.Generation,dI x0.Meta.Created,dB x0.Meta.Deleting,dI x0.Meta.DeleteAt,dM (x0.Meta.Labels.map eLabel),dM (x0.Meta.Owners.map eOwner),dM (x0.Meta.Finalizers.map eS),dM (x0.Meta.Managers.map eManager),dI x0.Spec.Kind,dI x0.Spec.N,dS x0.Spec.S,dM (x0.Spec.List_.map eTValue),dM (x0.Spec.Fields.map eTField),dI x0.Status.Kind,dI x0.Status.N,dS x0.Status.S,dM (x0.Status.List_.map eTValue),dM (x0.Status.Fields.map eTField)]] [] (tupV [.c (dS r)]) []:=by
 refine callS a55_ok (by simp[a55]) ?_
 rw[F55]at h
 simp only[a55,VW.down,Nat.reduceEqDiff,reduceCtorEq,Nat.reduceAdd,Nat.reduceLeDiff,Nat.reduceLT,Nat.reduceBEq,Nat.reduceSub,EE.down]
 obtain⟨t1,ht1,h⟩:=bi h
 refine cN [] (F75_ok ht1) trivial (ww ?_)
 cases h
 exact eF []
def F23_l1(x1:ByteArray):List Object→Nat→Option ((Int) ⊕ (Unit))
 |[],o1_0=>some (Sum.inr (()))
 |xo1::xs,o1_0=>(F55 xo1).bind fun t3=>(if t3=x1 then(some ((o1_0:Int))).map Sum.inl else F23_l1 x1 xs (o1_0+1))
def F23(x0:(List Object))(x1:ByteArray):Option (Int):=(((ck (0≤x0.length∧x0.length≤4294967290)).bind fun u5=>F23_l1 x1 x0 0:Option ((Int) ⊕ (Unit))).bind fun o1=>match o1 with|Sum.inl f=>some f|Sum.inr po1=>some ((-1)))
def a23:AFn:=⟨20,[(.tmp 4)],
 (.seq (.reg [sq 4 (.mv (kI 0))])
 (.seq (.seq (.reg [sq 5 (.mv (kI 0))])
 (.sem (.block 0 (.loop (.seq (.seq (.reg [sq 6 (.mv (.t 5)),
sq 7 (.mv (.t 0)),
sq 8 (.len (.t 7)),
sq 9 (.bin .lss (.t 6) (.t 8))])
 (.cond (.t 9)
 .skip
 (.exit 0)))
 (.seq (.block 1 (.seq (.reg [sq 12 (.mv (.t 0)),
sq 13 (.mv (.t 5)),
sq 14 (.indexA 23 (.t 12) (.t 13)),
sq 15 (.load (some 23) (.t 14)),
sq 16 (.call 55 [(.t 15)]),
sq 17 (.mv (.t 1)),
sq 18 (.bin .eql (.t 16) (.t 17))])
 (.cond (.t 18)
 (.seq (.reg [sq 19 (.mv (.t 5)),
sq 4 (.mv (.t 19))])
 .ret)
 .skip)))
 (.reg [sq 10 (.mv (.t 5)),
sq 11 (.bin .add (.t 10) (kI 1)),
sq 5 (.mv (.t 11))])))))))
 (.seq (.reg [sq 4 (.mv (kI (-1)))])
 .ret)))⟩
theorem a23_ok:afn Tryz.prog 23=some a23.er:=by kernel_rfl
theorem F23_ok{x0 x1 r}(h:F23 x0 x1=some r):CallD Tryz.prog 23 [.c (dM (x0.map eObject)),.c (dS x1)] [] (tupV [.c (dI r)]) []:=by
 refine callS a23_ok (by simp[a23]) ?_
 rw[F23]at h
 simp only[a23,VW.down,Nat.reduceEqDiff,reduceCtorEq,Nat.reduceAdd,Nat.reduceLeDiff,Nat.reduceLT,Nat.reduceBEq,Nat.reduceSub,EE.down]
 obtain⟨o1,ho,h⟩:=bi h
 refine cutS (fun s=>∃po1,o1=Sum.inr po1∧s=⟨[],[]⟩) ?_ ?_
 ·have h0o1:=h
  have h:=ho
  clear ho
  obtain⟨_,hk,h⟩:=bi h
  have hk:=ck_some hk
  refine ww ?_
  refine bL (fun j s=>∃(o1_0:Nat),(o1_0≤x0.length∧j=x0.length-o1_0)∧s=⟨[(0,.one (.c (dM (x0.map eObject)))),(1,.one (.c (dS x1))),(5,.one (.c (dI ((o1_0:Int)))))],[]⟩∧F23_l1 x1 (x0.drop o1_0) o1_0=some o1) (x0.length-0) [] ⟨0,⟨hk.1,rfl⟩,rfl,h⟩ ?_
  rintro _ _ ⟨o1_0,⟨hi,rfl⟩,rfl,h⟩
  refine ww ?_
  refine condS (fun c2=>?_) (fun c2=>?_)
  ·obtain⟨xo1,hxo1,hd⟩:=countY (show(o1_0:Int)<(x0.length:Int)from c2)
   rw[hd,F23_l1]at h
   refine ww ?_
   refine t_idxF (enc:=eObject) (xs:=x0) rfl rfl hxo1 rfl (ww ?_)
   obtain⟨t3,ht3,h⟩:=bi h
   refine cN [] (F55_ok ht3) trivial (ww ?_)
   refine condSh h (fun c4 h=>?_) (fun c4 h=>?_)
   ·refine ww ?_
    obtain⟨fh0o1,hfh0o1,rfl⟩:=Option.map_eq_some_iff.1 h
    have h:=hfh0o1.trans h0o1
    cases h
    exact eF []
   refine ww ?_
   rw[wrapN (by omega)]
   exact eL' (x0.length-(o1_0+1)) [] ⟨o1_0+1,⟨by omega,rfl⟩,rfl,h⟩ (by omega)
  rw[countN (show¬((o1_0:Int)<(x0.length:Int))from c2),F23_l1]at h
  refine ww ?_
  cases h
  exact eM [] ⟨_,rfl,rfl⟩
 rintro _ ⟨po1,rfl,rfl⟩
 clear ho
 dsimp only at h
 refine ww ?_
 cases h
 exact eF []
end Go.Proofs.YtondgcmdhkhkkaaGreat
