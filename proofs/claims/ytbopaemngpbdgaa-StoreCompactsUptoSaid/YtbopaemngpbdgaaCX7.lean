/- Each Go function as a function over typed data, and its walk. -/
import Derived.Test.YtbopaemngpbdgaaCX
import Derived.Test.YtbopaemngpbdgaaCX2
import Derived.Test.YtbopaemngpbdgaaCX3
import Derived.Test.YtbopaemngpbdgaaCX5
namespace Go.Proofs.Ytbopaemngpbdgaa
open Go Go.Fw Go.Shelf
set_option maxRecDepth 100000
set_option maxHeartbeats 4000000
set_option linter.unusedSimpArgs false
set_option linter.unusedVariables false
def F33(x0:Meta):Option (ByteArray):=(F61 x0.Kind x0.Namespace x0.Name).bind fun t1=>some t1
def a33:AFn:=⟨10,[(.tmp 2)],
 (.seq (.reg [sq 1 (.box (.t 0)),
sq 2 (.mv (kS ⟨#[]⟩))])
 (.seq (.reg [sq 3 (.fieldA 0 (.t 1)),
sq 4 (.load none (.t 3)),
sq 5 (.fieldA 1 (.t 1)),
sq 6 (.load none (.t 5)),
sq 7 (.fieldA 2 (.t 1)),
sq 8 (.load none (.t 7)),
sq 9 (.call 61 [(.t 4),(.t 6),(.t 8)]),
sq 2 (.mv (.t 9))])
 .ret))⟩
theorem a33_ok:afn Try.prog 33=some a33.er:=by kernel_rfl
theorem F33_ok{x0 r}(h:F33 x0=some r):CallD Try.prog 33 [.agg [dS x0.Kind,dS x0.Namespace,dS x0.Name,dI x0.Uid,dI x0.Version,dI x0.Generation,dI x0.Created,dB x0.Deleting,dI x0.DeleteAt,dM (x0.Labels.map eLabel),dM (x0.Owners.map eOwner),dM (x0.Finalizers.map eS),dM (x0.Managers.map eManager)]] [] (tupV [.c (dS r)]) []:=by
 refine callS a33_ok (by simp[a33]) ?_
 rw[F33]at h
 simp only[a33,VW.down,Nat.reduceEqDiff,reduceCtorEq,Nat.reduceAdd,Nat.reduceLeDiff,Nat.reduceLT,Nat.reduceBEq,Nat.reduceSub,EE.down]
 obtain⟨t1,ht1,h⟩:=bi h
 refine cN [] (F61_ok ht1) trivial (ww ?_)
 cases h
 exact eF []
def F102_l2(x0:ByteArray):Nat→Int→Option ((Bool) ⊕ (Unit))
 |0,_=>none
 |k+1,o2_0=>(if o2_0<(x0.size:Int)then(((byI x0 o2_0).bind fun y5=>(F110 y5).bind fun t6=>(if(nb t6)=true then some true else(byI x0 o2_0).bind fun y8=>some (decide (y8=47)))).bind fun o4=>(if o4=true then(some false).map Sum.inl else F102_l2 x0 k ((IntKind.i64.wrap (o2_0+1)))))else some (Sum.inr (())))
def F102(x0:ByteArray):Option (Bool):=(if 40<(x0.size:Int)then some false else((F102_l2 x0 1099511627776 0:Option ((Bool) ⊕ (Unit))).bind fun o2=>match o2 with|Sum.inl f=>some f|Sum.inr po2=>some true))
def a102:AFn:=⟨24,[(.tmp 2)],
 (.seq (.reg [sq 2 (.mv (kB false))])
 (.seq (.seq (.reg [sq 4 (.mv (.t 0)),
sq 5 (.slen (.t 4)),
sq 6 (.bin .gtr (.t 5) (kI 40))])
 (.cond (.t 6)
 (.seq (.reg [sq 2 (.mv (kB false))])
 .ret)
 .skip))
 (.seq (.seq (.reg [sq 7 (.mv (.t 0)),
sq 8 (.slen (.t 7)),
sq 9 (.mv (kI 0))])
 (.sem (.block 0 (.loop (.seq (.reg [sq 10 (.bin .lss (.t 9) (.t 8))])
 (.seq (.cond (.t 10)
 .skip
 (.exit 0))
 (.seq (.block 1 (.seq (.reg [sq 11 (.mv (.t 9)),
sq 3 (.mv (.t 11))])
 (.seq (.sem (.reg [sq 12 (.mv (.t 0)),
sq 13 (.mv (.t 3)),
sq 14 (.sidx (.t 12) (.t 13)),
sq 15 (.call 110 [(.t 14)]),
sq 16 (.not (.t 15)),
sq 17 (.mv (.t 16)),
zg 18 17 false (.mv (.t 0)),
zg 19 17 false (.mv (.t 3)),
zg 20 17 false (.sidx (.t 18) (.t 19)),
zg 21 17 false (.bin .eql (.t 20) (.k (.c (.d (.v (.int .u8 47)))))),
sq 22 (.pick (.t 17) (kB true) (.t 21))]))
 (.cond (.t 22)
 (.seq (.reg [sq 2 (.mv (kB false))])
 .ret)
 .skip))))
 (.reg [sq 23 (.bin .add (.t 9) (kI 1)),
sq 9 (.mv (.t 23))]))))))))
 (.seq (.reg [sq 2 (.mv (kB true))])
 .ret))))⟩
theorem a102_ok:afn Try.prog 102=some a102.er:=by kernel_rfl
theorem F102_ok{x0 r}(h:F102 x0=some r):CallD Try.prog 102 [.c (dS x0)] [] (tupV [.c (dB r)]) []:=by
 refine callS a102_ok (by simp[a102]) ?_
 rw[F102]at h
 simp only[a102,VW.down,Nat.reduceEqDiff,reduceCtorEq,Nat.reduceAdd,Nat.reduceLeDiff,Nat.reduceLT,Nat.reduceBEq,Nat.reduceSub,EE.down]
 refine condSh h (fun c1 h=>?_) (fun c1 h=>?_)
 ·refine ww ?_
  cases h
  exact eF []
 refine ww ?_
 obtain⟨o2,ho,h⟩:=bi h
 refine cutS (fun s=>∃po2,o2=Sum.inr po2∧s=⟨[],[]⟩) ?_ ?_
 ·have h0o2:=h
  have h:=ho
  clear ho
  refine ww ?_
  refine bL (fun j s=>∃(o2_0:Int),s=⟨[(0,.one (.c (dS x0))),(8,.one (.c (dI ((x0.size:Int))))),(9,.one (.c (dI o2_0)))],[]⟩∧F102_l2 x0 j o2_0=some o2) 1099511627776 [] ⟨0,rfl,h⟩ ?_
  rintro j _ ⟨o2_0,rfl,h⟩
  cases j with
  |zero=>cases(show(none:Option _)=some _ from h)
  |succ j=>
   rw[F102_l2]at h
   refine ww ?_
   refine condSh h (fun c3 h=>?_) (fun c3 h=>?_)
   ·refine ww ?_
    obtain⟨o4,ho,h⟩:=bi h
    refine cutS (fun s=>s=⟨[(0,.one (.c (dS x0))),(8,.one (.c (dI ((x0.size:Int))))),(9,.one (.c (dI o2_0))),(22,.one (.c (dB o4)))],[]⟩) ?_ ?_
    ·have h:=ho
     clear ho
     refine ww ?_
     obtain⟨y5,hy5,h⟩:=bi h
     refine t_sidx rfl rfl hy5 (ww ?_)
     obtain⟨t6,ht6,h⟩:=bi h
     refine cN [] (F110_ok ht6) trivial (ww ?_)
     refine guardSBh h (fun g7 h=>?_) (fun g7 h=>?_)
     ·refine ww ?_
      cases h
      exact eM [] rfl
     ·refine ww ?_
      obtain⟨y8,hy8,h⟩:=bi h
      refine t_sidx rfl rfl hy8 (ww ?_)
      cases h
      exact eM [] rfl
    ·rintro _ rfl
     clear ho
     refine ww ?_
     refine condBh h (fun c9 h=>?_) (fun c9 h=>?_)
     ·refine ww ?_
      obtain⟨fh0o2,hfh0o2,rfl⟩:=Option.map_eq_some_iff.1 h
      have h:=hfh0o2.trans h0o2
      cases h
      exact eF []
     ·refine ww ?_
      exact eL' j [] ⟨(IntKind.i64.wrap (o2_0+1)),rfl,h⟩ (Nat.lt_succ_self _)
   ·refine ww ?_
    cases h
    exact eM [] ⟨_,rfl,rfl⟩
 rintro _ ⟨po2,rfl,rfl⟩
 clear ho
 dsimp only at h
 refine ww ?_
 cases h
 exact eF []
def F85_l1:List ByteArray→Nat→(List (ByteArray×Bool))→Option ((Bool) ⊕ (Unit))
 |[],o1_1,o1_0=>some (Sum.inr (()))
 |xo1::xs,o1_1,o1_0=>(((F82 xo1).bind fun t4=>(if(nb t4)=true then some true else some (((getM xo1 o1_0).getD false)))).bind fun o3=>(if o3=true then(some false).map Sum.inl else F85_l1 xs (o1_1+1) ((putM xo1 true o1_0))))
def F85(x0:(List ByteArray)):Option (Bool):=(((ck (0≤x0.length∧x0.length≤4294967290)).bind fun u7=>F85_l1 x0 0 ([]):Option ((Bool) ⊕ (Unit))).bind fun o1=>match o1 with|Sum.inl f=>some f|Sum.inr po1=>some (decide ((x0.length:Int)≤16)))
def a85:AFn:=⟨27,[(.tmp 2)],
 (.seq (.reg [sq 2 (.mv (kB false))])
 (.seq (.reg [sq 6 (.mkmap),
sq 3 (.mv (.t 6))])
 (.seq (.seq (.reg [sq 7 (.mv (.t 0)),
sq 8 (.len (.t 7)),
sq 9 (.mv (kI 0))])
 (.sem (.block 0 (.loop (.seq (.reg [sq 10 (.bin .lss (.t 9) (.t 8))])
 (.seq (.cond (.t 10)
 .skip
 (.exit 0))
 (.seq (.block 1 (.seq (.reg [sq 11 (.indexA 1 (.t 7) (.t 9)),
sq 12 (.load none (.t 11)),
sq 5 (.mv (.t 12))])
 (.seq (.seq (.sem (.reg [sq 13 (.mv (.t 5)),
sq 14 (.call 82 [(.t 13)]),
sq 15 (.not (.t 14)),
sq 16 (.mv (.t 15)),
zg 17 16 false (.mv (.t 3)),
zg 18 16 false (.mv (.t 5)),
zg 19 16 false (.mget 1 false (.c (dB false)) (.t 17) (.t 18)),
sq 20 (.pick (.t 16) (kB true) (.t 19))]))
 (.cond (.t 20)
 (.seq (.reg [sq 2 (.mv (kB false))])
 .ret)
 .skip))
 (.reg [sq 21 (.mv (.t 3)),
sq 22 (.mv (.t 5)),
⟨none,none,.mset 1 (.t 21) (.t 22) (kB true),[],(.lone [])⟩]))))
 (.reg [sq 23 (.bin .add (.t 9) (kI 1)),
sq 9 (.mv (.t 23))]))))))))
 (.seq (.reg [sq 24 (.mv (.t 0)),
sq 25 (.len (.t 24)),
sq 26 (.bin .leq (.t 25) (kI 16)),
sq 2 (.mv (.t 26))])
 .ret))))⟩
theorem a85_ok:afn Try.prog 85=some a85.er:=by kernel_rfl
theorem F85_ok{x0 r}(h:F85 x0=some r):CallD Try.prog 85 [.c (dM (x0.map eS))] [] (tupV [.c (dB r)]) []:=by
 refine callS a85_ok (by simp[a85]) ?_
 rw[F85]at h
 simp only[a85,VW.down,Nat.reduceEqDiff,reduceCtorEq,Nat.reduceAdd,Nat.reduceLeDiff,Nat.reduceLT,Nat.reduceBEq,Nat.reduceSub,EE.down]
 refine t_mkmap1 (κ:=ByteArray) (α:=Bool) (enc:=(fun x=> .v (.bool x))) Value.string (ww ?_)
 obtain⟨o1,ho,h⟩:=bi h
 refine cutS (fun s=>∃po1,o1=Sum.inr po1∧s=⟨[(0,.one (.c (dM (x0.map eS))))],[]⟩) ?_ ?_
 ·have h0o1:=h
  have h:=ho
  clear ho
  obtain⟨_,hk,h⟩:=bi h
  have hk:=ck_some hk
  refine ww ?_
  refine bL (fun j s=>∃(o1_1:Nat) (o1_0:List (ByteArray×Bool)),(o1_1≤x0.length∧j=x0.length-o1_1)∧s=⟨[(0,.one (.c (dM (x0.map eS)))),(3,.one (.c (.mref 0))),(7,.one (.c (dM (x0.map eS)))),(8,.one (.c (dI ((x0.length:Int))))),(9,.one (.c (dI ((o1_1:Int)))))],[some (.map (eM1 Value.string (fun x=> .v (.bool x)) o1_0))]⟩∧F85_l1 (x0.drop o1_1) o1_1 o1_0=some o1) (x0.length-0) [some 0] ⟨0,[],⟨hk.1,rfl⟩,rfl,h⟩ ?_
  rintro _ _ ⟨o1_1,o1_0,⟨hi,rfl⟩,rfl,h⟩
  refine ww ?_
  refine condS (fun c2=>?_) (fun c2=>?_)
  ·obtain⟨xo1,hxo1,hd⟩:=countY (show(o1_1:Int)<(x0.length:Int)from c2)
   rw[hd,F85_l1]at h
   refine ww ?_
   refine t_idxF (enc:=eS) (xs:=x0) rfl rfl hxo1 rfl (ww ?_)
   obtain⟨o3,ho,h⟩:=bi h
   refine cutS (fun s=>s=⟨[(0,.one (.c (dM (x0.map eS)))),(3,.one (.c (.mref 0))),(5,.one (.c (dS xo1))),(7,.one (.c (dM (x0.map eS)))),(8,.one (.c (dI ((x0.length:Int))))),(9,.one (.c (dI ((o1_1:Int))))),(20,.one (.c (dB o3)))],[some (.map (eM1 Value.string (fun x=> .v (.bool x)) o1_0))]⟩) ?_ ?_
   ·have h:=ho
    clear ho
    refine ww ?_
    obtain⟨t4,ht4,h⟩:=bi h
    refine cN [] (F82_ok ht4) trivial (ww ?_)
    refine guardSBh h (fun g5 h=>?_) (fun g5 h=>?_)
    ·refine ww ?_
     cases h
     exact eM [some 0] rfl
    refine ww ?_
    refine t_mget1 (enc:=(fun x=> .v (.bool x))) (l:=o1_0) (z:=false) kkS rfl rfl rfl rfl (ww ?_)
    cases h
    exact eM [some 0] rfl
   rintro _ rfl
   clear ho
   refine ww ?_
   refine condBh h (fun c6 h=>?_) (fun c6 h=>?_)
   ·refine ww ?_
    obtain⟨fh0o1,hfh0o1,rfl⟩:=Option.map_eq_some_iff.1 h
    have h:=hfh0o1.trans h0o1
    cases h
    exact eF []
   refine ww ?_
   refine t_mset1 (enc:=(fun x=> .v (.bool x))) (l:=o1_0) (x:=true) kkS rfl rfl rfl rfl (ww ?_)
   rw[wrapN (by omega)]
   exact eL' (x0.length-(o1_1+1)) [some 0] ⟨o1_1+1,(putM xo1 true o1_0),⟨by omega,rfl⟩,rfl,h⟩ (by omega)
  rw[countN (show¬((o1_1:Int)<(x0.length:Int))from c2),F85_l1]at h
  refine ww ?_
  cases h
  exact eM [] ⟨_,rfl,rfl⟩
 rintro _ ⟨po1,rfl,rfl⟩
 clear ho
 dsimp only at h
 refine ww ?_
 cases h
 exact eF []
def F106_l2(rc33:TValue→Option ((List TValue)×(List TField))):List TValue→Nat→(List TValue)→Option ((List TValue))
 |[],o2_1,o2_0=>some o2_0
 |xo2::xs,o2_1,o2_0=>(rdI o2_0 ((o2_1:Int))).bind fun y4=>(rc33 y4).bind fun t5=>(rdI o2_0 ((o2_1:Int))).bind fun y6=>F106_l2 rc33 xs (o2_1+1) ((o2_0.set ((o2_1:Int)).toNat ((⟨y4.Kind,y4.N,y4.S,t5.1,t5.2⟩:TValue))))
def F106_l9(rc33:TValue→Option ((List TValue)×(List TField))):List TField→Nat→(List TField)→Option ((List TField))
 |[],o9_1,o9_0=>some o9_0
 |xo9::xs,o9_1,o9_0=>(rdI o9_0 ((o9_1:Int))).bind fun y11=>(rc33 y11.V).bind fun t12=>(rdI o9_0 ((o9_1:Int))).bind fun y13=>F106_l9 rc33 xs (o9_1+1) ((o9_0.set ((o9_1:Int)).toNat ((⟨y13.Name,(⟨y11.V.Kind,y11.V.N,y11.V.S,t12.1,t12.2⟩:TValue)⟩:TField))))
def F106(rc33:TValue→Option ((List TValue)×(List TField)))(x0:TValue):Option ((List TValue)×(List TField)):=(cloneI x0.List_).bind fun t1=>(((ck (0≤t1.length∧t1.length≤4294967290)).bind fun u7=>F106_l2 rc33 t1 0 t1).bind fun o2=>(cloneI x0.Fields).bind fun t8=>(((ck (0≤t8.length∧t8.length≤4294967290)).bind fun u14=>F106_l9 rc33 t8 0 t8).bind fun o9=>some ((o2,o9))))
def a106:AFn:=⟨48,[(.cell 2 (some 5))],
 (.seq (.reg [sq 1 (.box (.t 0)),
sq 2 (.zbox [dI 0,dI 0,dS ⟨#[]⟩,dN,dN])])
 (.seq (.reg [sq 7 (.fieldA 3 (.t 1)),
sq 8 (.load none (.t 7)),
sq 9 (.call 112 [(.t 8)]),
sq 10 (.fieldA 3 (.t 1)),
su (.store 1 (.t 10) (.t 9))])
 (.seq (.seq (.reg [sq 11 (.fieldA 3 (.t 1)),
sq 12 (.load none (.t 11)),
sq 13 (.len (.t 12)),
sq 14 (.mv (kI 0))])
 (.sem (.block 0 (.loop (.seq (.reg [sq 15 (.bin .lss (.t 14) (.t 13))])
 (.seq (.cond (.t 15)
 .skip
 (.exit 0))
 (.seq (.block 1 (.seq (.reg [sq 16 (.mv (.t 14)),
sq 17 (.indexA 5 (.t 12) (.t 14)),
sq 18 (.load (some 5) (.t 17)),
sq 4 (.zbox [dI 0,dI 0,dS ⟨#[]⟩,dN,dN]),
sq 3 (.mv (.t 16)),
su (.store 5 (.t 4) (.t 18))])
 (.regd [sq 19 (.fieldA 3 (.t 1)),
sd 20 (.load none (.t 19)) [0],
sq 21 (.mv (.t 3)),
sq 22 (.load (some 5) (.t 4)),
zl 23 (.call 106 [(.t 22)]) [3] [1,19],
sd 24 (.indexA 5 (.t 20) (.t 21)) [0,1,2,3,4],
⟨none,none,.store 5 (.t 24) (.t 23),[0,1,2,3,4,5],(.lone [])⟩])))
 (.reg [sq 25 (.bin .add (.t 14) (kI 1)),
sq 14 (.mv (.t 25))]))))))))
 (.seq (.reg [sq 26 (.fieldA 4 (.t 1)),
sq 27 (.load none (.t 26)),
sq 28 (.call 113 [(.t 27)]),
sq 29 (.fieldA 4 (.t 1)),
su (.store 1 (.t 29) (.t 28))])
 (.seq (.seq (.reg [sq 30 (.fieldA 4 (.t 1)),
sq 31 (.load none (.t 30)),
sq 32 (.len (.t 31)),
sq 33 (.mv (kI 0))])
 (.sem (.block 2 (.loop (.seq (.reg [sq 34 (.bin .lss (.t 33) (.t 32))])
 (.seq (.cond (.t 34)
 .skip
 (.exit 2))
 (.seq (.block 3 (.seq (.reg [sq 35 (.mv (.t 33)),
sq 36 (.indexA 6 (.t 31) (.t 33)),
sq 37 (.load (some 6) (.t 36)),
sq 6 (.zbox [dS ⟨#[]⟩,dI 0,dI 0,dS ⟨#[]⟩,dN,dN]),
sq 5 (.mv (.t 35)),
su (.store 6 (.t 6) (.t 37))])
 (.regd [sq 38 (.fieldA 4 (.t 1)),
sd 39 (.load none (.t 38)) [0],
sq 40 (.mv (.t 5)),
sq 41 (.fieldA 1 (.t 6)),
sd 42 (.load (some 5) (.t 41)) [3],
zl 43 (.call 106 [(.t 42)]) [3,4] [1,38],
sd 44 (.indexA 6 (.t 39) (.t 40)) [0,1,2,3,4,5],
sd 45 (.fieldA 1 (.t 44)) [0,1,2,3,4,5,6],
⟨none,none,.store 5 (.t 45) (.t 43),[0,1,2,3,4,5,6,7],(.lone [])⟩])))
 (.reg [sq 46 (.bin .add (.t 33) (kI 1)),
sq 33 (.mv (.t 46))]))))))))
 (.seq (.reg [sq 47 (.load (some 5) (.t 1)),
⟨none,none,.store 5 (.t 2) (.t 47),[],(.lone [1])⟩])
 .ret))))))⟩
theorem a106_ok:afn Try.prog 106=some a106.er:=by kernel_rfl
theorem F106_ok{rc33:TValue→Option ((List TValue)×(List TField))}(ih33:∀{x0:TValue} {r:(List TValue)×(List TField)} (h:rc33 x0=some r),CallD Try.prog 106 [.agg [dI x0.Kind,dI x0.N,dS x0.S,dM (x0.List_.map eTValue),dM (x0.Fields.map eTField)]] [] (tupV [.agg [dI x0.Kind,dI x0.N,dS x0.S,.own 0 0 0 (r.1.length) none,.own 1 0 0 (r.2.length) none]]) [some (.arr 0 5 (r.1.map eTValue)),some (.arr 0 6 (r.2.map eTField))]){x0:TValue}{r:(List TValue)×(List TField)}(h:F106 rc33 x0=some r):CallD Try.prog 106 [.agg [dI x0.Kind,dI x0.N,dS x0.S,dM (x0.List_.map eTValue),dM (x0.Fields.map eTField)]] [] (tupV [.agg [dI x0.Kind,dI x0.N,dS x0.S,.own 0 0 0 (r.1.length) none,.own 1 0 0 (r.2.length) none]]) [some (.arr 0 5 (r.1.map eTValue)),some (.arr 0 6 (r.2.map eTField))]:=by
 refine callS a106_ok (by simp[a106]) ?_
 rw[F106]at h
 simp only[a106,VW.down,Nat.reduceEqDiff,reduceCtorEq,Nat.reduceAdd,Nat.reduceLeDiff,Nat.reduceLT,Nat.reduceBEq,Nat.reduceSub,EE.down]
 obtain⟨t1,ht1,h⟩:=bi h
 refine cN [] (F112_ok ht1) trivial (ww ?_)
 obtain⟨o2,ho,h⟩:=bi h
 refine cutS (fun s=>s=⟨[(1,.one (.c (.pt 0 0))),(2,.one (.c (.pt 2 0)))],[some (.box [dI x0.Kind,dI x0.N,dS x0.S,.own 1 0 0 (o2.length) none,dM (x0.Fields.map eTField)]),some (.arr 0 5 (o2.map eTValue)),some (.box [dI 0,dI 0,dS ((⟨#[]⟩:ByteArray)),dN,dN])]⟩) ?_ ?_
 ·have h:=ho
  clear ho
  obtain⟨_,hk,h⟩:=bi h
  have hk:=ck_some hk
  refine ww ?_
  refine bL (fun j s=>∃(o2_1:Nat) (o2_0:List TValue),(o2_1≤t1.length∧j=t1.length-o2_1)∧s=⟨[(1,.one (.c (.pt 0 0))),(2,.one (.c (.pt 2 0))),(12,.one (.c (.own 1 0 0 (o2_0.length) none))),(13,.one (.c (dI ((t1.length:Int))))),(14,.one (.c (dI ((o2_1:Int)))))],[some (.box [dI x0.Kind,dI x0.N,dS x0.S,.own 1 0 0 (o2_0.length) none,dM (x0.Fields.map eTField)]),some (.arr 0 5 (o2_0.map eTValue)),some (.box [dI 0,dI 0,dS ((⟨#[]⟩:ByteArray)),dN,dN])]⟩∧F106_l2 rc33 (t1.drop o2_1) o2_1 o2_0=some o2) (t1.length-0) [some 0,some 2,some 1] ⟨0,t1,⟨hk.1,rfl⟩,rfl,h⟩ ?_
  rintro _ _ ⟨o2_1,o2_0,⟨hi,rfl⟩,rfl,h⟩
  refine ww ?_
  refine condS (fun c3=>?_) (fun c3=>?_)
  ·obtain⟨xo2,hxo2,hd⟩:=countY (show(o2_1:Int)<(t1.length:Int)from c3)
   rw[hd,F106_l2]at h
   refine ww ?_
   obtain⟨y4,hy4,h⟩:=bi h
   refine t_idxO (enc:=eTValue) (xs:=o2_0) rfl rfl rfl (by first|rfl|simp only[List.length_set]|exact(clrL_len (slI_len (by assumption))).symm) hy4 (ww ?_)
   refine LdRow.rd (rdI_some hy4).2.1 (ww ?_)
   obtain⟨t5,ht5,h⟩:=bi h
   refine cN [] (ih33 ht5) trivial (ww ?_)
   obtain⟨y6,hy6,h⟩:=bi h
   refine t_idxO (enc:=eTValue) (xs:=o2_0) rfl rfl rfl (by first|rfl|simp only[List.length_set]|exact(clrL_len (slI_len (by assumption))).symm) hy6 (ww ?_)
   refine StRow.rd (y':=(⟨y4.Kind,y4.N,y4.S,t5.1,t5.2⟩:TValue)) (rdI_some hy6).2.1 (by simp[EE.down]) (by first|rfl|(simp only[bor_full'];rfl)|(simp only[eTValue_u,bor_full'];rfl)) (ww ?_)
   rw[wrapN (by omega)]
   exact eL' (t1.length-(o2_1+1)) [some 0,some 1,some 2] ⟨o2_1+1,(o2_0.set ((o2_1:Int)).toNat ((⟨y4.Kind,y4.N,y4.S,t5.1,t5.2⟩:TValue))),⟨by omega,rfl⟩,rfl,h⟩ (by omega)
  rw[countN (show¬((o2_1:Int)<(t1.length:Int))from c3),F106_l2]at h
  refine ww ?_
  cases h
  exact eM [some 0,some 1,some 2] rfl
 rintro _ rfl
 clear ho
 refine ww ?_
 obtain⟨t8,ht8,h⟩:=bi h
 refine cN [] (F113_ok ht8) trivial (ww ?_)
 obtain⟨o9,ho,h⟩:=bi h
 refine cutS (fun s=>s=⟨[(1,.one (.c (.pt 0 0))),(2,.one (.c (.pt 3 0)))],[some (.box [dI x0.Kind,dI x0.N,dS x0.S,.own 1 0 0 (o2.length) none,.own 2 0 0 (o9.length) none]),some (.arr 0 5 (o2.map eTValue)),some (.arr 0 6 (o9.map eTField)),some (.box [dI 0,dI 0,dS ((⟨#[]⟩:ByteArray)),dN,dN])]⟩) ?_ ?_
 ·have h:=ho
  clear ho
  obtain⟨_,hk,h⟩:=bi h
  have hk:=ck_some hk
  refine ww ?_
  refine bL (fun j s=>∃(o9_1:Nat) (o9_0:List TField),(o9_1≤t8.length∧j=t8.length-o9_1)∧s=⟨[(1,.one (.c (.pt 0 0))),(2,.one (.c (.pt 3 0))),(31,.one (.c (.own 2 0 0 (o9_0.length) none))),(32,.one (.c (dI ((t8.length:Int))))),(33,.one (.c (dI ((o9_1:Int)))))],[some (.box [dI x0.Kind,dI x0.N,dS x0.S,.own 1 0 0 (o2.length) none,.own 2 0 0 (o9_0.length) none]),some (.arr 0 5 (o2.map eTValue)),some (.arr 0 6 (o9_0.map eTField)),some (.box [dI 0,dI 0,dS ((⟨#[]⟩:ByteArray)),dN,dN])]⟩∧F106_l9 rc33 (t8.drop o9_1) o9_1 o9_0=some o9) (t8.length-0) [some 0,some 1,some 3,some 2] ⟨0,t8,⟨hk.1,rfl⟩,rfl,h⟩ ?_
  rintro _ _ ⟨o9_1,o9_0,⟨hi,rfl⟩,rfl,h⟩
  refine ww ?_
  refine condS (fun c10=>?_) (fun c10=>?_)
  ·obtain⟨xo9,hxo9,hd⟩:=countY (show(o9_1:Int)<(t8.length:Int)from c10)
   rw[hd,F106_l9]at h
   refine ww ?_
   obtain⟨y11,hy11,h⟩:=bi h
   refine t_idxO (enc:=eTField) (xs:=o9_0) rfl rfl rfl (by first|rfl|simp only[List.length_set]|exact(clrL_len (slI_len (by assumption))).symm) hy11 (ww ?_)
   refine LdRow.rd (rdI_some hy11).2.1 (ww ?_)
   obtain⟨t12,ht12,h⟩:=bi h
   refine cN [] (ih33 ht12) trivial (ww ?_)
   obtain⟨y13,hy13,h⟩:=bi h
   refine t_idxO (enc:=eTField) (xs:=o9_0) rfl rfl rfl (by first|rfl|simp only[List.length_set]|exact(clrL_len (slI_len (by assumption))).symm) hy13 (ww ?_)
   refine StRow.rd (y':=(⟨y13.Name,(⟨y11.V.Kind,y11.V.N,y11.V.S,t12.1,t12.2⟩:TValue)⟩:TField)) (rdI_some hy13).2.1 (by simp[EE.down]) (by first|rfl|(simp only[bor_full'];rfl)|(simp only[eTField_u,bor_full'];rfl)) (ww ?_)
   rw[wrapN (by omega)]
   exact eL' (t8.length-(o9_1+1)) [some 0,some 1,some 2,some 3] ⟨o9_1+1,(o9_0.set ((o9_1:Int)).toNat ((⟨y13.Name,(⟨y11.V.Kind,y11.V.N,y11.V.S,t12.1,t12.2⟩:TValue)⟩:TField))),⟨by omega,rfl⟩,rfl,h⟩ (by omega)
  rw[countN (show¬((o9_1:Int)<(t8.length:Int))from c10),F106_l9]at h
  refine ww ?_
  cases h
  exact eM [some 0,some 1,some 2,some 3] rfl
 rintro _ rfl
 clear ho
 refine ww ?_
 cases h
 exact eF [some 1,some 2]
def F106k:Nat→TValue→Option ((List TValue)×(List TField))
 |0=>fun _=>none
 |k+1=>F106 (F106k k)
theorem F106k_ok(k:Nat){x0:TValue}{r:(List TValue)×(List TField)}(h:F106k k x0=some r):CallD Try.prog 106 [.agg [dI x0.Kind,dI x0.N,dS x0.S,dM (x0.List_.map eTValue),dM (x0.Fields.map eTField)]] [] (tupV [.agg [dI x0.Kind,dI x0.N,dS x0.S,.own 0 0 0 (r.1.length) none,.own 1 0 0 (r.2.length) none]]) [some (.arr 0 5 (r.1.map eTValue)),some (.arr 0 6 (r.2.map eTField))]:=by
 induction k generalizing x0 r with
 |zero=>cases(show(none:Option ((List TValue)×(List TField)))=some _ from h)
 |succ k ih=>exact F106_ok (fun h=>ih h) h
end Go.Proofs.Ytbopaemngpbdgaa
