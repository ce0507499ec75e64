/- Each Go function as a function over typed data, and its walk. -/
import Derived.Test.YtondgcmdhkhkkaaGreatAX
import Derived.Test.YtondgcmdhkhkkaaGreatAX2
import Derived.Test.YtondgcmdhkhkkaaGreatAX4
import Derived.Test.YtondgcmdhkhkkaaGreatAX5
namespace Go.Proofs.YtondgcmdhkhkkaaGreat
open Go Go.Fw Go.Shelf
set_option maxRecDepth 100000
set_option maxHeartbeats 4000000
set_option linter.unusedSimpArgs false
set_option linter.unusedVariables false
def F89_l2(x0:ByteArray):Nat→Int→Option ((Bool) ⊕ (Unit))
 |0,_=>none
 |k+1,o2_0=>(if o2_0<(x0.size:Int)then(((byI x0 o2_0).bind fun y5=>(F113 y5).bind fun t6=>(if(nb t6)=true then some true else(byI x0 o2_0).bind fun y8=>some (decide (y8=47)))).bind fun o4=>(if o4=true then(some false).map Sum.inl else F89_l2 x0 k ((IntKind.i64.wrap (o2_0+1)))))else some (Sum.inr (())))
def F89(x0:ByteArray):Option (Bool):=(if 40<(x0.size:Int)then some false else((F89_l2 x0 1099511627776 0:Option ((Bool) ⊕ (Unit))).bind fun o2=>match o2 with|Sum.inl f=>some f|Sum.inr po2=>some true))
def a89:AFn:=⟨24,[(.tmp 2)],
 (.seq (.reg [sq 2 (.mv (kB false))])
 (.seq (.seq (.reg [sq 4 (.mv (.t 0)),
sq 5 (.slen (.t 4)),
sq 6 (.bin .gtr (.t 5) (kI 40))])
 (.cond (.t 6)
 (.seq (.reg [sq 2 (.mv (kB false))])
 .ret)
 .skip))
 (.seq (.seq (.reg [sq 7 (.mv (.t 0)),
sq 8 (.slen (.t 7)),
sq 9 (.mv (kI 0))])
 (.sem (.block 0 (.loop (.seq (.reg [sq 10 (.bin .lss (.t 9) (.t 8))])
 (.seq (.cond (.t 10)
 .skip
 (.exit 0))
 (.seq (.block 1 (.seq (.reg [sq 11 (.mv (.t 9)),
sq 3 (.mv (.t 11))])
 (.seq (.sem (.reg [sq 12 (.mv (.t 0)),
sq 13 (.mv (.t 3)),
sq 14 (.sidx (.t 12) (.t 13)),
sq 15 (.call 113 [(.t 14)]),
sq 16 (.not (.t 15)),
sq 17 (.mv (.t 16)),
zg 18 17 false (.mv (.t 0)),
zg 19 17 false (.mv (.t 3)),
zg 20 17 false (.sidx (.t 18) (.t 19)),
zg 21 17 false (.bin .eql (.t 20) (.k (.c (.d (.v (.int .u8 47)))))),
sq 22 (.pick (.t 17) (kB true) (.t 21))]))
 (.cond (.t 22)
 (.seq (.reg [sq 2 (.mv (kB false))])
 .ret)
 .skip))))
 (.reg [sq 23 (.bin .add (.t 9) (kI 1)),
sq 9 (.mv (.t 23))]))))))))
 (.seq (.reg [sq 2 (.mv (kB true))])
 .ret))))⟩
theorem a89_ok:afn Tryz.prog 89=some a89.er:=by kernel_rfl
theorem F89_ok{x0 r}(h:F89 x0=some r):CallD Tryz.prog 89 [.c (dS x0)] [] (tupV [.c (dB r)]) []:=by
 refine callS a89_ok (by simp[a89]) ?_
 rw[F89]at h
 simp only[a89,VW.down,Nat.reduceEqDiff,reduceCtorEq,Nat.reduceAdd,Nat.reduceLeDiff,Nat.reduceLT,Nat.reduceBEq,Nat.reduceSub,EE.down]
 refine condSh h (fun c1 h=>?_) (fun c1 h=>?_)
 ·refine ww ?_
  cases h
  exact eF []
 refine ww ?_
 obtain⟨o2,ho,h⟩:=bi h
 refine cutS (fun s=>∃po2,o2=Sum.inr po2∧s=⟨[],[]⟩) ?_ ?_
 ·have h0o2:=h
  have h:=ho
  clear ho
  refine ww ?_
  refine bL (fun j s=>∃(o2_0:Int),s=⟨[(0,.one (.c (dS x0))),(8,.one (.c (dI ((x0.size:Int))))),(9,.one (.c (dI o2_0)))],[]⟩∧F89_l2 x0 j o2_0=some o2) 1099511627776 [] ⟨0,rfl,h⟩ ?_
  rintro j _ ⟨o2_0,rfl,h⟩
  cases j with
  |zero=>cases(show(none:Option _)=some _ from h)
  |succ j=>
   rw[F89_l2]at h
   refine ww ?_
   refine condSh h (fun c3 h=>?_) (fun c3 h=>?_)
   ·refine ww ?_
    obtain⟨o4,ho,h⟩:=bi h
    refine cutS (fun s=>s=⟨[(0,.one (.c (dS x0))),(8,.one (.c (dI ((x0.size:Int))))),(9,.one (.c (dI o2_0))),(22,.one (.c (dB o4)))],[]⟩) ?_ ?_
    ·have h:=ho
     clear ho
     refine ww ?_
     obtain⟨y5,hy5,h⟩:=bi h
     refine t_sidx rfl rfl hy5 (ww ?_)
     obtain⟨t6,ht6,h⟩:=bi h
     refine cN [] (F113_ok ht6) trivial (ww ?_)
     refine guardSBh h (fun g7 h=>?_) (fun g7 h=>?_)
     ·refine ww ?_
      cases h
      exact eM [] rfl
     ·refine ww ?_
      obtain⟨y8,hy8,h⟩:=bi h
      refine t_sidx rfl rfl hy8 (ww ?_)
      cases h
      exact eM [] rfl
    ·rintro _ rfl
     clear ho
     refine ww ?_
     refine condBh h (fun c9 h=>?_) (fun c9 h=>?_)
     ·refine ww ?_
      obtain⟨fh0o2,hfh0o2,rfl⟩:=Option.map_eq_some_iff.1 h
      have h:=hfh0o2.trans h0o2
      cases h
      exact eF []
     ·refine ww ?_
      exact eL' j [] ⟨(IntKind.i64.wrap (o2_0+1)),rfl,h⟩ (Nat.lt_succ_self _)
   ·refine ww ?_
    cases h
    exact eM [] ⟨_,rfl,rfl⟩
 rintro _ ⟨po2,rfl,rfl⟩
 clear ho
 dsimp only at h
 refine ww ?_
 cases h
 exact eF []
def F134_l1:List Owner→Nat→(List (Int×Bool))→Int→Option ((Bool) ⊕ (Int))
 |[],o1_2,o1_0,o1_1=>some (Sum.inr o1_1)
 |xo1::xs,o1_2,o1_0,o1_1=>(((((F130 xo1.Kind).bind fun t5=>(if(nb t5)=true then some true else(F132 xo1.Name).bind fun t7=>(if(nb t7)=true then some true else(if xo1.Uid≤0 then some true else some (((getM xo1.Uid o1_0).getD false)))))).bind fun o4=>(if o4=true then((some false).map Sum.inl).map Sum.inl else(if xo1.Controller=true then some (Sum.inr ((IntKind.i64.wrap (o1_1+1))))else some (Sum.inr o1_1)))):Option (((Bool) ⊕ (Int)) ⊕ (Int))).bind fun o3=>match o3 with|Sum.inl f=>some f|Sum.inr po3=>F134_l1 xs (o1_2+1) ((putM xo1.Uid true o1_0)) po3)
def F134(x0:(List Owner)):Option (Bool):=(((ck (0≤x0.length∧x0.length≤4294967290)).bind fun u12=>F134_l1 x0 0 ([]) 0:Option ((Bool) ⊕ (Int))).bind fun o1=>match o1 with|Sum.inl f=>some f|Sum.inr po1=>(((if(x0.length:Int)≤16 then some (decide (po1≤1))else some false)).bind fun o13=>some o13))
def a134:AFn:=⟨50,[(.tmp 2)],
 (.seq (.reg [sq 2 (.mv (kB false))])
 (.seq (.reg [sq 7 (.mkmap),
sq 3 (.mv (.t 7))])
 (.seq (.reg [sq 4 (.mv (kI 0))])
 (.seq (.seq (.reg [sq 8 (.mv (.t 0)),
sq 9 (.len (.t 8)),
sq 10 (.mv (kI 0))])
 (.sem (.block 0 (.loop (.seq (.reg [sq 11 (.bin .lss (.t 10) (.t 9))])
 (.seq (.cond (.t 11)
 .skip
 (.exit 0))
 (.seq (.sem (.block 1 (.seq (.reg [sq 12 (.indexA 5 (.t 8) (.t 10)),
sq 13 (.load (some 5) (.t 12)),
sq 6 (.zbox [dS ⟨#[]⟩,dS ⟨#[]⟩,dI 0,dB false,dB false]),
su (.store 5 (.t 6) (.t 13))])
 (.seq (.seq (.sem (.reg [sq 14 (.fieldA 0 (.t 6)),
sq 15 (.load none (.t 14)),
sq 16 (.call 130 [(.t 15)]),
sq 17 (.not (.t 16)),
sq 18 (.mv (.t 17)),
zg 19 18 false (.fieldA 1 (.t 6)),
zg 20 18 false (.load none (.t 19)),
zg 21 18 false (.call 132 [(.t 20)]),
zg 22 18 false (.not (.t 21)),
sq 23 (.pick (.t 18) (kB true) (.t 22)),
sq 24 (.mv (.t 23)),
zg 25 24 false (.fieldA 2 (.t 6)),
zg 26 24 false (.load none (.t 25)),
zg 27 24 false (.bin .leq (.t 26) (kI 0)),
sq 28 (.pick (.t 24) (kB true) (.t 27)),
sq 29 (.mv (.t 28)),
zg 30 29 false (.mv (.t 3)),
zg 31 29 false (.fieldA 2 (.t 6)),
zg 32 29 false (.load none (.t 31)),
zg 33 29 false (.mget 0 false (.c (dB false)) (.t 30) (.t 32)),
sq 34 (.pick (.t 29) (kB true) (.t 33))]))
 (.cond (.t 34)
 (.seq (.reg [sq 2 (.mv (kB false))])
 .ret)
 .skip))
 (.seq (.reg [sq 35 (.mv (.t 3)),
sq 36 (.fieldA 2 (.t 6)),
sq 37 (.load none (.t 36)),
⟨none,none,.mset 0 (.t 35) (.t 37) (kB true),[],(.lone [6,36])⟩])
 (.seq (.reg [sq 38 (.fieldA 3 (.t 6)),
sq 39 (.load none (.t 38))])
 (.cond (.t 39)
 (.reg [sq 40 (.mv (.t 4)),
sq 41 (.bin .add (.t 40) (kI 1)),
sq 4 (.mv (.t 41))])
 .skip)))))))
 (.reg [sq 42 (.bin .add (.t 10) (kI 1)),
sq 10 (.mv (.t 42))]))))))))
 (.seq (.sem (.reg [sq 43 (.mv (.t 0)),
sq 44 (.len (.t 43)),
sq 45 (.bin .leq (.t 44) (kI 16)),
sq 46 (.mv (.t 45)),
zg 47 46 true (.mv (.t 4)),
zg 48 46 true (.bin .leq (.t 47) (kI 1)),
sq 49 (.pick (.t 46) (.t 48) (kB false)),
sq 2 (.mv (.t 49))]))
 .ret)))))⟩
theorem a134_ok:afn Tryz.prog 134=some a134.er:=by kernel_rfl
theorem F134_ok{x0 r}(h:F134 x0=some r):CallD Tryz.prog 134 [.c (dM (x0.map eOwner))] [] (tupV [.c (dB r)]) []:=by
 refine callS a134_ok (by simp[a134]) ?_
 rw[F134]at h
 simp only[a134,VW.down,Nat.reduceEqDiff,reduceCtorEq,Nat.reduceAdd,Nat.reduceLeDiff,Nat.reduceLT,Nat.reduceBEq,Nat.reduceSub,EE.down]
 refine t_mkmap1 (κ:=Int) (α:=Bool) (enc:=(fun x=> .v (.bool x))) (Value.int .i64) (ww ?_)
 obtain⟨o1,ho,h⟩:=bi h
 refine cutS (fun s=>∃po1,o1=Sum.inr po1∧s=⟨[(0,.one (.c (dM (x0.map eOwner)))),(4,.one (.c (dI po1)))],[]⟩) ?_ ?_
 ·have h0o1:=h
  have h:=ho
  clear ho
  obtain⟨_,hk,h⟩:=bi h
  have hk:=ck_some hk
  refine ww ?_
  refine bL (fun j s=>∃(o1_2:Nat) (o1_0:List (Int×Bool)) (o1_1:Int),(o1_2≤x0.length∧j=x0.length-o1_2)∧s=⟨[(0,.one (.c (dM (x0.map eOwner)))),(3,.one (.c (.mref 0))),(4,.one (.c (dI o1_1))),(8,.one (.c (dM (x0.map eOwner)))),(9,.one (.c (dI ((x0.length:Int))))),(10,.one (.c (dI ((o1_2:Int)))))],[some (.map (eM1 (Value.int .i64) (fun x=> .v (.bool x)) o1_0))]⟩∧F134_l1 (x0.drop o1_2) o1_2 o1_0 o1_1=some o1) (x0.length-0) [some 0] ⟨0,[],0,⟨hk.1,rfl⟩,rfl,h⟩ ?_
  rintro _ _ ⟨o1_2,o1_0,o1_1,⟨hi,rfl⟩,rfl,h⟩
  refine ww ?_
  refine condS (fun c2=>?_) (fun c2=>?_)
  ·obtain⟨xo1,hxo1,hd⟩:=countY (show(o1_2:Int)<(x0.length:Int)from c2)
   rw[hd,F134_l1]at h
   refine ww ?_
   obtain⟨o3,ho,h⟩:=bi h
   refine cutS (fun s=>∃po3,o3=Sum.inr po3∧s=⟨[(0,.one (.c (dM (x0.map eOwner)))),(3,.one (.c (.mref 0))),(4,.one (.c (dI po3))),(8,.one (.c (dM (x0.map eOwner)))),(9,.one (.c (dI ((x0.length:Int))))),(10,.one (.c (dI ((o1_2:Int)))))],[some (.map (eM1 (Value.int .i64) (fun x=> .v (.bool x)) ((putM xo1.Uid true o1_0))))]⟩) ?_ ?_
   ·have h0o3:=h
    have h:=ho
    clear ho
    refine ww ?_
    refine t_idxF (enc:=eOwner) (xs:=x0) rfl rfl hxo1 rfl (ww ?_)
    obtain⟨o4,ho,h⟩:=bi h
    refine cutS (fun s=>s=⟨[(0,.one (.c (dM (x0.map eOwner)))),(3,.one (.c (.mref 0))),(4,.one (.c (dI o1_1))),(6,.one (.c (.pt 1 0))),(8,.one (.c (dM (x0.map eOwner)))),(9,.one (.c (dI ((x0.length:Int))))),(10,.one (.c (dI ((o1_2:Int))))),(34,.one (.c (dB o4)))],[some (.map (eM1 (Value.int .i64) (fun x=> .v (.bool x)) o1_0)),some (.box [dS xo1.Kind,dS xo1.Name,dI xo1.Uid,dB xo1.Controller,dB xo1.Block])]⟩) ?_ ?_
    ·have h:=ho
     clear ho
     refine ww ?_
     obtain⟨t5,ht5,h⟩:=bi h
     refine cN [] (F130_ok ht5) trivial (ww ?_)
     refine guardSBh h (fun g6 h=>?_) (fun g6 h=>?_)
     ·refine ww ?_
      cases h
      exact eM [some 0,some 1] rfl
     refine ww ?_
     obtain⟨t7,ht7,h⟩:=bi h
     refine cN [] (F132_ok ht7) trivial (ww ?_)
     refine guardSBh h (fun g8 h=>?_) (fun g8 h=>?_)
     ·refine ww ?_
      cases h
      exact eM [some 0,some 1] rfl
     refine ww ?_
     refine guardSh h (fun g9 h=>?_) (fun g9 h=>?_)
     ·refine ww ?_
      cases h
      exact eM [some 0,some 1] rfl
     refine ww ?_
     refine t_mget1 (enc:=(fun x=> .v (.bool x))) (l:=o1_0) (z:=false) kkI rfl rfl rfl rfl (ww ?_)
     cases h
     exact eM [some 0,some 1] rfl
    rintro _ rfl
    clear ho
    refine ww ?_
    refine condBh h (fun c10 h=>?_) (fun c10 h=>?_)
    ·refine ww ?_
     obtain⟨fh0o3,hfh0o3,rfl⟩:=Option.map_eq_some_iff.1 h
     have h:=hfh0o3.trans h0o3
     obtain⟨fh0o1,hfh0o1,rfl⟩:=Option.map_eq_some_iff.1 h
     have h:=hfh0o1.trans h0o1
     cases h
     exact eF []
    refine ww ?_
    refine t_mset1 (enc:=(fun x=> .v (.bool x))) (l:=o1_0) (x:=true) kkI rfl rfl rfl rfl (ww ?_)
    refine condBh h (fun c11 h=>?_) (fun c11 h=>?_)
    ·refine ww ?_
     cases h
     exact eM [some 0] ⟨_,rfl,rfl⟩
    refine ww ?_
    cases h
    exact eM [some 0] ⟨_,rfl,rfl⟩
   rintro _ ⟨po3,rfl,rfl⟩
   clear ho
   dsimp only at h
   refine ww ?_
   rw[wrapN (by omega)]
   exact eL' (x0.length-(o1_2+1)) [some 0] ⟨o1_2+1,(putM xo1.Uid true o1_0),po3,⟨by omega,rfl⟩,rfl,h⟩ (by omega)
  rw[countN (show¬((o1_2:Int)<(x0.length:Int))from c2),F134_l1]at h
  refine ww ?_
  cases h
  exact eM [] ⟨_,rfl,rfl⟩
 rintro _ ⟨po1,rfl,rfl⟩
 clear ho
 dsimp only at h
 refine ww ?_
 obtain⟨o13,ho,h⟩:=bi h
 refine cutS (fun s=>s=⟨[(2,.one (.c (dB o13)))],[]⟩) ?_ ?_
 ·have h:=ho
  clear ho
  refine ww ?_
  refine guardSh h (fun g14 h=>?_) (fun g14 h=>?_)
  ·refine ww ?_
   cases h
   exact eM [] rfl
  refine ww ?_
  cases h
  exact eM [] rfl
 rintro _ rfl
 clear ho
 refine ww ?_
 cases h
 exact eF []
def F135_l1:List ByteArray→Nat→(List (ByteArray×Bool))→Option ((Bool) ⊕ (Unit))
 |[],o1_1,o1_0=>some (Sum.inr (()))
 |xo1::xs,o1_1,o1_0=>(((F132 xo1).bind fun t4=>(if(nb t4)=true then some true else some (((getM xo1 o1_0).getD false)))).bind fun o3=>(if o3=true then(some false).map Sum.inl else F135_l1 xs (o1_1+1) ((putM xo1 true o1_0))))
def F135(x0:(List ByteArray)):Option (Bool):=(((ck (0≤x0.length∧x0.length≤4294967290)).bind fun u7=>F135_l1 x0 0 ([]):Option ((Bool) ⊕ (Unit))).bind fun o1=>match o1 with|Sum.inl f=>some f|Sum.inr po1=>some (decide ((x0.length:Int)≤16)))
def a135:AFn:=⟨27,[(.tmp 2)],
 (.seq (.reg [sq 2 (.mv (kB false))])
 (.seq (.reg [sq 6 (.mkmap),
sq 3 (.mv (.t 6))])
 (.seq (.seq (.reg [sq 7 (.mv (.t 0)),
sq 8 (.len (.t 7)),
sq 9 (.mv (kI 0))])
 (.sem (.block 0 (.loop (.seq (.reg [sq 10 (.bin .lss (.t 9) (.t 8))])
 (.seq (.cond (.t 10)
 .skip
 (.exit 0))
 (.seq (.block 1 (.seq (.reg [sq 11 (.indexA 1 (.t 7) (.t 9)),
sq 12 (.load none (.t 11)),
sq 5 (.mv (.t 12))])
 (.seq (.seq (.sem (.reg [sq 13 (.mv (.t 5)),
sq 14 (.call 132 [(.t 13)]),
sq 15 (.not (.t 14)),
sq 16 (.mv (.t 15)),
zg 17 16 false (.mv (.t 3)),
zg 18 16 false (.mv (.t 5)),
zg 19 16 false (.mget 1 false (.c (dB false)) (.t 17) (.t 18)),
sq 20 (.pick (.t 16) (kB true) (.t 19))]))
 (.cond (.t 20)
 (.seq (.reg [sq 2 (.mv (kB false))])
 .ret)
 .skip))
 (.reg [sq 21 (.mv (.t 3)),
sq 22 (.mv (.t 5)),
⟨none,none,.mset 1 (.t 21) (.t 22) (kB true),[],(.lone [])⟩]))))
 (.reg [sq 23 (.bin .add (.t 9) (kI 1)),
sq 9 (.mv (.t 23))]))))))))
 (.seq (.reg [sq 24 (.mv (.t 0)),
sq 25 (.len (.t 24)),
sq 26 (.bin .leq (.t 25) (kI 16)),
sq 2 (.mv (.t 26))])
 .ret))))⟩
theorem a135_ok:afn Tryz.prog 135=some a135.er:=by kernel_rfl
theorem F135_ok{x0 r}(h:F135 x0=some r):CallD Tryz.prog 135 [.c (dM (x0.map eS))] [] (tupV [.c (dB r)]) []:=by
 refine callS a135_ok (by simp[a135]) ?_
 rw[F135]at h
 simp only[a135,VW.down,Nat.reduceEqDiff,reduceCtorEq,Nat.reduceAdd,Nat.reduceLeDiff,Nat.reduceLT,Nat.reduceBEq,Nat.reduceSub,EE.down]
 refine t_mkmap1 (κ:=ByteArray) (α:=Bool) (enc:=(fun x=> .v (.bool x))) Value.string (ww ?_)
 obtain⟨o1,ho,h⟩:=bi h
 refine cutS (fun s=>∃po1,o1=Sum.inr po1∧s=⟨[(0,.one (.c (dM (x0.map eS))))],[]⟩) ?_ ?_
 ·have h0o1:=h
  have h:=ho
  clear ho
  obtain⟨_,hk,h⟩:=bi h
  have hk:=ck_some hk
  refine ww ?_
  refine bL (fun j s=>∃(o1_1:Nat) (o1_0:List (ByteArray×Bool)),(o1_1≤x0.length∧j=x0.length-o1_1)∧s=⟨[(0,.one (.c (dM (x0.map eS)))),(3,.one (.c (.mref 0))),(7,.one (.c (dM (x0.map eS)))),(8,.one (.c (dI ((x0.length:Int))))),(9,.one (.c (dI ((o1_1:Int)))))],[some (.map (eM1 Value.string (fun x=> .v (.bool x)) o1_0))]⟩∧F135_l1 (x0.drop o1_1) o1_1 o1_0=some o1) (x0.length-0) [some 0] ⟨0,[],⟨hk.1,rfl⟩,rfl,h⟩ ?_
  rintro _ _ ⟨o1_1,o1_0,⟨hi,rfl⟩,rfl,h⟩
  refine ww ?_
  refine condS (fun c2=>?_) (fun c2=>?_)
  ·obtain⟨xo1,hxo1,hd⟩:=countY (show(o1_1:Int)<(x0.length:Int)from c2)
   rw[hd,F135_l1]at h
   refine ww ?_
   refine t_idxF (enc:=eS) (xs:=x0) rfl rfl hxo1 rfl (ww ?_)
   obtain⟨o3,ho,h⟩:=bi h
   refine cutS (fun s=>s=⟨[(0,.one (.c (dM (x0.map eS)))),(3,.one (.c (.mref 0))),(5,.one (.c (dS xo1))),(7,.one (.c (dM (x0.map eS)))),(8,.one (.c (dI ((x0.length:Int))))),(9,.one (.c (dI ((o1_1:Int))))),(20,.one (.c (dB o3)))],[some (.map (eM1 Value.string (fun x=> .v (.bool x)) o1_0))]⟩) ?_ ?_
   ·have h:=ho
    clear ho
    refine ww ?_
    obtain⟨t4,ht4,h⟩:=bi h
    refine cN [] (F132_ok ht4) trivial (ww ?_)
    refine guardSBh h (fun g5 h=>?_) (fun g5 h=>?_)
    ·refine ww ?_
     cases h
     exact eM [some 0] rfl
    refine ww ?_
    refine t_mget1 (enc:=(fun x=> .v (.bool x))) (l:=o1_0) (z:=false) kkS rfl rfl rfl rfl (ww ?_)
    cases h
    exact eM [some 0] rfl
   rintro _ rfl
   clear ho
   refine ww ?_
   refine condBh h (fun c6 h=>?_) (fun c6 h=>?_)
   ·refine ww ?_
    obtain⟨fh0o1,hfh0o1,rfl⟩:=Option.map_eq_some_iff.1 h
    have h:=hfh0o1.trans h0o1
    cases h
    exact eF []
   refine ww ?_
   refine t_mset1 (enc:=(fun x=> .v (.bool x))) (l:=o1_0) (x:=true) kkS rfl rfl rfl rfl (ww ?_)
   rw[wrapN (by omega)]
   exact eL' (x0.length-(o1_1+1)) [some 0] ⟨o1_1+1,(putM xo1 true o1_0),⟨by omega,rfl⟩,rfl,h⟩ (by omega)
  rw[countN (show¬((o1_1:Int)<(x0.length:Int))from c2),F135_l1]at h
  refine ww ?_
  cases h
  exact eM [] ⟨_,rfl,rfl⟩
 rintro _ ⟨po1,rfl,rfl⟩
 clear ho
 dsimp only at h
 refine ww ?_
 cases h
 exact eF []
def F143(x0:TValue):Option (Bool):=(if x0.Kind=1 then(((if x0.S=(⟨#[]⟩:ByteArray)then(if x0.N=0 then some true else some (decide (x0.N=1)))else some false)).bind fun o2=>some o2)else(if x0.Kind=2 then(((if x0.S=(⟨#[]⟩:ByteArray)then(if(-1000000000000000)≤x0.N then some (decide (x0.N≤1000000000000000))else some false)else some false)).bind fun o6=>some o6)else(if x0.Kind=3 then(((if x0.N=0 then(F146 x0.S).bind fun t12=>some t12 else some false)).bind fun o10=>some o10)else(((if x0.Kind=0 then some (decide (x0.Kind=0))else(if x0.Kind=4 then some (decide (x0.Kind=4))else some (decide (x0.Kind=5))))).bind fun o13=>(if o13=true then(((if x0.N=0 then some (decide (x0.S=(⟨#[]⟩:ByteArray)))else some false)).bind fun o17=>some o17)else some false)))))
def a143:AFn:=⟨57,[(.tmp 2)],
 (.seq (.reg [sq 1 (.box (.t 0)),
sq 2 (.mv (kB false))])
 (.seq (.seq (.reg [sq 3 (.fieldA 0 (.t 1)),
sq 4 (.load none (.t 3))])
 (.block 0 (.seq (.reg [sq 6 (.bin .eql (.t 4) (kI 1)),
sq 5 (.mv (.t 6))])
 (.cond (.t 5)
 (.seq (.sem (.reg [sq 7 (.fieldA 2 (.t 1)),
sq 8 (.load none (.t 7)),
sq 9 (.bin .eql (.t 8) (kS ⟨#[]⟩)),
sq 10 (.mv (.t 9)),
zg 11 10 true (.fieldA 1 (.t 1)),
zg 12 10 true (.load none (.t 11)),
zg 13 10 true (.bin .eql (.t 12) (kI 0)),
zg 14 10 true (.mv (.t 13)),
zg 15 14 false (.fieldA 1 (.t 1)),
zg 16 14 false (.load none (.t 15)),
zg 17 14 false (.bin .eql (.t 16) (kI 1)),
zg 18 10 true (.pick (.t 14) (kB true) (.t 17)),
sq 19 (.pick (.t 10) (.t 18) (kB false)),
sq 2 (.mv (.t 19))]))
 .ret)
 (.seq (.reg [sq 21 (.bin .eql (.t 4) (kI 2)),
sq 20 (.mv (.t 21))])
 (.cond (.t 20)
 (.seq (.sem (.reg [sq 22 (.fieldA 2 (.t 1)),
sq 23 (.load none (.t 22)),
sq 24 (.bin .eql (.t 23) (kS ⟨#[]⟩)),
sq 25 (.mv (.t 24)),
zg 26 25 true (.fieldA 1 (.t 1)),
zg 27 25 true (.load none (.t 26)),
zg 28 25 true (.bin .geq (.t 27) (kI (-1000000000000000))),
sq 29 (.pick (.t 25) (.t 28) (kB false)),
sq 30 (.mv (.t 29)),
zg 31 30 true (.fieldA 1 (.t 1)),
zg 32 30 true (.load none (.t 31)),
zg 33 30 true (.bin .leq (.t 32) (kI 1000000000000000)),
sq 34 (.pick (.t 30) (.t 33) (kB false)),
sq 2 (.mv (.t 34))]))
 .ret)
 (.seq (.reg [sq 36 (.bin .eql (.t 4) (kI 3)),
sq 35 (.mv (.t 36))])
 (.cond (.t 35)
 (.seq (.sem (.reg [sq 37 (.fieldA 1 (.t 1)),
sq 38 (.load none (.t 37)),
sq 39 (.bin .eql (.t 38) (kI 0)),
sq 40 (.mv (.t 39)),
zg 41 40 true (.fieldA 2 (.t 1)),
zg 42 40 true (.load none (.t 41)),
zg 43 40 true (.call 146 [(.t 42)]),
sq 44 (.pick (.t 40) (.t 43) (kB false)),
sq 2 (.mv (.t 44))]))
 .ret)
 (.seq (.sem (.seq (.reg [sq 46 (.bin .eql (.t 4) (kI 0)),
sq 45 (.mv (.t 46))])
 (.cond (.t 45)
 .skip
 (.seq (.reg [sq 47 (.bin .eql (.t 4) (kI 4)),
sq 45 (.mv (.t 47))])
 (.cond (.t 45)
 .skip
 (.reg [sq 48 (.bin .eql (.t 4) (kI 5)),
sq 45 (.mv (.t 48))]))))))
 (.cond (.t 45)
 (.seq (.sem (.reg [sq 49 (.fieldA 1 (.t 1)),
sq 50 (.load none (.t 49)),
sq 51 (.bin .eql (.t 50) (kI 0)),
sq 52 (.mv (.t 51)),
zg 53 52 true (.fieldA 2 (.t 1)),
zg 54 52 true (.load none (.t 53)),
zg 55 52 true (.bin .eql (.t 54) (kS ⟨#[]⟩)),
sq 56 (.pick (.t 52) (.t 55) (kB false)),
sq 2 (.mv (.t 56))]))
 .ret)
 .skip))))))))))
 (.seq (.reg [sq 2 (.mv (kB false))])
 .ret)))⟩
theorem a143_ok:afn Tryz.prog 143=some a143.er:=by kernel_rfl
theorem F143_ok{x0 r}(h:F143 x0=some r):CallD Tryz.prog 143 [.agg [dI x0.Kind,dI x0.N,dS x0.S,dM (x0.List_.map eTValue),dM (x0.Fields.map eTField)]] [] (tupV [.c (dB r)]) []:=by
 refine callS a143_ok (by simp[a143]) ?_
 rw[F143]at h
 simp only[a143,VW.down,Nat.reduceEqDiff,reduceCtorEq,Nat.reduceAdd,Nat.reduceLeDiff,Nat.reduceLT,Nat.reduceBEq,Nat.reduceSub,EE.down]
 refine condSh h (fun c1 h=>?_) (fun c1 h=>?_)
 ·refine ww ?_
  obtain⟨o2,ho,h⟩:=bi h
  refine cutS (fun s=>s=⟨[(2,.one (.c (dB o2)))],[]⟩) ?_ ?_
  ·have h:=ho
   clear ho
   refine ww ?_
   refine guardSh h (fun g3 h=>?_) (fun g3 h=>?_)
   ·refine ww ?_
    refine guardSh h (fun g4 h=>?_) (fun g4 h=>?_)
    ·refine ww ?_
     cases h
     exact eM [] rfl
    refine ww ?_
    cases h
    exact eM [] rfl
   refine ww ?_
   cases h
   exact eM [] rfl
  rintro _ rfl
  clear ho
  refine ww ?_
  cases h
  exact eF []
 refine ww ?_
 refine condSh h (fun c5 h=>?_) (fun c5 h=>?_)
 ·refine ww ?_
  obtain⟨o6,ho,h⟩:=bi h
  refine cutS (fun s=>s=⟨[(2,.one (.c (dB o6)))],[]⟩) ?_ ?_
  ·have h:=ho
   clear ho
   refine ww ?_
   refine guardSh h (fun g7 h=>?_) (fun g7 h=>?_)
   ·refine ww ?_
    refine guardSh h (fun g8 h=>?_) (fun g8 h=>?_)
    ·refine ww ?_
     cases h
     exact eM [] rfl
    refine ww ?_
    cases h
    exact eM [] rfl
   refine ww ?_
   cases h
   exact eM [] rfl
  rintro _ rfl
  clear ho
  refine ww ?_
  cases h
  exact eF []
 refine ww ?_
 refine condSh h (fun c9 h=>?_) (fun c9 h=>?_)
 ·refine ww ?_
  obtain⟨o10,ho,h⟩:=bi h
  refine cutS (fun s=>s=⟨[(2,.one (.c (dB o10)))],[]⟩) ?_ ?_
  ·have h:=ho
   clear ho
   refine ww ?_
   refine guardSh h (fun g11 h=>?_) (fun g11 h=>?_)
   ·refine ww ?_
    obtain⟨t12,ht12,h⟩:=bi h
    refine cN [] (F146_ok ht12) trivial (ww ?_)
    cases h
    exact eM [] rfl
   refine ww ?_
   cases h
   exact eM [] rfl
  rintro _ rfl
  clear ho
  refine ww ?_
  cases h
  exact eF []
 refine ww ?_
 obtain⟨o13,ho,h⟩:=bi h
 refine cutS (fun s=>s=⟨[(1,.one (.c (.pt 0 0))),(45,.one (.c (dB o13)))],[some (.box [dI x0.Kind,dI x0.N,dS x0.S,dM (x0.List_.map eTValue),dM (x0.Fields.map eTField)])]⟩) ?_ ?_
 ·have h:=ho
  clear ho
  refine ww ?_
  refine condSh h (fun c14 h=>?_) (fun c14 h=>?_)
  ·refine ww ?_
   cases h
   exact eM [some 0] rfl
  refine ww ?_
  refine condSh h (fun c15 h=>?_) (fun c15 h=>?_)
  ·refine ww ?_
   cases h
   exact eM [some 0] rfl
  refine ww ?_
  cases h
  exact eM [some 0] rfl
 rintro _ rfl
 clear ho
 refine ww ?_
 refine condBh h (fun c16 h=>?_) (fun c16 h=>?_)
 ·refine ww ?_
  obtain⟨o17,ho,h⟩:=bi h
  refine cutS (fun s=>s=⟨[(2,.one (.c (dB o17)))],[]⟩) ?_ ?_
  ·have h:=ho
   clear ho
   refine ww ?_
   refine guardSh h (fun g18 h=>?_) (fun g18 h=>?_)
   ·refine ww ?_
    cases h
    exact eM [] rfl
   refine ww ?_
   cases h
   exact eM [] rfl
  rintro _ rfl
  clear ho
  refine ww ?_
  cases h
  exact eF []
 refine ww ?_
 cases h
 exact eF []
def F50(x0:Manager)(x1:Manager):Option (Bool):=(((if x0.Name=x1.Name then(F49 x0.Fields x1.Fields).bind fun t3=>some t3 else some false)).bind fun o1=>some o1)
def a50:AFn:=⟨17,[(.tmp 4)],
 (.seq (.reg [sq 2 (.box (.t 0)),
sq 3 (.box (.t 1)),
sq 4 (.mv (kB false))])
 (.seq (.sem (.reg [sq 5 (.fieldA 0 (.t 2)),
sq 6 (.load none (.t 5)),
sq 7 (.fieldA 0 (.t 3)),
sq 8 (.load none (.t 7)),
sq 9 (.bin .eql (.t 6) (.t 8)),
sq 10 (.mv (.t 9)),
zg 11 10 true (.fieldA 1 (.t 2)),
zg 12 10 true (.load none (.t 11)),
zg 13 10 true (.fieldA 1 (.t 3)),
zg 14 10 true (.load none (.t 13)),
zg 15 10 true (.call 49 [(.t 12),(.t 14)]),
sq 16 (.pick (.t 10) (.t 15) (kB false)),
sq 4 (.mv (.t 16))]))
 .ret))⟩
theorem a50_ok:afn Tryz.prog 50=some a50.er:=by kernel_rfl
theorem F50_ok{x0 x1 r}(h:F50 x0 x1=some r):CallD Tryz.prog 50 [.agg [dS x0.Name,dM (x0.Fields.map eS)],.agg [dS x1.Name,dM (x1.Fields.map eS)]] [] (tupV [.c (dB r)]) []:=by
 refine callS a50_ok (by simp[a50]) ?_
 rw[F50]at h
 simp only[a50,VW.down,Nat.reduceEqDiff,reduceCtorEq,Nat.reduceAdd,Nat.reduceLeDiff,Nat.reduceLT,Nat.reduceBEq,Nat.reduceSub,EE.down]
 obtain⟨o1,ho,h⟩:=bi h
 refine cutS (fun s=>s=⟨[(4,.one (.c (dB o1)))],[]⟩) ?_ ?_
 ·have h:=ho
  clear ho
  refine ww ?_
  refine guardSh h (fun g2 h=>?_) (fun g2 h=>?_)
  ·refine ww ?_
   obtain⟨t3,ht3,h⟩:=bi h
   refine cN [] (F49_ok ht3) trivial (ww ?_)
   cases h
   exact eM [] rfl
  refine ww ?_
  cases h
  exact eM [] rfl
 rintro _ rfl
 clear ho
 refine ww ?_
 cases h
 exact eF []
def F100(x0:(List ByteArray))(x1:ByteArray):Option (Bool):=(F122 x0 x1).bind fun t1=>some (decide (0≤t1))
def a100:AFn:=⟨9,[(.tmp 4)],
 (.seq (.reg [sq 4 (.mv (kB false))])
 (.seq (.reg [sq 5 (.mv (.t 0)),
sq 6 (.mv (.t 1)),
sq 7 (.call 122 [(.t 5),(.t 6)]),
sq 8 (.bin .geq (.t 7) (kI 0)),
sq 4 (.mv (.t 8))])
 .ret))⟩
theorem a100_ok:afn Tryz.prog 100=some a100.er:=by kernel_rfl
theorem F100_ok{x0 x1 r}(h:F100 x0 x1=some r):CallD Tryz.prog 100 [.c (dM (x0.map eS)),.c (dS x1)] [] (tupV [.c (dB r)]) []:=by
 refine callS a100_ok (by simp[a100]) ?_
 rw[F100]at h
 simp only[a100,VW.down,Nat.reduceEqDiff,reduceCtorEq,Nat.reduceAdd,Nat.reduceLeDiff,Nat.reduceLT,Nat.reduceBEq,Nat.reduceSub,EE.down]
 obtain⟨t1,ht1,h⟩:=bi h
 refine cN [] (F122_ok ht1) trivial (ww ?_)
 cases h
 exact eF []
end Go.Proofs.YtondgcmdhkhkkaaGreat
