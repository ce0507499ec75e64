/- Each Go function as a function over typed data, and its walk. -/
import Derived.Test.YtbopaemngpbdgaaHX
import Derived.Test.YtbopaemngpbdgaaHX3
import Derived.Test.YtbopaemngpbdgaaHX4
import Derived.Test.YtbopaemngpbdgaaHX5
namespace Go.Proofs.Ytbopaemngpbdgaa
open Go Go.Fw Go.Shelf
set_option maxRecDepth 100000
set_option maxHeartbeats 4000000
set_option linter.unusedSimpArgs false
set_option linter.unusedVariables false
def F84_l1:List Owner→Nat→(List (Int×Bool))→Int→Option ((Bool) ⊕ (Int))
 |[],o1_2,o1_0,o1_1=>some (Sum.inr o1_1)
 |xo1::xs,o1_2,o1_0,o1_1=>(((((F80 xo1.Kind).bind fun t5=>(if(nb t5)=true then some true else(F82 xo1.Name).bind fun t7=>(if(nb t7)=true then some true else(if xo1.Uid≤0 then some true else some (((getM xo1.Uid o1_0).getD false)))))).bind fun o4=>(if o4=true then((some false).map Sum.inl).map Sum.inl else(if xo1.Controller=true then some (Sum.inr ((IntKind.i64.wrap (o1_1+1))))else some (Sum.inr o1_1)))):Option (((Bool) ⊕ (Int)) ⊕ (Int))).bind fun o3=>match o3 with|Sum.inl f=>some f|Sum.inr po3=>F84_l1 xs (o1_2+1) ((putM xo1.Uid true o1_0)) po3)
def F84(x0:(List Owner)):Option (Bool):=(((ck (0≤x0.length∧x0.length≤4294967290)).bind fun u12=>F84_l1 x0 0 ([]) 0:Option ((Bool) ⊕ (Int))).bind fun o1=>match o1 with|Sum.inl f=>some f|Sum.inr po1=>(((if(x0.length:Int)≤16 then some (decide (po1≤1))else some false)).bind fun o13=>some o13))
def a84:AFn:=⟨50,[(.tmp 2)],
 (.seq (.reg [sq 2 (.mv (kB false))])
 (.seq (.reg [sq 7 (.mkmap),
sq 3 (.mv (.t 7))])
 (.seq (.reg [sq 4 (.mv (kI 0))])
 (.seq (.seq (.reg [sq 8 (.mv (.t 0)),
sq 9 (.len (.t 8)),
sq 10 (.mv (kI 0))])
 (.sem (.block 0 (.loop (.seq (.reg [sq 11 (.bin .lss (.t 10) (.t 9))])
 (.seq (.cond (.t 11)
 .skip
 (.exit 0))
 (.seq (.sem (.block 1 (.seq (.reg [sq 12 (.indexA 5 (.t 8) (.t 10)),
sq 13 (.load (some 5) (.t 12)),
sq 6 (.zbox [dS ⟨#[]⟩,dS ⟨#[]⟩,dI 0,dB false,dB false]),
su (.store 5 (.t 6) (.t 13))])
 (.seq (.seq (.sem (.reg [sq 14 (.fieldA 0 (.t 6)),
sq 15 (.load none (.t 14)),
sq 16 (.call 80 [(.t 15)]),
sq 17 (.not (.t 16)),
sq 18 (.mv (.t 17)),
zg 19 18 false (.fieldA 1 (.t 6)),
zg 20 18 false (.load none (.t 19)),
zg 21 18 false (.call 82 [(.t 20)]),
zg 22 18 false (.not (.t 21)),
sq 23 (.pick (.t 18) (kB true) (.t 22)),
sq 24 (.mv (.t 23)),
zg 25 24 false (.fieldA 2 (.t 6)),
zg 26 24 false (.load none (.t 25)),
zg 27 24 false (.bin .leq (.t 26) (kI 0)),
sq 28 (.pick (.t 24) (kB true) (.t 27)),
sq 29 (.mv (.t 28)),
zg 30 29 false (.mv (.t 3)),
zg 31 29 false (.fieldA 2 (.t 6)),
zg 32 29 false (.load none (.t 31)),
zg 33 29 false (.mget 0 false (.c (dB false)) (.t 30) (.t 32)),
sq 34 (.pick (.t 29) (kB true) (.t 33))]))
 (.cond (.t 34)
 (.seq (.reg [sq 2 (.mv (kB false))])
 .ret)
 .skip))
 (.seq (.reg [sq 35 (.mv (.t 3)),
sq 36 (.fieldA 2 (.t 6)),
sq 37 (.load none (.t 36)),
⟨none,none,.mset 0 (.t 35) (.t 37) (kB true),[],(.lone [6,36])⟩])
 (.seq (.reg [sq 38 (.fieldA 3 (.t 6)),
sq 39 (.load none (.t 38))])
 (.cond (.t 39)
 (.reg [sq 40 (.mv (.t 4)),
sq 41 (.bin .add (.t 40) (kI 1)),
sq 4 (.mv (.t 41))])
 .skip)))))))
 (.reg [sq 42 (.bin .add (.t 10) (kI 1)),
sq 10 (.mv (.t 42))]))))))))
 (.seq (.sem (.reg [sq 43 (.mv (.t 0)),
sq 44 (.len (.t 43)),
sq 45 (.bin .leq (.t 44) (kI 16)),
sq 46 (.mv (.t 45)),
zg 47 46 true (.mv (.t 4)),
zg 48 46 true (.bin .leq (.t 47) (kI 1)),
sq 49 (.pick (.t 46) (.t 48) (kB false)),
sq 2 (.mv (.t 49))]))
 .ret)))))⟩
theorem a84_ok:afn Try.prog 84=some a84.er:=by kernel_rfl
theorem F84_ok{x0 r}(h:F84 x0=some r):CallD Try.prog 84 [.c (dM (x0.map eOwner))] [] (tupV [.c (dB r)]) []:=by
 refine callS a84_ok (by simp[a84]) ?_
 rw[F84]at h
 simp only[a84,VW.down,Nat.reduceEqDiff,reduceCtorEq,Nat.reduceAdd,Nat.reduceLeDiff,Nat.reduceLT,Nat.reduceBEq,Nat.reduceSub,EE.down]
 refine t_mkmap1 (κ:=Int) (α:=Bool) (enc:=(fun x=> .v (.bool x))) (Value.int .i64) (ww ?_)
 obtain⟨o1,ho,h⟩:=bi h
 refine cutS (fun s=>∃po1,o1=Sum.inr po1∧s=⟨[(0,.one (.c (dM (x0.map eOwner)))),(4,.one (.c (dI po1)))],[]⟩) ?_ ?_
 ·have h0o1:=h
  have h:=ho
  clear ho
  obtain⟨_,hk,h⟩:=bi h
  have hk:=ck_some hk
  refine ww ?_
  refine bL (fun j s=>∃(o1_2:Nat) (o1_0:List (Int×Bool)) (o1_1:Int),(o1_2≤x0.length∧j=x0.length-o1_2)∧s=⟨[(0,.one (.c (dM (x0.map eOwner)))),(3,.one (.c (.mref 0))),(4,.one (.c (dI o1_1))),(8,.one (.c (dM (x0.map eOwner)))),(9,.one (.c (dI ((x0.length:Int))))),(10,.one (.c (dI ((o1_2:Int)))))],[some (.map (eM1 (Value.int .i64) (fun x=> .v (.bool x)) o1_0))]⟩∧F84_l1 (x0.drop o1_2) o1_2 o1_0 o1_1=some o1) (x0.length-0) [some 0] ⟨0,[],0,⟨hk.1,rfl⟩,rfl,h⟩ ?_
  rintro _ _ ⟨o1_2,o1_0,o1_1,⟨hi,rfl⟩,rfl,h⟩
  refine ww ?_
  refine condS (fun c2=>?_) (fun c2=>?_)
  ·obtain⟨xo1,hxo1,hd⟩:=countY (show(o1_2:Int)<(x0.length:Int)from c2)
   rw[hd,F84_l1]at h
   refine ww ?_
   obtain⟨o3,ho,h⟩:=bi h
   refine cutS (fun s=>∃po3,o3=Sum.inr po3∧s=⟨[(0,.one (.c (dM (x0.map eOwner)))),(3,.one (.c (.mref 0))),(4,.one (.c (dI po3))),(8,.one (.c (dM (x0.map eOwner)))),(9,.one (.c (dI ((x0.length:Int))))),(10,.one (.c (dI ((o1_2:Int)))))],[some (.map (eM1 (Value.int .i64) (fun x=> .v (.bool x)) ((putM xo1.Uid true o1_0))))]⟩) ?_ ?_
   ·have h0o3:=h
    have h:=ho
    clear ho
    refine ww ?_
    refine t_idxF (enc:=eOwner) (xs:=x0) rfl rfl hxo1 rfl (ww ?_)
    obtain⟨o4,ho,h⟩:=bi h
    refine cutS (fun s=>s=⟨[(0,.one (.c (dM (x0.map eOwner)))),(3,.one (.c (.mref 0))),(4,.one (.c (dI o1_1))),(6,.one (.c (.pt 1 0))),(8,.one (.c (dM (x0.map eOwner)))),(9,.one (.c (dI ((x0.length:Int))))),(10,.one (.c (dI ((o1_2:Int))))),(34,.one (.c (dB o4)))],[some (.map (eM1 (Value.int .i64) (fun x=> .v (.bool x)) o1_0)),some (.box [dS xo1.Kind,dS xo1.Name,dI xo1.Uid,dB xo1.Controller,dB xo1.Block])]⟩) ?_ ?_
    ·have h:=ho
     clear ho
     refine ww ?_
     obtain⟨t5,ht5,h⟩:=bi h
     refine cN [] (F80_ok ht5) trivial (ww ?_)
     refine guardSBh h (fun g6 h=>?_) (fun g6 h=>?_)
     ·refine ww ?_
      cases h
      exact eM [some 0,some 1] rfl
     refine ww ?_
     obtain⟨t7,ht7,h⟩:=bi h
     refine cN [] (F82_ok ht7) trivial (ww ?_)
     refine guardSBh h (fun g8 h=>?_) (fun g8 h=>?_)
     ·refine ww ?_
      cases h
      exact eM [some 0,some 1] rfl
     refine ww ?_
     refine guardSh h (fun g9 h=>?_) (fun g9 h=>?_)
     ·refine ww ?_
      cases h
      exact eM [some 0,some 1] rfl
     refine ww ?_
     refine t_mget1 (enc:=(fun x=> .v (.bool x))) (l:=o1_0) (z:=false) kkI rfl rfl rfl rfl (ww ?_)
     cases h
     exact eM [some 0,some 1] rfl
    rintro _ rfl
    clear ho
    refine ww ?_
    refine condBh h (fun c10 h=>?_) (fun c10 h=>?_)
    ·refine ww ?_
     obtain⟨fh0o3,hfh0o3,rfl⟩:=Option.map_eq_some_iff.1 h
     have h:=hfh0o3.trans h0o3
     obtain⟨fh0o1,hfh0o1,rfl⟩:=Option.map_eq_some_iff.1 h
     have h:=hfh0o1.trans h0o1
     cases h
     exact eF []
    refine ww ?_
    refine t_mset1 (enc:=(fun x=> .v (.bool x))) (l:=o1_0) (x:=true) kkI rfl rfl rfl rfl (ww ?_)
    refine condBh h (fun c11 h=>?_) (fun c11 h=>?_)
    ·refine ww ?_
     cases h
     exact eM [some 0] ⟨_,rfl,rfl⟩
    refine ww ?_
    cases h
    exact eM [some 0] ⟨_,rfl,rfl⟩
   rintro _ ⟨po3,rfl,rfl⟩
   clear ho
   dsimp only at h
   refine ww ?_
   rw[wrapN (by omega)]
   exact eL' (x0.length-(o1_2+1)) [some 0] ⟨o1_2+1,(putM xo1.Uid true o1_0),po3,⟨by omega,rfl⟩,rfl,h⟩ (by omega)
  rw[countN (show¬((o1_2:Int)<(x0.length:Int))from c2),F84_l1]at h
  refine ww ?_
  cases h
  exact eM [] ⟨_,rfl,rfl⟩
 rintro _ ⟨po1,rfl,rfl⟩
 clear ho
 dsimp only at h
 refine ww ?_
 obtain⟨o13,ho,h⟩:=bi h
 refine cutS (fun s=>s=⟨[(2,.one (.c (dB o13)))],[]⟩) ?_ ?_
 ·have h:=ho
  clear ho
  refine ww ?_
  refine guardSh h (fun g14 h=>?_) (fun g14 h=>?_)
  ·refine ww ?_
   cases h
   exact eM [] rfl
  refine ww ?_
  cases h
  exact eM [] rfl
 rintro _ rfl
 clear ho
 refine ww ?_
 cases h
 exact eF []
def F85_l1:List ByteArray→Nat→(List (ByteArray×Bool))→Option ((Bool) ⊕ (Unit))
 |[],o1_1,o1_0=>some (Sum.inr (()))
 |xo1::xs,o1_1,o1_0=>(((F82 xo1).bind fun t4=>(if(nb t4)=true then some true else some (((getM xo1 o1_0).getD false)))).bind fun o3=>(if o3=true then(some false).map Sum.inl else F85_l1 xs (o1_1+1) ((putM xo1 true o1_0))))
def F85(x0:(List ByteArray)):Option (Bool):=(((ck (0≤x0.length∧x0.length≤4294967290)).bind fun u7=>F85_l1 x0 0 ([]):Option ((Bool) ⊕ (Unit))).bind fun o1=>match o1 with|Sum.inl f=>some f|Sum.inr po1=>some (decide ((x0.length:Int)≤16)))
def a85:AFn:=⟨27,[(.tmp 2)],
 (.seq (.reg [sq 2 (.mv (kB false))])
 (.seq (.reg [sq 6 (.mkmap),
sq 3 (.mv (.t 6))])
 (.seq (.seq (.reg [sq 7 (.mv (.t 0)),
sq 8 (.len (.t 7)),
sq 9 (.mv (kI 0))])
 (.sem (.block 0 (.loop (.seq (.reg [sq 10 (.bin .lss (.t 9) (.t 8))])
 (.seq (.cond (.t 10)
 .skip
 (.exit 0))
 (.seq (.block 1 (.seq (.reg [sq 11 (.indexA 1 (.t 7) (.t 9)),
sq 12 (.load none (.t 11)),
sq 5 (.mv (.t 12))])
 (.seq (.seq (.sem (.reg [sq 13 (.mv (.t 5)),
sq 14 (.call 82 [(.t 13)]),
sq 15 (.not (.t 14)),
sq 16 (.mv (.t 15)),
zg 17 16 false (.mv (.t 3)),
zg 18 16 false (.mv (.t 5)),
zg 19 16 false (.mget 1 false (.c (dB false)) (.t 17) (.t 18)),
sq 20 (.pick (.t 16) (kB true) (.t 19))]))
 (.cond (.t 20)
 (.seq (.reg [sq 2 (.mv (kB false))])
 .ret)
 .skip))
 (.reg [sq 21 (.mv (.t 3)),
sq 22 (.mv (.t 5)),
⟨none,none,.mset 1 (.t 21) (.t 22) (kB true),[],(.lone [])⟩]))))
 (.reg [sq 23 (.bin .add (.t 9) (kI 1)),
sq 9 (.mv (.t 23))]))))))))
 (.seq (.reg [sq 24 (.mv (.t 0)),
sq 25 (.len (.t 24)),
sq 26 (.bin .leq (.t 25) (kI 16)),
sq 2 (.mv (.t 26))])
 .ret))))⟩
theorem a85_ok:afn Try.prog 85=some a85.er:=by kernel_rfl
theorem F85_ok{x0 r}(h:F85 x0=some r):CallD Try.prog 85 [.c (dM (x0.map eS))] [] (tupV [.c (dB r)]) []:=by
 refine callS a85_ok (by simp[a85]) ?_
 rw[F85]at h
 simp only[a85,VW.down,Nat.reduceEqDiff,reduceCtorEq,Nat.reduceAdd,Nat.reduceLeDiff,Nat.reduceLT,Nat.reduceBEq,Nat.reduceSub,EE.down]
 refine t_mkmap1 (κ:=ByteArray) (α:=Bool) (enc:=(fun x=> .v (.bool x))) Value.string (ww ?_)
 obtain⟨o1,ho,h⟩:=bi h
 refine cutS (fun s=>∃po1,o1=Sum.inr po1∧s=⟨[(0,.one (.c (dM (x0.map eS))))],[]⟩) ?_ ?_
 ·have h0o1:=h
  have h:=ho
  clear ho
  obtain⟨_,hk,h⟩:=bi h
  have hk:=ck_some hk
  refine ww ?_
  refine bL (fun j s=>∃(o1_1:Nat) (o1_0:List (ByteArray×Bool)),(o1_1≤x0.length∧j=x0.length-o1_1)∧s=⟨[(0,.one (.c (dM (x0.map eS)))),(3,.one (.c (.mref 0))),(7,.one (.c (dM (x0.map eS)))),(8,.one (.c (dI ((x0.length:Int))))),(9,.one (.c (dI ((o1_1:Int)))))],[some (.map (eM1 Value.string (fun x=> .v (.bool x)) o1_0))]⟩∧F85_l1 (x0.drop o1_1) o1_1 o1_0=some o1) (x0.length-0) [some 0] ⟨0,[],⟨hk.1,rfl⟩,rfl,h⟩ ?_
  rintro _ _ ⟨o1_1,o1_0,⟨hi,rfl⟩,rfl,h⟩
  refine ww ?_
  refine condS (fun c2=>?_) (fun c2=>?_)
  ·obtain⟨xo1,hxo1,hd⟩:=countY (show(o1_1:Int)<(x0.length:Int)from c2)
   rw[hd,F85_l1]at h
   refine ww ?_
   refine t_idxF (enc:=eS) (xs:=x0) rfl rfl hxo1 rfl (ww ?_)
   obtain⟨o3,ho,h⟩:=bi h
   refine cutS (fun s=>s=⟨[(0,.one (.c (dM (x0.map eS)))),(3,.one (.c (.mref 0))),(5,.one (.c (dS xo1))),(7,.one (.c (dM (x0.map eS)))),(8,.one (.c (dI ((x0.length:Int))))),(9,.one (.c (dI ((o1_1:Int))))),(20,.one (.c (dB o3)))],[some (.map (eM1 Value.string (fun x=> .v (.bool x)) o1_0))]⟩) ?_ ?_
   ·have h:=ho
    clear ho
    refine ww ?_
    obtain⟨t4,ht4,h⟩:=bi h
    refine cN [] (F82_ok ht4) trivial (ww ?_)
    refine guardSBh h (fun g5 h=>?_) (fun g5 h=>?_)
    ·refine ww ?_
     cases h
     exact eM [some 0] rfl
    refine ww ?_
    refine t_mget1 (enc:=(fun x=> .v (.bool x))) (l:=o1_0) (z:=false) kkS rfl rfl rfl rfl (ww ?_)
    cases h
    exact eM [some 0] rfl
   rintro _ rfl
   clear ho
   refine ww ?_
   refine condBh h (fun c6 h=>?_) (fun c6 h=>?_)
   ·refine ww ?_
    obtain⟨fh0o1,hfh0o1,rfl⟩:=Option.map_eq_some_iff.1 h
    have h:=hfh0o1.trans h0o1
    cases h
    exact eF []
   refine ww ?_
   refine t_mset1 (enc:=(fun x=> .v (.bool x))) (l:=o1_0) (x:=true) kkS rfl rfl rfl rfl (ww ?_)
   rw[wrapN (by omega)]
   exact eL' (x0.length-(o1_1+1)) [some 0] ⟨o1_1+1,(putM xo1 true o1_0),⟨by omega,rfl⟩,rfl,h⟩ (by omega)
  rw[countN (show¬((o1_1:Int)<(x0.length:Int))from c2),F85_l1]at h
  refine ww ?_
  cases h
  exact eM [] ⟨_,rfl,rfl⟩
 rintro _ ⟨po1,rfl,rfl⟩
 clear ho
 dsimp only at h
 refine ww ?_
 cases h
 exact eF []
theorem a69_ok:afn Try.prog 69=some (insertA 23 352 [.v (.string ⟨#[]⟩),.v (.string ⟨#[]⟩),.v (.string ⟨#[]⟩),.v (.int .i64 0),.v (.int .i64 0),.v (.int .i64 0),.v (.int .i64 0),.v (.bool false),.v (.int .i64 0),.sl [],.sl [],.sl [],.sl [],.v (.int .i64 0),.v (.int .i64 0),.v (.string ⟨#[]⟩),.sl [],.sl [],.v (.int .i64 0),.v (.int .i64 0),.v (.string ⟨#[]⟩),.sl [],.sl []] 95 96):=by kernel_rfl
theorem F69_ok{x0 r:List Object}{i:Int}{x:Object}{e0 e1:Nat}(h:insI x0 i x=some r):CallD Try.prog 69 [.c (.own 0 e0 0 x0.length none),aI i,.c (.own 1 e1 0 [x].length none)] [some (.arr e0 23 (x0.map eObject)),some (.arr e1 23 ([x].map eObject))] (tupV [.c (.own 0 (e0+1) 0 r.length none)]) [some (.arr (e0+1) 23 (r.map eObject)),some (.arr e1 23 ([x].map eObject))]:=L_insert a69_ok ov95 (fun _=>rfl) h
def F91(x0:Int)(x1:Int):Option (Int):=(F107 x0).bind fun t1=>(F107 x1).bind fun t2=>(if¬(True)then(if¬(True)then some 0 else some ((-1)))else(if¬(True)then some 1 else(if x0<x1 then some ((-1))else(if x1<x0 then some 1 else some 0))))
def a91:AFn:=⟨20,[(.tmp 4)],
 (.seq (.reg [sq 4 (.mv (kI 0))])
 (.seq (.reg [sq 7 (.mv (.t 0)),
sq 8 (.call 107 [(.t 7)]),
sq 5 (.mv (.t 8))])
 (.seq (.reg [sq 9 (.mv (.t 1)),
sq 10 (.call 107 [(.t 9)]),
sq 6 (.mv (.t 10))])
 (.seq (.seq (.reg [sq 11 (.mv (.t 5))])
 (.cond (.t 11)
 (.seq (.seq (.reg [sq 12 (.mv (.t 6))])
 (.cond (.t 12)
 (.seq (.reg [sq 4 (.mv (kI 0))])
 .ret)
 .skip))
 (.seq (.reg [sq 4 (.mv (kI (-1)))])
 .ret))
 .skip))
 (.seq (.seq (.reg [sq 13 (.mv (.t 6))])
 (.cond (.t 13)
 (.seq (.reg [sq 4 (.mv (kI 1))])
 .ret)
 .skip))
 (.seq (.seq (.reg [sq 14 (.mv (.t 0)),
sq 15 (.mv (.t 1)),
sq 16 (.bin .lss (.t 14) (.t 15))])
 (.cond (.t 16)
 (.seq (.reg [sq 4 (.mv (kI (-1)))])
 .ret)
 .skip))
 (.seq (.seq (.reg [sq 17 (.mv (.t 0)),
sq 18 (.mv (.t 1)),
sq 19 (.bin .gtr (.t 17) (.t 18))])
 (.cond (.t 19)
 (.seq (.reg [sq 4 (.mv (kI 1))])
 .ret)
 .skip))
 (.seq (.reg [sq 4 (.mv (kI 0))])
 .ret))))))))⟩
theorem a91_ok:afn Try.prog 91=some a91.er:=by kernel_rfl
theorem F91_ok{x0 x1 r}(h:F91 x0 x1=some r):CallD Try.prog 91 [.c (dI x0),.c (dI x1)] [] (tupV [.c (dI r)]) []:=by
 refine callS a91_ok (by simp[a91]) ?_
 rw[F91]at h
 simp only[a91,VW.down,Nat.reduceEqDiff,reduceCtorEq,Nat.reduceAdd,Nat.reduceLeDiff,Nat.reduceLT,Nat.reduceBEq,Nat.reduceSub,EE.down]
 obtain⟨t1,ht1,h⟩:=bi h
 refine cN [] (F107_ok ht1) trivial (ww ?_)
 obtain⟨t2,ht2,h⟩:=bi h
 refine cN [] (F107_ok ht2) trivial (ww ?_)
 refine condSh h (fun c3 h=>?_) (fun c3 h=>?_)
 ·refine ww ?_
  refine condSh h (fun c4 h=>?_) (fun c4 h=>?_)
  ·refine ww ?_
   cases h
   exact eF []
  refine ww ?_
  cases h
  exact eF []
 refine ww ?_
 refine condSh h (fun c5 h=>?_) (fun c5 h=>?_)
 ·refine ww ?_
  cases h
  exact eF []
 refine ww ?_
 refine condSh h (fun c6 h=>?_) (fun c6 h=>?_)
 ·refine ww ?_
  cases h
  exact eF []
 refine ww ?_
 refine condSh h (fun c7 h=>?_) (fun c7 h=>?_)
 ·refine ww ?_
  cases h
  exact eF []
 refine ww ?_
 cases h
 exact eF []
end Go.Proofs.Ytbopaemngpbdgaa
