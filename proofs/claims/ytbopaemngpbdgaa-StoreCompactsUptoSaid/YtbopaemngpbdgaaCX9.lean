/- Each Go function as a function over typed data, and its walk. -/
import Derived.Test.YtbopaemngpbdgaaCX
import Derived.Test.YtbopaemngpbdgaaCX3
import Derived.Test.YtbopaemngpbdgaaCX5
namespace Go.Proofs.Ytbopaemngpbdgaa
open Go Go.Fw Go.Shelf
set_option maxRecDepth 100000
set_option maxHeartbeats 4000000
set_option linter.unusedSimpArgs false
set_option linter.unusedVariables false
def F101_l8(x0:ByteArray):Nat→Int→Option ((Bool) ⊕ (Unit))
 |0,_=>none
 |k+1,o8_0=>(if o8_0<(x0.size:Int)then(byI x0 o8_0).bind fun y10=>(F110 y10).bind fun t11=>(if(nb t11)=true then(some false).map Sum.inl else F101_l8 x0 k ((IntKind.i64.wrap (o8_0+1))))else some (Sum.inr (())))
def F101(x0:ByteArray):Option (Bool):=(((if x0=(⟨#[]⟩:ByteArray)then some true else(if 40<(x0.size:Int)then some true else(byI x0 0).bind fun y4=>(if y4<97 then some true else(byI x0 0).bind fun y6=>some (decide (122<y6)))))).bind fun o1=>(if o1=true then some false else((F101_l8 x0 1099511627776 0:Option ((Bool) ⊕ (Unit))).bind fun o8=>match o8 with|Sum.inl f=>some f|Sum.inr po8=>some true)))
def a101:AFn:=⟨32,[(.tmp 2)],
 (.seq (.reg [sq 2 (.mv (kB false))])
 (.seq (.seq (.sem (.reg [sq 4 (.mv (.t 0)),
sq 5 (.bin .eql (.t 4) (kS ⟨#[]⟩)),
sq 6 (.mv (.t 5)),
zg 7 6 false (.mv (.t 0)),
zg 8 6 false (.slen (.t 7)),
zg 9 6 false (.bin .gtr (.t 8) (kI 40)),
sq 10 (.pick (.t 6) (kB true) (.t 9)),
sq 11 (.mv (.t 10)),
zg 12 11 false (.mv (.t 0)),
zg 13 11 false (.sidx (.t 12) (kI 0)),
zg 14 11 false (.bin .lss (.t 13) (.k (.c (.d (.v (.int .u8 97)))))),
sq 15 (.pick (.t 11) (kB true) (.t 14)),
sq 16 (.mv (.t 15)),
zg 17 16 false (.mv (.t 0)),
zg 18 16 false (.sidx (.t 17) (kI 0)),
zg 19 16 false (.bin .gtr (.t 18) (.k (.c (.d (.v (.int .u8 122)))))),
sq 20 (.pick (.t 16) (kB true) (.t 19))]))
 (.cond (.t 20)
 (.seq (.reg [sq 2 (.mv (kB false))])
 .ret)
 .skip))
 (.seq (.seq (.reg [sq 21 (.mv (.t 0)),
sq 22 (.slen (.t 21)),
sq 23 (.mv (kI 0))])
 (.sem (.block 0 (.loop (.seq (.reg [sq 24 (.bin .lss (.t 23) (.t 22))])
 (.seq (.cond (.t 24)
 .skip
 (.exit 0))
 (.seq (.block 1 (.seq (.reg [sq 25 (.mv (.t 23)),
sq 3 (.mv (.t 25))])
 (.seq (.reg [sq 26 (.mv (.t 0)),
sq 27 (.mv (.t 3)),
sq 28 (.sidx (.t 26) (.t 27)),
sq 29 (.call 110 [(.t 28)]),
sq 30 (.not (.t 29))])
 (.cond (.t 30)
 (.seq (.reg [sq 2 (.mv (kB false))])
 .ret)
 .skip))))
 (.reg [sq 31 (.bin .add (.t 23) (kI 1)),
sq 23 (.mv (.t 31))]))))))))
 (.seq (.reg [sq 2 (.mv (kB true))])
 .ret))))⟩
theorem a101_ok:afn Try.prog 101=some a101.er:=by kernel_rfl
theorem F101_ok{x0 r}(h:F101 x0=some r):CallD Try.prog 101 [.c (dS x0)] [] (tupV [.c (dB r)]) []:=by
 refine callS a101_ok (by simp[a101]) ?_
 rw[F101]at h
 simp only[a101,VW.down,Nat.reduceEqDiff,reduceCtorEq,Nat.reduceAdd,Nat.reduceLeDiff,Nat.reduceLT,Nat.reduceBEq,Nat.reduceSub,EE.down]
 obtain⟨o1,ho,h⟩:=bi h
 refine cutS (fun s=>s=⟨[(0,.one (.c (dS x0))),(20,.one (.c (dB o1)))],[]⟩) ?_ ?_
 ·have h:=ho
  clear ho
  refine ww ?_
  refine guardSh h (fun g2 h=>?_) (fun g2 h=>?_)
  ·refine ww ?_
   cases h
   exact eM [] rfl
  refine ww ?_
  refine guardSh h (fun g3 h=>?_) (fun g3 h=>?_)
  ·refine ww ?_
   cases h
   exact eM [] rfl
  refine ww ?_
  obtain⟨y4,hy4,h⟩:=bi h
  refine t_sidx rfl rfl hy4 (ww ?_)
  refine guardSh h (fun g5 h=>?_) (fun g5 h=>?_)
  ·refine ww ?_
   cases h
   exact eM [] rfl
  refine ww ?_
  obtain⟨y6,hy6,h⟩:=bi h
  refine t_sidx rfl rfl hy6 (ww ?_)
  cases h
  exact eM [] rfl
 rintro _ rfl
 clear ho
 refine ww ?_
 refine condBh h (fun c7 h=>?_) (fun c7 h=>?_)
 ·refine ww ?_
  cases h
  exact eF []
 refine ww ?_
 obtain⟨o8,ho,h⟩:=bi h
 refine cutS (fun s=>∃po8,o8=Sum.inr po8∧s=⟨[],[]⟩) ?_ ?_
 ·have h0o8:=h
  have h:=ho
  clear ho
  refine ww ?_
  refine bL (fun j s=>∃(o8_0:Int),s=⟨[(0,.one (.c (dS x0))),(22,.one (.c (dI ((x0.size:Int))))),(23,.one (.c (dI o8_0)))],[]⟩∧F101_l8 x0 j o8_0=some o8) 1099511627776 [] ⟨0,rfl,h⟩ ?_
  rintro j _ ⟨o8_0,rfl,h⟩
  cases j with
  |zero=>cases(show(none:Option _)=some _ from h)
  |succ j=>
   rw[F101_l8]at h
   refine ww ?_
   refine condSh h (fun c9 h=>?_) (fun c9 h=>?_)
   ·refine ww ?_
    obtain⟨y10,hy10,h⟩:=bi h
    refine t_sidx rfl rfl hy10 (ww ?_)
    obtain⟨t11,ht11,h⟩:=bi h
    refine cN [] (F110_ok ht11) trivial (ww ?_)
    refine condBh h (fun c12 h=>?_) (fun c12 h=>?_)
    ·refine ww ?_
     obtain⟨fh0o8,hfh0o8,rfl⟩:=Option.map_eq_some_iff.1 h
     have h:=hfh0o8.trans h0o8
     cases h
     exact eF []
    ·refine ww ?_
     exact eL' j [] ⟨(IntKind.i64.wrap (o8_0+1)),rfl,h⟩ (Nat.lt_succ_self _)
   ·refine ww ?_
    cases h
    exact eM [] ⟨_,rfl,rfl⟩
 rintro _ ⟨po8,rfl,rfl⟩
 clear ho
 dsimp only at h
 refine ww ?_
 cases h
 exact eF []
def F84_l1:List Owner→Nat→(List (Int×Bool))→Int→Option ((Bool) ⊕ (Int))
 |[],o1_2,o1_0,o1_1=>some (Sum.inr o1_1)
 |xo1::xs,o1_2,o1_0,o1_1=>(((((F80 xo1.Kind).bind fun t5=>(if(nb t5)=true then some true else(F82 xo1.Name).bind fun t7=>(if(nb t7)=true then some true else(if xo1.Uid≤0 then some true else some (((getM xo1.Uid o1_0).getD false)))))).bind fun o4=>(if o4=true then((some false).map Sum.inl).map Sum.inl else(if xo1.Controller=true then some (Sum.inr ((IntKind.i64.wrap (o1_1+1))))else some (Sum.inr o1_1)))):Option (((Bool) ⊕ (Int)) ⊕ (Int))).bind fun o3=>match o3 with|Sum.inl f=>some f|Sum.inr po3=>F84_l1 xs (o1_2+1) ((putM xo1.Uid true o1_0)) po3)
def F84(x0:(List Owner)):Option (Bool):=(((ck (0≤x0.length∧x0.length≤4294967290)).bind fun u12=>F84_l1 x0 0 ([]) 0:Option ((Bool) ⊕ (Int))).bind fun o1=>match o1 with|Sum.inl f=>some f|Sum.inr po1=>(((if(x0.length:Int)≤16 then some (decide (po1≤1))else some false)).bind fun o13=>some o13))
def a84:AFn:=⟨50,[(.tmp 2)],
 (.seq (.reg [sq 2 (.mv (kB false))])
 (.seq (.reg [sq 7 (.mkmap),
sq 3 (.mv (.t 7))])
 (.seq (.reg [sq 4 (.mv (kI 0))])
 (.seq (.seq (.reg [sq 8 (.mv (.t 0)),
sq 9 (.len (.t 8)),
sq 10 (.mv (kI 0))])
 (.sem (.block 0 (.loop (.seq (.reg [sq 11 (.bin .lss (.t 10) (.t 9))])
 (.seq (.cond (.t 11)
 .skip
 (.exit 0))
 (.seq (.sem (.block 1 (.seq (.reg [sq 12 (.indexA 5 (.t 8) (.t 10)),
sq 13 (.load (some 5) (.t 12)),
sq 6 (.zbox [dS ⟨#[]⟩,dS ⟨#[]⟩,dI 0,dB false,dB false]),
su (.store 5 (.t 6) (.t 13))])
 (.seq (.seq (.sem (.reg [sq 14 (.fieldA 0 (.t 6)),
sq 15 (.load none (.t 14)),
sq 16 (.call 80 [(.t 15)]),
sq 17 (.not (.t 16)),
sq 18 (.mv (.t 17)),
zg 19 18 false (.fieldA 1 (.t 6)),
zg 20 18 false (.load none (.t 19)),
zg 21 18 false (.call 82 [(.t 20)]),
zg 22 18 false (.not (.t 21)),
sq 23 (.pick (.t 18) (kB true) (.t 22)),
sq 24 (.mv (.t 23)),
zg 25 24 false (.fieldA 2 (.t 6)),
zg 26 24 false (.load none (.t 25)),
zg 27 24 false (.bin .leq (.t 26) (kI 0)),
sq 28 (.pick (.t 24) (kB true) (.t 27)),
sq 29 (.mv (.t 28)),
zg 30 29 false (.mv (.t 3)),
zg 31 29 false (.fieldA 2 (.t 6)),
zg 32 29 false (.load none (.t 31)),
zg 33 29 false (.mget 0 false (.c (dB false)) (.t 30) (.t 32)),
sq 34 (.pick (.t 29) (kB true) (.t 33))]))
 (.cond (.t 34)
 (.seq (.reg [sq 2 (.mv (kB false))])
 .ret)
 .skip))
 (.seq (.reg [sq 35 (.mv (.t 3)),
sq 36 (.fieldA 2 (.t 6)),
sq 37 (.load none (.t 36)),
⟨none,none,.mset 0 (.t 35) (.t 37) (kB true),[],(.lone [6,36])⟩])
 (.seq (.reg [sq 38 (.fieldA 3 (.t 6)),
sq 39 (.load none (.t 38))])
 (.cond (.t 39)
 (.reg [sq 40 (.mv (.t 4)),
sq 41 (.bin .add (.t 40) (kI 1)),
sq 4 (.mv (.t 41))])
 .skip)))))))
 (.reg [sq 42 (.bin .add (.t 10) (kI 1)),
sq 10 (.mv (.t 42))]))))))))
 (.seq (.sem (.reg [sq 43 (.mv (.t 0)),
sq 44 (.len (.t 43)),
sq 45 (.bin .leq (.t 44) (kI 16)),
sq 46 (.mv (.t 45)),
zg 47 46 true (.mv (.t 4)),
zg 48 46 true (.bin .leq (.t 47) (kI 1)),
sq 49 (.pick (.t 46) (.t 48) (kB false)),
sq 2 (.mv (.t 49))]))
 .ret)))))⟩
theorem a84_ok:afn Try.prog 84=some a84.er:=by kernel_rfl
theorem F84_ok{x0 r}(h:F84 x0=some r):CallD Try.prog 84 [.c (dM (x0.map eOwner))] [] (tupV [.c (dB r)]) []:=by
 refine callS a84_ok (by simp[a84]) ?_
 rw[F84]at h
 simp only[a84,VW.down,Nat.reduceEqDiff,reduceCtorEq,Nat.reduceAdd,Nat.reduceLeDiff,Nat.reduceLT,Nat.reduceBEq,Nat.reduceSub,EE.down]
 refine t_mkmap1 (κ:=Int) (α:=Bool) (enc:=(fun x=> .v (.bool x))) (Value.int .i64) (ww ?_)
 obtain⟨o1,ho,h⟩:=bi h
 refine cutS (fun s=>∃po1,o1=Sum.inr po1∧s=⟨[(0,.one (.c (dM (x0.map eOwner)))),(4,.one (.c (dI po1)))],[]⟩) ?_ ?_
 ·have h0o1:=h
  have h:=ho
  clear ho
  obtain⟨_,hk,h⟩:=bi h
  have hk:=ck_some hk
  refine ww ?_
  refine bL (fun j s=>∃(o1_2:Nat) (o1_0:List (Int×Bool)) (o1_1:Int),(o1_2≤x0.length∧j=x0.length-o1_2)∧s=⟨[(0,.one (.c (dM (x0.map eOwner)))),(3,.one (.c (.mref 0))),(4,.one (.c (dI o1_1))),(8,.one (.c (dM (x0.map eOwner)))),(9,.one (.c (dI ((x0.length:Int))))),(10,.one (.c (dI ((o1_2:Int)))))],[some (.map (eM1 (Value.int .i64) (fun x=> .v (.bool x)) o1_0))]⟩∧F84_l1 (x0.drop o1_2) o1_2 o1_0 o1_1=some o1) (x0.length-0) [some 0] ⟨0,[],0,⟨hk.1,rfl⟩,rfl,h⟩ ?_
  rintro _ _ ⟨o1_2,o1_0,o1_1,⟨hi,rfl⟩,rfl,h⟩
  refine ww ?_
  refine condS (fun c2=>?_) (fun c2=>?_)
  ·obtain⟨xo1,hxo1,hd⟩:=countY (show(o1_2:Int)<(x0.length:Int)from c2)
   rw[hd,F84_l1]at h
   refine ww ?_
   obtain⟨o3,ho,h⟩:=bi h
   refine cutS (fun s=>∃po3,o3=Sum.inr po3∧s=⟨[(0,.one (.c (dM (x0.map eOwner)))),(3,.one (.c (.mref 0))),(4,.one (.c (dI po3))),(8,.one (.c (dM (x0.map eOwner)))),(9,.one (.c (dI ((x0.length:Int))))),(10,.one (.c (dI ((o1_2:Int)))))],[some (.map (eM1 (Value.int .i64) (fun x=> .v (.bool x)) ((putM xo1.Uid true o1_0))))]⟩) ?_ ?_
   ·have h0o3:=h
    have h:=ho
    clear ho
    refine ww ?_
    refine t_idxF (enc:=eOwner) (xs:=x0) rfl rfl hxo1 rfl (ww ?_)
    obtain⟨o4,ho,h⟩:=bi h
    refine cutS (fun s=>s=⟨[(0,.one (.c (dM (x0.map eOwner)))),(3,.one (.c (.mref 0))),(4,.one (.c (dI o1_1))),(6,.one (.c (.pt 1 0))),(8,.one (.c (dM (x0.map eOwner)))),(9,.one (.c (dI ((x0.length:Int))))),(10,.one (.c (dI ((o1_2:Int))))),(34,.one (.c (dB o4)))],[some (.map (eM1 (Value.int .i64) (fun x=> .v (.bool x)) o1_0)),some (.box [dS xo1.Kind,dS xo1.Name,dI xo1.Uid,dB xo1.Controller,dB xo1.Block])]⟩) ?_ ?_
    ·have h:=ho
     clear ho
     refine ww ?_
     obtain⟨t5,ht5,h⟩:=bi h
     refine cN [] (F80_ok ht5) trivial (ww ?_)
     refine guardSBh h (fun g6 h=>?_) (fun g6 h=>?_)
     ·refine ww ?_
      cases h
      exact eM [some 0,some 1] rfl
     refine ww ?_
     obtain⟨t7,ht7,h⟩:=bi h
     refine cN [] (F82_ok ht7) trivial (ww ?_)
     refine guardSBh h (fun g8 h=>?_) (fun g8 h=>?_)
     ·refine ww ?_
      cases h
      exact eM [some 0,some 1] rfl
     refine ww ?_
     refine guardSh h (fun g9 h=>?_) (fun g9 h=>?_)
     ·refine ww ?_
      cases h
      exact eM [some 0,some 1] rfl
     refine ww ?_
     refine t_mget1 (enc:=(fun x=> .v (.bool x))) (l:=o1_0) (z:=false) kkI rfl rfl rfl rfl (ww ?_)
     cases h
     exact eM [some 0,some 1] rfl
    rintro _ rfl
    clear ho
    refine ww ?_
    refine condBh h (fun c10 h=>?_) (fun c10 h=>?_)
    ·refine ww ?_
     obtain⟨fh0o3,hfh0o3,rfl⟩:=Option.map_eq_some_iff.1 h
     have h:=hfh0o3.trans h0o3
     obtain⟨fh0o1,hfh0o1,rfl⟩:=Option.map_eq_some_iff.1 h
     have h:=hfh0o1.trans h0o1
     cases h
     exact eF []
    refine ww ?_
    refine t_mset1 (enc:=(fun x=> .v (.bool x))) (l:=o1_0) (x:=true) kkI rfl rfl rfl rfl (ww ?_)
    refine condBh h (fun c11 h=>?_) (fun c11 h=>?_)
    ·refine ww ?_
     cases h
     exact eM [some 0] ⟨_,rfl,rfl⟩
    refine ww ?_
    cases h
    exact eM [some 0] ⟨_,rfl,rfl⟩
   rintro _ ⟨po3,rfl,rfl⟩
   clear ho
   dsimp only at h
   refine ww ?_
   rw[wrapN (by omega)]
   exact eL' (x0.length-(o1_2+1)) [some 0] ⟨o1_2+1,(putM xo1.Uid true o1_0),po3,⟨by omega,rfl⟩,rfl,h⟩ (by omega)
  rw[countN (show¬((o1_2:Int)<(x0.length:Int))from c2),F84_l1]at h
  refine ww ?_
  cases h
  exact eM [] ⟨_,rfl,rfl⟩
 rintro _ ⟨po1,rfl,rfl⟩
 clear ho
 dsimp only at h
 refine ww ?_
 obtain⟨o13,ho,h⟩:=bi h
 refine cutS (fun s=>s=⟨[(2,.one (.c (dB o13)))],[]⟩) ?_ ?_
 ·have h:=ho
  clear ho
  refine ww ?_
  refine guardSh h (fun g14 h=>?_) (fun g14 h=>?_)
  ·refine ww ?_
   cases h
   exact eM [] rfl
  refine ww ?_
  cases h
  exact eM [] rfl
 rintro _ rfl
 clear ho
 refine ww ?_
 cases h
 exact eF []
def F104(x0:TValue):Option (Bool):=(if x0.Kind=1 then(((if x0.S=(⟨#[]⟩:ByteArray)then(if x0.N=0 then some true else some (decide (x0.N=1)))else some false)).bind fun o2=>some o2)else(if x0.Kind=2 then(((if x0.S=(⟨#[]⟩:ByteArray)then(if(-1000000000000000)≤x0.N then some (decide (x0.N≤1000000000000000))else some false)else some false)).bind fun o6=>some o6)else(if x0.Kind=3 then(((if x0.N=0 then(F111 x0.S).bind fun t12=>some t12 else some false)).bind fun o10=>some o10)else(((if x0.Kind=0 then some (decide (x0.Kind=0))else(if x0.Kind=4 then some (decide (x0.Kind=4))else some (decide (x0.Kind=5))))).bind fun o13=>(if o13=true then(((if x0.N=0 then some (decide (x0.S=(⟨#[]⟩:ByteArray)))else some false)).bind fun o17=>some o17)else some false)))))
def a104:AFn:=⟨57,[(.tmp 2)],
 (.seq (.reg [sq 1 (.box (.t 0)),
sq 2 (.mv (kB false))])
 (.seq (.seq (.reg [sq 3 (.fieldA 0 (.t 1)),
sq 4 (.load none (.t 3))])
 (.block 0 (.seq (.reg [sq 6 (.bin .eql (.t 4) (kI 1)),
sq 5 (.mv (.t 6))])
 (.cond (.t 5)
 (.seq (.sem (.reg [sq 7 (.fieldA 2 (.t 1)),
sq 8 (.load none (.t 7)),
sq 9 (.bin .eql (.t 8) (kS ⟨#[]⟩)),
sq 10 (.mv (.t 9)),
zg 11 10 true (.fieldA 1 (.t 1)),
zg 12 10 true (.load none (.t 11)),
zg 13 10 true (.bin .eql (.t 12) (kI 0)),
zg 14 10 true (.mv (.t 13)),
zg 15 14 false (.fieldA 1 (.t 1)),
zg 16 14 false (.load none (.t 15)),
zg 17 14 false (.bin .eql (.t 16) (kI 1)),
zg 18 10 true (.pick (.t 14) (kB true) (.t 17)),
sq 19 (.pick (.t 10) (.t 18) (kB false)),
sq 2 (.mv (.t 19))]))
 .ret)
 (.seq (.reg [sq 21 (.bin .eql (.t 4) (kI 2)),
sq 20 (.mv (.t 21))])
 (.cond (.t 20)
 (.seq (.sem (.reg [sq 22 (.fieldA 2 (.t 1)),
sq 23 (.load none (.t 22)),
sq 24 (.bin .eql (.t 23) (kS ⟨#[]⟩)),
sq 25 (.mv (.t 24)),
zg 26 25 true (.fieldA 1 (.t 1)),
zg 27 25 true (.load none (.t 26)),
zg 28 25 true (.bin .geq (.t 27) (kI (-1000000000000000))),
sq 29 (.pick (.t 25) (.t 28) (kB false)),
sq 30 (.mv (.t 29)),
zg 31 30 true (.fieldA 1 (.t 1)),
zg 32 30 true (.load none (.t 31)),
zg 33 30 true (.bin .leq (.t 32) (kI 1000000000000000)),
sq 34 (.pick (.t 30) (.t 33) (kB false)),
sq 2 (.mv (.t 34))]))
 .ret)
 (.seq (.reg [sq 36 (.bin .eql (.t 4) (kI 3)),
sq 35 (.mv (.t 36))])
 (.cond (.t 35)
 (.seq (.sem (.reg [sq 37 (.fieldA 1 (.t 1)),
sq 38 (.load none (.t 37)),
sq 39 (.bin .eql (.t 38) (kI 0)),
sq 40 (.mv (.t 39)),
zg 41 40 true (.fieldA 2 (.t 1)),
zg 42 40 true (.load none (.t 41)),
zg 43 40 true (.call 111 [(.t 42)]),
sq 44 (.pick (.t 40) (.t 43) (kB false)),
sq 2 (.mv (.t 44))]))
 .ret)
 (.seq (.sem (.seq (.reg [sq 46 (.bin .eql (.t 4) (kI 0)),
sq 45 (.mv (.t 46))])
 (.cond (.t 45)
 .skip
 (.seq (.reg [sq 47 (.bin .eql (.t 4) (kI 4)),
sq 45 (.mv (.t 47))])
 (.cond (.t 45)
 .skip
 (.reg [sq 48 (.bin .eql (.t 4) (kI 5)),
sq 45 (.mv (.t 48))]))))))
 (.cond (.t 45)
 (.seq (.sem (.reg [sq 49 (.fieldA 1 (.t 1)),
sq 50 (.load none (.t 49)),
sq 51 (.bin .eql (.t 50) (kI 0)),
sq 52 (.mv (.t 51)),
zg 53 52 true (.fieldA 2 (.t 1)),
zg 54 52 true (.load none (.t 53)),
zg 55 52 true (.bin .eql (.t 54) (kS ⟨#[]⟩)),
sq 56 (.pick (.t 52) (.t 55) (kB false)),
sq 2 (.mv (.t 56))]))
 .ret)
 .skip))))))))))
 (.seq (.reg [sq 2 (.mv (kB false))])
 .ret)))⟩
theorem a104_ok:afn Try.prog 104=some a104.er:=by kernel_rfl
theorem F104_ok{x0 r}(h:F104 x0=some r):CallD Try.prog 104 [.agg [dI x0.Kind,dI x0.N,dS x0.S,dM (x0.List_.map eTValue),dM (x0.Fields.map eTField)]] [] (tupV [.c (dB r)]) []:=by
 refine callS a104_ok (by simp[a104]) ?_
 rw[F104]at h
 simp only[a104,VW.down,Nat.reduceEqDiff,reduceCtorEq,Nat.reduceAdd,Nat.reduceLeDiff,Nat.reduceLT,Nat.reduceBEq,Nat.reduceSub,EE.down]
 refine condSh h (fun c1 h=>?_) (fun c1 h=>?_)
 ·refine ww ?_
  obtain⟨o2,ho,h⟩:=bi h
  refine cutS (fun s=>s=⟨[(2,.one (.c (dB o2)))],[]⟩) ?_ ?_
  ·have h:=ho
   clear ho
   refine ww ?_
   refine guardSh h (fun g3 h=>?_) (fun g3 h=>?_)
   ·refine ww ?_
    refine guardSh h (fun g4 h=>?_) (fun g4 h=>?_)
    ·refine ww ?_
     cases h
     exact eM [] rfl
    refine ww ?_
    cases h
    exact eM [] rfl
   refine ww ?_
   cases h
   exact eM [] rfl
  rintro _ rfl
  clear ho
  refine ww ?_
  cases h
  exact eF []
 refine ww ?_
 refine condSh h (fun c5 h=>?_) (fun c5 h=>?_)
 ·refine ww ?_
  obtain⟨o6,ho,h⟩:=bi h
  refine cutS (fun s=>s=⟨[(2,.one (.c (dB o6)))],[]⟩) ?_ ?_
  ·have h:=ho
   clear ho
   refine ww ?_
   refine guardSh h (fun g7 h=>?_) (fun g7 h=>?_)
   ·refine ww ?_
    refine guardSh h (fun g8 h=>?_) (fun g8 h=>?_)
    ·refine ww ?_
     cases h
     exact eM [] rfl
    refine ww ?_
    cases h
    exact eM [] rfl
   refine ww ?_
   cases h
   exact eM [] rfl
  rintro _ rfl
  clear ho
  refine ww ?_
  cases h
  exact eF []
 refine ww ?_
 refine condSh h (fun c9 h=>?_) (fun c9 h=>?_)
 ·refine ww ?_
  obtain⟨o10,ho,h⟩:=bi h
  refine cutS (fun s=>s=⟨[(2,.one (.c (dB o10)))],[]⟩) ?_ ?_
  ·have h:=ho
   clear ho
   refine ww ?_
   refine guardSh h (fun g11 h=>?_) (fun g11 h=>?_)
   ·refine ww ?_
    obtain⟨t12,ht12,h⟩:=bi h
    refine cN [] (F111_ok ht12) trivial (ww ?_)
    cases h
    exact eM [] rfl
   refine ww ?_
   cases h
   exact eM [] rfl
  rintro _ rfl
  clear ho
  refine ww ?_
  cases h
  exact eF []
 refine ww ?_
 obtain⟨o13,ho,h⟩:=bi h
 refine cutS (fun s=>s=⟨[(1,.one (.c (.pt 0 0))),(45,.one (.c (dB o13)))],[some (.box [dI x0.Kind,dI x0.N,dS x0.S,dM (x0.List_.map eTValue),dM (x0.Fields.map eTField)])]⟩) ?_ ?_
 ·have h:=ho
  clear ho
  refine ww ?_
  refine condSh h (fun c14 h=>?_) (fun c14 h=>?_)
  ·refine ww ?_
   cases h
   exact eM [some 0] rfl
  refine ww ?_
  refine condSh h (fun c15 h=>?_) (fun c15 h=>?_)
  ·refine ww ?_
   cases h
   exact eM [some 0] rfl
  refine ww ?_
  cases h
  exact eM [some 0] rfl
 rintro _ rfl
 clear ho
 refine ww ?_
 refine condBh h (fun c16 h=>?_) (fun c16 h=>?_)
 ·refine ww ?_
  obtain⟨o17,ho,h⟩:=bi h
  refine cutS (fun s=>s=⟨[(2,.one (.c (dB o17)))],[]⟩) ?_ ?_
  ·have h:=ho
   clear ho
   refine ww ?_
   refine guardSh h (fun g18 h=>?_) (fun g18 h=>?_)
   ·refine ww ?_
    cases h
    exact eM [] rfl
   refine ww ?_
   cases h
   exact eM [] rfl
  rintro _ rfl
  clear ho
  refine ww ?_
  cases h
  exact eF []
 refine ww ?_
 cases h
 exact eF []
def F54(x0:Meta):Option (ByteArray):=(F76 x0.Kind x0.Namespace x0.Name).bind fun t1=>some t1
def a54:AFn:=⟨10,[(.tmp 2)],
 (.seq (.reg [sq 1 (.box (.t 0)),
sq 2 (.mv (kS ⟨#[]⟩))])
 (.seq (.reg [sq 3 (.fieldA 0 (.t 1)),
sq 4 (.load none (.t 3)),
sq 5 (.fieldA 1 (.t 1)),
sq 6 (.load none (.t 5)),
sq 7 (.fieldA 2 (.t 1)),
sq 8 (.load none (.t 7)),
sq 9 (.call 76 [(.t 4),(.t 6),(.t 8)]),
sq 2 (.mv (.t 9))])
 .ret))⟩
theorem a54_ok:afn Try.prog 54=some a54.er:=by kernel_rfl
theorem F54_ok{x0 r}(h:F54 x0=some r):CallD Try.prog 54 [.agg [dS x0.Kind,dS x0.Namespace,dS x0.Name,dI x0.Uid,dI x0.Version,dI x0.Generation,dI x0.Created,dB x0.Deleting,dI x0.DeleteAt,dM (x0.Labels.map eLabel),dM (x0.Owners.map eOwner),dM (x0.Finalizers.map eS),dM (x0.Managers.map eManager)]] [] (tupV [.c (dS r)]) []:=by
 refine callS a54_ok (by simp[a54]) ?_
 rw[F54]at h
 simp only[a54,VW.down,Nat.reduceEqDiff,reduceCtorEq,Nat.reduceAdd,Nat.reduceLeDiff,Nat.reduceLT,Nat.reduceBEq,Nat.reduceSub,EE.down]
 obtain⟨t1,ht1,h⟩:=bi h
 refine cN [] (F76_ok ht1) trivial (ww ?_)
 cases h
 exact eF []
end Go.Proofs.Ytbopaemngpbdgaa
