/- Each Go function as a function over typed data, and its walk. -/
import Derived.Test.YtbopaemngpbdgaaGreatSX
import Derived.Test.YtbopaemngpbdgaaGreatSX2
import Derived.Test.YtbopaemngpbdgaaGreatSX3
import Derived.Test.YtbopaemngpbdgaaGreatSX4
import Derived.Test.YtbopaemngpbdgaaGreatSX5
namespace Go.Proofs.YtbopaemngpbdgaaGreat
open Go Go.Fw Go.Shelf
set_option maxRecDepth 100000
set_option maxHeartbeats 4000000
set_option linter.unusedSimpArgs false
set_option linter.unusedVariables false
def F101(x0:ByteArray)(x1:ByteArray):Option (Int):=(cmpS x0 x1).bind fun t1=>some t1
def a101:AFn:=⟨8,[(.tmp 4)],
 (.seq (.reg [sq 4 (.mv (kI 0))])
 (.seq (.reg [sq 5 (.mv (.t 0)),
sq 6 (.mv (.t 1)),
sq 7 (.call 128 [(.t 5),(.t 6)]),
sq 4 (.mv (.t 7))])
 .ret))⟩
theorem a101_ok:afn Tryz.prog 101=some a101.er:=by kernel_rfl
theorem F101_ok{x0 x1 r}(h:F101 x0 x1=some r):CallD Tryz.prog 101 [.c (dS x0),.c (dS x1)] [] (tupV [.c (dI r)]) []:=by
 refine callS a101_ok (by simp[a101]) ?_
 rw[F101]at h
 simp only[a101,VW.down,Nat.reduceEqDiff,reduceCtorEq,Nat.reduceAdd,Nat.reduceLeDiff,Nat.reduceLT,Nat.reduceBEq,Nat.reduceSub,EE.down]
 obtain⟨t1,ht1,h⟩:=bi h
 refine cN [] (F128_ok ht1) trivial (ww ?_)
 cases h
 exact eF []
def F104(x0:ByteArray):Option (Bool):=(((if x0=(⟨#[]⟩:ByteArray)then some true else(F105 x0).bind fun t3=>some t3)).bind fun o1=>some o1)
def a104:AFn:=⟨9,[(.tmp 2)],
 (.seq (.reg [sq 2 (.mv (kB false))])
 (.seq (.sem (.reg [sq 3 (.mv (.t 0)),
sq 4 (.bin .eql (.t 3) (kS ⟨#[]⟩)),
sq 5 (.mv (.t 4)),
zg 6 5 false (.mv (.t 0)),
zg 7 5 false (.call 105 [(.t 6)]),
sq 8 (.pick (.t 5) (kB true) (.t 7)),
sq 2 (.mv (.t 8))]))
 .ret))⟩
theorem a104_ok:afn Tryz.prog 104=some a104.er:=by kernel_rfl
theorem F104_ok{x0 r}(h:F104 x0=some r):CallD Tryz.prog 104 [.c (dS x0)] [] (tupV [.c (dB r)]) []:=by
 refine callS a104_ok (by simp[a104]) ?_
 rw[F104]at h
 simp only[a104,VW.down,Nat.reduceEqDiff,reduceCtorEq,Nat.reduceAdd,Nat.reduceLeDiff,Nat.reduceLT,Nat.reduceBEq,Nat.reduceSub,EE.down]
 obtain⟨o1,ho,h⟩:=bi h
 refine cutS (fun s=>s=⟨[(2,.one (.c (dB o1)))],[]⟩) ?_ ?_
 ·have h:=ho
  clear ho
  refine ww ?_
  refine guardSh h (fun g2 h=>?_) (fun g2 h=>?_)
  ·refine ww ?_
   cases h
   exact eM [] rfl
  refine ww ?_
  obtain⟨t3,ht3,h⟩:=bi h
  refine cN [] (F105_ok ht3) trivial (ww ?_)
  cases h
  exact eM [] rfl
 rintro _ rfl
 clear ho
 refine ww ?_
 cases h
 exact eF []
def F130_l8(x0:ByteArray):Nat→Int→Option ((Bool) ⊕ (Unit))
 |0,_=>none
 |k+1,o8_0=>(if o8_0<(x0.size:Int)then(byI x0 o8_0).bind fun y10=>(F144 y10).bind fun t11=>(if(nb t11)=true then(some false).map Sum.inl else F130_l8 x0 k ((IntKind.i64.wrap (o8_0+1))))else some (Sum.inr (())))
def F130(x0:ByteArray):Option (Bool):=(((if x0=(⟨#[]⟩:ByteArray)then some true else(if 40<(x0.size:Int)then some true else(byI x0 0).bind fun y4=>(if y4<97 then some true else(byI x0 0).bind fun y6=>some (decide (122<y6)))))).bind fun o1=>(if o1=true then some false else((F130_l8 x0 1099511627776 0:Option ((Bool) ⊕ (Unit))).bind fun o8=>match o8 with|Sum.inl f=>some f|Sum.inr po8=>some true)))
def a130:AFn:=⟨32,[(.tmp 2)],
 (.seq (.reg [sq 2 (.mv (kB false))])
 (.seq (.seq (.sem (.reg [sq 4 (.mv (.t 0)),
sq 5 (.bin .eql (.t 4) (kS ⟨#[]⟩)),
sq 6 (.mv (.t 5)),
zg 7 6 false (.mv (.t 0)),
zg 8 6 false (.slen (.t 7)),
zg 9 6 false (.bin .gtr (.t 8) (kI 40)),
sq 10 (.pick (.t 6) (kB true) (.t 9)),
sq 11 (.mv (.t 10)),
zg 12 11 false (.mv (.t 0)),
zg 13 11 false (.sidx (.t 12) (kI 0)),
zg 14 11 false (.bin .lss (.t 13) (.k (.c (.d (.v (.int .u8 97)))))),
sq 15 (.pick (.t 11) (kB true) (.t 14)),
sq 16 (.mv (.t 15)),
zg 17 16 false (.mv (.t 0)),
zg 18 16 false (.sidx (.t 17) (kI 0)),
zg 19 16 false (.bin .gtr (.t 18) (.k (.c (.d (.v (.int .u8 122)))))),
sq 20 (.pick (.t 16) (kB true) (.t 19))]))
 (.cond (.t 20)
 (.seq (.reg [sq 2 (.mv (kB false))])
 .ret)
 .skip))
 (.seq (.seq (.reg [sq 21 (.mv (.t 0)),
sq 22 (.slen (.t 21)),
sq 23 (.mv (kI 0))])
 (.sem (.block 0 (.loop (.seq (.reg [sq 24 (.bin .lss (.t 23) (.t 22))])
 (.seq (.cond (.t 24)
 .skip
 (.exit 0))
 (.seq (.block 1 (.seq (.reg [sq 25 (.mv (.t 23)),
sq 3 (.mv (.t 25))])
 (.seq (.reg [sq 26 (.mv (.t 0)),
sq 27 (.mv (.t 3)),
sq 28 (.sidx (.t 26) (.t 27)),
sq 29 (.call 144 [(.t 28)]),
sq 30 (.not (.t 29))])
 (.cond (.t 30)
 (.seq (.reg [sq 2 (.mv (kB false))])
 .ret)
 .skip))))
 (.reg [sq 31 (.bin .add (.t 23) (kI 1)),
sq 23 (.mv (.t 31))]))))))))
 (.seq (.reg [sq 2 (.mv (kB true))])
 .ret))))⟩
theorem a130_ok:afn Tryz.prog 130=some a130.er:=by kernel_rfl
theorem F130_ok{x0 r}(h:F130 x0=some r):CallD Tryz.prog 130 [.c (dS x0)] [] (tupV [.c (dB r)]) []:=by
 refine callS a130_ok (by simp[a130]) ?_
 rw[F130]at h
 simp only[a130,VW.down,Nat.reduceEqDiff,reduceCtorEq,Nat.reduceAdd,Nat.reduceLeDiff,Nat.reduceLT,Nat.reduceBEq,Nat.reduceSub,EE.down]
 obtain⟨o1,ho,h⟩:=bi h
 refine cutS (fun s=>s=⟨[(0,.one (.c (dS x0))),(20,.one (.c (dB o1)))],[]⟩) ?_ ?_
 ·have h:=ho
  clear ho
  refine ww ?_
  refine guardSh h (fun g2 h=>?_) (fun g2 h=>?_)
  ·refine ww ?_
   cases h
   exact eM [] rfl
  refine ww ?_
  refine guardSh h (fun g3 h=>?_) (fun g3 h=>?_)
  ·refine ww ?_
   cases h
   exact eM [] rfl
  refine ww ?_
  obtain⟨y4,hy4,h⟩:=bi h
  refine t_sidx rfl rfl hy4 (ww ?_)
  refine guardSh h (fun g5 h=>?_) (fun g5 h=>?_)
  ·refine ww ?_
   cases h
   exact eM [] rfl
  refine ww ?_
  obtain⟨y6,hy6,h⟩:=bi h
  refine t_sidx rfl rfl hy6 (ww ?_)
  cases h
  exact eM [] rfl
 rintro _ rfl
 clear ho
 refine ww ?_
 refine condBh h (fun c7 h=>?_) (fun c7 h=>?_)
 ·refine ww ?_
  cases h
  exact eF []
 refine ww ?_
 obtain⟨o8,ho,h⟩:=bi h
 refine cutS (fun s=>∃po8,o8=Sum.inr po8∧s=⟨[],[]⟩) ?_ ?_
 ·have h0o8:=h
  have h:=ho
  clear ho
  refine ww ?_
  refine bL (fun j s=>∃(o8_0:Int),s=⟨[(0,.one (.c (dS x0))),(22,.one (.c (dI ((x0.size:Int))))),(23,.one (.c (dI o8_0)))],[]⟩∧F130_l8 x0 j o8_0=some o8) 1099511627776 [] ⟨0,rfl,h⟩ ?_
  rintro j _ ⟨o8_0,rfl,h⟩
  cases j with
  |zero=>cases(show(none:Option _)=some _ from h)
  |succ j=>
   rw[F130_l8]at h
   refine ww ?_
   refine condSh h (fun c9 h=>?_) (fun c9 h=>?_)
   ·refine ww ?_
    obtain⟨y10,hy10,h⟩:=bi h
    refine t_sidx rfl rfl hy10 (ww ?_)
    obtain⟨t11,ht11,h⟩:=bi h
    refine cN [] (F144_ok ht11) trivial (ww ?_)
    refine condBh h (fun c12 h=>?_) (fun c12 h=>?_)
    ·refine ww ?_
     obtain⟨fh0o8,hfh0o8,rfl⟩:=Option.map_eq_some_iff.1 h
     have h:=hfh0o8.trans h0o8
     cases h
     exact eF []
    ·refine ww ?_
     exact eL' j [] ⟨(IntKind.i64.wrap (o8_0+1)),rfl,h⟩ (Nat.lt_succ_self _)
   ·refine ww ?_
    cases h
    exact eM [] ⟨_,rfl,rfl⟩
 rintro _ ⟨po8,rfl,rfl⟩
 clear ho
 dsimp only at h
 refine ww ?_
 cases h
 exact eF []
def F107_l1:List Owner→Nat→(List (Int×Bool))→Int→Option ((Bool) ⊕ (Int))
 |[],o1_2,o1_0,o1_1=>some (Sum.inr o1_1)
 |xo1::xs,o1_2,o1_0,o1_1=>(((((F103 xo1.Kind).bind fun t5=>(if(nb t5)=true then some true else(F105 xo1.Name).bind fun t7=>(if(nb t7)=true then some true else(if xo1.Uid≤0 then some true else some (((getM xo1.Uid o1_0).getD false)))))).bind fun o4=>(if o4=true then((some false).map Sum.inl).map Sum.inl else(if xo1.Controller=true then some (Sum.inr ((IntKind.i64.wrap (o1_1+1))))else some (Sum.inr o1_1)))):Option (((Bool) ⊕ (Int)) ⊕ (Int))).bind fun o3=>match o3 with|Sum.inl f=>some f|Sum.inr po3=>F107_l1 xs (o1_2+1) ((putM xo1.Uid true o1_0)) po3)
def F107(x0:(List Owner)):Option (Bool):=(((ck (0≤x0.length∧x0.length≤4294967290)).bind fun u12=>F107_l1 x0 0 ([]) 0:Option ((Bool) ⊕ (Int))).bind fun o1=>match o1 with|Sum.inl f=>some f|Sum.inr po1=>(((if(x0.length:Int)≤16 then some (decide (po1≤1))else some false)).bind fun o13=>some o13))
def a107:AFn:=⟨50,[(.tmp 2)],
 (.seq (.reg [sq 2 (.mv (kB false))])
 (.seq (.reg [sq 7 (.mkmap),
sq 3 (.mv (.t 7))])
 (.seq (.reg [sq 4 (.mv (kI 0))])
 (.seq (.seq (.reg [sq 8 (.mv (.t 0)),
sq 9 (.len (.t 8)),
sq 10 (.mv (kI 0))])
 (.sem (.block 0 (.loop (.seq (.reg [sq 11 (.bin .lss (.t 10) (.t 9))])
 (.seq (.cond (.t 11)
 .skip
 (.exit 0))
 (.seq (.sem (.block 1 (.seq (.reg [sq 12 (.indexA 5 (.t 8) (.t 10)),
sq 13 (.load (some 5) (.t 12)),
sq 6 (.zbox [dS ⟨#[]⟩,dS ⟨#[]⟩,dI 0,dB false,dB false]),
su (.store 5 (.t 6) (.t 13))])
 (.seq (.seq (.sem (.reg [sq 14 (.fieldA 0 (.t 6)),
sq 15 (.load none (.t 14)),
sq 16 (.call 103 [(.t 15)]),
sq 17 (.not (.t 16)),
sq 18 (.mv (.t 17)),
zg 19 18 false (.fieldA 1 (.t 6)),
zg 20 18 false (.load none (.t 19)),
zg 21 18 false (.call 105 [(.t 20)]),
zg 22 18 false (.not (.t 21)),
sq 23 (.pick (.t 18) (kB true) (.t 22)),
sq 24 (.mv (.t 23)),
zg 25 24 false (.fieldA 2 (.t 6)),
zg 26 24 false (.load none (.t 25)),
zg 27 24 false (.bin .leq (.t 26) (kI 0)),
sq 28 (.pick (.t 24) (kB true) (.t 27)),
sq 29 (.mv (.t 28)),
zg 30 29 false (.mv (.t 3)),
zg 31 29 false (.fieldA 2 (.t 6)),
zg 32 29 false (.load none (.t 31)),
zg 33 29 false (.mget 0 false (.c (dB false)) (.t 30) (.t 32)),
sq 34 (.pick (.t 29) (kB true) (.t 33))]))
 (.cond (.t 34)
 (.seq (.reg [sq 2 (.mv (kB false))])
 .ret)
 .skip))
 (.seq (.reg [sq 35 (.mv (.t 3)),
sq 36 (.fieldA 2 (.t 6)),
sq 37 (.load none (.t 36)),
⟨none,none,.mset 0 (.t 35) (.t 37) (kB true),[],(.lone [6,36])⟩])
 (.seq (.reg [sq 38 (.fieldA 3 (.t 6)),
sq 39 (.load none (.t 38))])
 (.cond (.t 39)
 (.reg [sq 40 (.mv (.t 4)),
sq 41 (.bin .add (.t 40) (kI 1)),
sq 4 (.mv (.t 41))])
 .skip)))))))
 (.reg [sq 42 (.bin .add (.t 10) (kI 1)),
sq 10 (.mv (.t 42))]))))))))
 (.seq (.sem (.reg [sq 43 (.mv (.t 0)),
sq 44 (.len (.t 43)),
sq 45 (.bin .leq (.t 44) (kI 16)),
sq 46 (.mv (.t 45)),
zg 47 46 true (.mv (.t 4)),
zg 48 46 true (.bin .leq (.t 47) (kI 1)),
sq 49 (.pick (.t 46) (.t 48) (kB false)),
sq 2 (.mv (.t 49))]))
 .ret)))))⟩
theorem a107_ok:afn Tryz.prog 107=some a107.er:=by kernel_rfl
theorem F107_ok{x0 r}(h:F107 x0=some r):CallD Tryz.prog 107 [.c (dM (x0.map eOwner))] [] (tupV [.c (dB r)]) []:=by
 refine callS a107_ok (by simp[a107]) ?_
 rw[F107]at h
 simp only[a107,VW.down,Nat.reduceEqDiff,reduceCtorEq,Nat.reduceAdd,Nat.reduceLeDiff,Nat.reduceLT,Nat.reduceBEq,Nat.reduceSub,EE.down]
 refine t_mkmap1 (κ:=Int) (α:=Bool) (enc:=(fun x=> .v (.bool x))) (Value.int .i64) (ww ?_)
 obtain⟨o1,ho,h⟩:=bi h
 refine cutS (fun s=>∃po1,o1=Sum.inr po1∧s=⟨[(0,.one (.c (dM (x0.map eOwner)))),(4,.one (.c (dI po1)))],[]⟩) ?_ ?_
 ·have h0o1:=h
  have h:=ho
  clear ho
  obtain⟨_,hk,h⟩:=bi h
  have hk:=ck_some hk
  refine ww ?_
  refine bL (fun j s=>∃(o1_2:Nat) (o1_0:List (Int×Bool)) (o1_1:Int),(o1_2≤x0.length∧j=x0.length-o1_2)∧s=⟨[(0,.one (.c (dM (x0.map eOwner)))),(3,.one (.c (.mref 0))),(4,.one (.c (dI o1_1))),(8,.one (.c (dM (x0.map eOwner)))),(9,.one (.c (dI ((x0.length:Int))))),(10,.one (.c (dI ((o1_2:Int)))))],[some (.map (eM1 (Value.int .i64) (fun x=> .v (.bool x)) o1_0))]⟩∧F107_l1 (x0.drop o1_2) o1_2 o1_0 o1_1=some o1) (x0.length-0) [some 0] ⟨0,[],0,⟨hk.1,rfl⟩,rfl,h⟩ ?_
  rintro _ _ ⟨o1_2,o1_0,o1_1,⟨hi,rfl⟩,rfl,h⟩
  refine ww ?_
  refine condS (fun c2=>?_) (fun c2=>?_)
  ·obtain⟨xo1,hxo1,hd⟩:=countY (show(o1_2:Int)<(x0.length:Int)from c2)
   rw[hd,F107_l1]at h
   refine ww ?_
   obtain⟨o3,ho,h⟩:=bi h
   refine cutS (fun s=>∃po3,o3=Sum.inr po3∧s=⟨[(0,.one (.c (dM (x0.map eOwner)))),(3,.one (.c (.mref 0))),(4,.one (.c (dI po3))),(8,.one (.c (dM (x0.map eOwner)))),(9,.one (.c (dI ((x0.length:Int))))),(10,.one (.c (dI ((o1_2:Int)))))],[some (.map (eM1 (Value.int .i64) (fun x=> .v (.bool x)) ((putM xo1.Uid true o1_0))))]⟩) ?_ ?_
   ·have h0o3:=h
    have h:=ho
    clear ho
    refine ww ?_
    refine t_idxF (enc:=eOwner) (xs:=x0) rfl rfl hxo1 rfl (ww ?_)
    obtain⟨o4,ho,h⟩:=bi h
    refine cutS (fun s=>s=⟨[(0,.one (.c (dM (x0.map eOwner)))),(3,.one (.c (.mref 0))),(4,.one (.c (dI o1_1))),(6,.one (.c (.pt 1 0))),(8,.one (.c (dM (x0.map eOwner)))),(9,.one (.c (dI ((x0.length:Int))))),(10,.one (.c (dI ((o1_2:Int))))),(34,.one (.c (dB o4)))],[some (.map (eM1 (Value.int .i64) (fun x=> .v (.bool x)) o1_0)),some (.box [dS xo1.Kind,dS xo1.Name,dI xo1.Uid,dB xo1.Controller,dB xo1.Block])]⟩) ?_ ?_
    ·have h:=ho
     clear ho
     refine ww ?_
     obtain⟨t5,ht5,h⟩:=bi h
     refine cN [] (F103_ok ht5) trivial (ww ?_)
     refine guardSBh h (fun g6 h=>?_) (fun g6 h=>?_)
     ·refine ww ?_
      cases h
      exact eM [some 0,some 1] rfl
     refine ww ?_
     obtain⟨t7,ht7,h⟩:=bi h
     refine cN [] (F105_ok ht7) trivial (ww ?_)
     refine guardSBh h (fun g8 h=>?_) (fun g8 h=>?_)
     ·refine ww ?_
      cases h
      exact eM [some 0,some 1] rfl
     refine ww ?_
     refine guardSh h (fun g9 h=>?_) (fun g9 h=>?_)
     ·refine ww ?_
      cases h
      exact eM [some 0,some 1] rfl
     refine ww ?_
     refine t_mget1 (enc:=(fun x=> .v (.bool x))) (l:=o1_0) (z:=false) kkI rfl rfl rfl rfl (ww ?_)
     cases h
     exact eM [some 0,some 1] rfl
    rintro _ rfl
    clear ho
    refine ww ?_
    refine condBh h (fun c10 h=>?_) (fun c10 h=>?_)
    ·refine ww ?_
     obtain⟨fh0o3,hfh0o3,rfl⟩:=Option.map_eq_some_iff.1 h
     have h:=hfh0o3.trans h0o3
     obtain⟨fh0o1,hfh0o1,rfl⟩:=Option.map_eq_some_iff.1 h
     have h:=hfh0o1.trans h0o1
     cases h
     exact eF []
    refine ww ?_
    refine t_mset1 (enc:=(fun x=> .v (.bool x))) (l:=o1_0) (x:=true) kkI rfl rfl rfl rfl (ww ?_)
    refine condBh h (fun c11 h=>?_) (fun c11 h=>?_)
    ·refine ww ?_
     cases h
     exact eM [some 0] ⟨_,rfl,rfl⟩
    refine ww ?_
    cases h
    exact eM [some 0] ⟨_,rfl,rfl⟩
   rintro _ ⟨po3,rfl,rfl⟩
   clear ho
   dsimp only at h
   refine ww ?_
   rw[wrapN (by omega)]
   exact eL' (x0.length-(o1_2+1)) [some 0] ⟨o1_2+1,(putM xo1.Uid true o1_0),po3,⟨by omega,rfl⟩,rfl,h⟩ (by omega)
  rw[countN (show¬((o1_2:Int)<(x0.length:Int))from c2),F107_l1]at h
  refine ww ?_
  cases h
  exact eM [] ⟨_,rfl,rfl⟩
 rintro _ ⟨po1,rfl,rfl⟩
 clear ho
 dsimp only at h
 refine ww ?_
 obtain⟨o13,ho,h⟩:=bi h
 refine cutS (fun s=>s=⟨[(2,.one (.c (dB o13)))],[]⟩) ?_ ?_
 ·have h:=ho
  clear ho
  refine ww ?_
  refine guardSh h (fun g14 h=>?_) (fun g14 h=>?_)
  ·refine ww ?_
   cases h
   exact eM [] rfl
  refine ww ?_
  cases h
  exact eM [] rfl
 rintro _ rfl
 clear ho
 refine ww ?_
 cases h
 exact eF []
def F109_l1(x0:(List Manager)):List Manager→Nat→Option ((Bool) ⊕ (Unit))
 |[],o1_0=>some (Sum.inr (()))
 |xo1::xs,o1_0=>(((F105 xo1.Name).bind fun t4=>(if(nb t4)=true then some true else(if 0<(o1_0:Int)then(rdI x0 ((IntKind.i64.wrap (((o1_0:Int))-1)))).bind fun y7=>(if(nb (Op.bytesLess y7.Name.toList xo1.Name.toList))=true then some true else(if(xo1.Fields.length:Int)<1 then some true else(if 600<(xo1.Fields.length:Int)then some true else(F132 xo1.Fields).bind fun t11=>some (nb t11))))else(if(xo1.Fields.length:Int)<1 then some true else(if 600<(xo1.Fields.length:Int)then some true else(F132 xo1.Fields).bind fun t14=>some (nb t14)))))).bind fun o3=>(if o3=true then(some false).map Sum.inl else F109_l1 x0 xs (o1_0+1)))
def F109(x0:(List Manager)):Option (Bool):=(((ck (0≤x0.length∧x0.length≤4294967290)).bind fun u16=>F109_l1 x0 x0 0:Option ((Bool) ⊕ (Unit))).bind fun o1=>match o1 with|Sum.inl f=>some f|Sum.inr po1=>some (decide ((x0.length:Int)≤16)))
def a109:AFn:=⟨53,[(.tmp 2)],
 (.seq (.reg [sq 2 (.mv (kB false))])
 (.seq (.seq (.reg [sq 5 (.mv (.t 0)),
sq 6 (.len (.t 5)),
sq 7 (.mv (kI 0))])
 (.sem (.block 0 (.loop (.seq (.reg [sq 8 (.bin .lss (.t 7) (.t 6))])
 (.seq (.cond (.t 8)
 .skip
 (.exit 0))
 (.seq (.block 1 (.seq (.reg [sq 9 (.mv (.t 7)),
sq 10 (.indexA 2 (.t 5) (.t 7)),
sq 11 (.load (some 2) (.t 10)),
sq 4 (.zbox [dS ⟨#[]⟩,dN]),
sq 3 (.mv (.t 9)),
su (.store 2 (.t 4) (.t 11))])
 (.seq (.sem (.regd [sq 12 (.fieldA 0 (.t 4)),
sd 13 (.load none (.t 12)) [0],
zl 14 (.call 105 [(.t 13)]) [0,1] [],
sd 15 (.not (.t 14)) [0,1,2],
sd 16 (.mv (.t 15)) [0,1,2,3],
⟨(some 17),(some (16,false)),.mv (.t 3),[0,1,2,3,4],(.new [])⟩,
⟨(some 18),(some (16,false)),.bin .gtr (.t 17) (kI 0),[0,1,2,3,4,5],(.new [])⟩,
⟨(some 19),(some (16,false)),.mv (.t 18),[0,1,2,3,4,5,6],(.new [])⟩,
⟨(some 20),(some (19,true)),.mv (.t 0),[0,1,2,3,4,5,6,7],(.new [])⟩,
⟨(some 21),(some (19,true)),.mv (.t 3),[0,1,2,3,4,5,6,7],(.new [])⟩,
⟨(some 22),(some (19,true)),.bin .sub (.t 21) (kI 1),[0,1,2,3,4,5,6,7,9],(.new [])⟩,
⟨(some 23),(some (19,true)),.indexA 2 (.t 20) (.t 22),[0,1,2,3,4,5,6,7,8,9,10],(.new [])⟩,
⟨(some 24),(some (19,true)),.fieldA 0 (.t 23),[0,1,2,3,4,5,6,7,8,9,10,11],(.new [])⟩,
⟨(some 25),(some (19,true)),.load none (.t 24),[0,1,2,3,4,5,6,7,8,9,10,11,12],(.new [])⟩,
⟨(some 26),(some (19,true)),.fieldA 0 (.t 4),[0,1,2,3,4,5,6,7],(.new [])⟩,
⟨(some 27),(some (19,true)),.load none (.t 26),[0,1,2,3,4,5,6,7,14],(.new [])⟩,
⟨(some 28),(some (19,true)),.bin .geq (.t 25) (.t 27),[0,1,2,3,4,5,6,7,8,9,10,11,12,13,14,15],(.new [])⟩,
⟨(some 29),(some (16,false)),.pick (.t 19) (.t 28) (kB false),[0,1,2,3,4,5,6,7,8,9,10,11,12,13,14,15,16],(.lone [])⟩,
zl 30 (.pick (.t 16) (kB true) (.t 29)) [0,1,2,3,4,5,6,7,8,9,10,11,12,13,14,15,16,17] [],
sd 31 (.mv (.t 30)) [0,1,2,3,4,5,6,7,8,9,10,11,12,13,14,15,16,17,18],
⟨(some 32),(some (31,false)),.fieldA 1 (.t 4),[0,1,2,3,4,5,6,7,8,9,10,11,12,13,14,15,16,17,18,19],(.new [])⟩,
⟨(some 33),(some (31,false)),.load none (.t 32),[0,1,2,3,4,5,6,7,8,9,10,11,12,13,14,15,16,17,18,19,20],(.new [])⟩,
⟨(some 34),(some (31,false)),.len (.t 33),[0,1,2,3,4,5,6,7,8,9,10,11,12,13,14,15,16,17,18,19,20,21],(.new [])⟩,
⟨(some 35),(some (31,false)),.bin .lss (.t 34) (kI 1),[0,1,2,3,4,5,6,7,8,9,10,11,12,13,14,15,16,17,18,19,20,21,22],(.new [])⟩,
zl 36 (.pick (.t 31) (kB true) (.t 35)) [0,1,2,3,4,5,6,7,8,9,10,11,12,13,14,15,16,17,18,19,20,21,22,23] [],
sd 37 (.mv (.t 36)) [0,1,2,3,4,5,6,7,8,9,10,11,12,13,14,15,16,17,18,19,20,21,22,23,24],
⟨(some 38),(some (37,false)),.fieldA 1 (.t 4),[0,1,2,3,4,5,6,7,8,9,10,11,12,13,14,15,16,17,18,19,20,21,22,23,24,25],(.new [])⟩,
⟨(some 39),(some (37,false)),.load none (.t 38),[0,1,2,3,4,5,6,7,8,9,10,11,12,13,14,15,16,17,18,19,20,21,22,23,24,25,26],(.new [])⟩,
⟨(some 40),(some (37,false)),.len (.t 39),[0,1,2,3,4,5,6,7,8,9,10,11,12,13,14,15,16,17,18,19,20,21,22,23,24,25,26,27],(.new [])⟩,
⟨(some 41),(some (37,false)),.bin .gtr (.t 40) (kI 600),[0,1,2,3,4,5,6,7,8,9,10,11,12,13,14,15,16,17,18,19,20,21,22,23,24,25,26,27,28],(.new [])⟩,
zl 42 (.pick (.t 37) (kB true) (.t 41)) [0,1,2,3,4,5,6,7,8,9,10,11,12,13,14,15,16,17,18,19,20,21,22,23,24,25,26,27,28,29] [],
sd 43 (.mv (.t 42)) [0,1,2,3,4,5,6,7,8,9,10,11,12,13,14,15,16,17,18,19,20,21,22,23,24,25,26,27,28,29,30],
⟨(some 44),(some (43,false)),.fieldA 1 (.t 4),[0,1,2,3,4,5,6,7,8,9,10,11,12,13,14,15,16,17,18,19,20,21,22,23,24,25,26,27,28,29,30,31],(.new [])⟩,
⟨(some 45),(some (43,false)),.load none (.t 44),[0,1,2,3,4,5,6,7,8,9,10,11,12,13,14,15,16,17,18,19,20,21,22,23,24,25,26,27,28,29,30,31,32],(.new [])⟩,
⟨(some 46),(some (43,false)),.call 132 [(.t 45)],[0,1,2,3,4,5,6,7,8,9,10,11,12,13,14,15,16,17,18,19,20,21,22,23,24,25,26,27,28,29,30,31,32,33],(.lone [])⟩,
⟨(some 47),(some (43,false)),.not (.t 46),[0,1,2,3,4,5,6,7,8,9,10,11,12,13,14,15,16,17,18,19,20,21,22,23,24,25,26,27,28,29,30,31,32,33,34],(.new [])⟩,
zl 48 (.pick (.t 43) (kB true) (.t 47)) [0,1,2,3,4,5,6,7,8,9,10,11,12,13,14,15,16,17,18,19,20,21,22,23,24,25,26,27,28,29,30,31,32,33,34,35] []]))
 (.cond (.t 48)
 (.seq (.reg [sq 2 (.mv (kB false))])
 .ret)
 .skip))))
 (.reg [sq 49 (.bin .add (.t 7) (kI 1)),
sq 7 (.mv (.t 49))]))))))))
 (.seq (.reg [sq 50 (.mv (.t 0)),
sq 51 (.len (.t 50)),
sq 52 (.bin .leq (.t 51) (kI 16)),
sq 2 (.mv (.t 52))])
 .ret)))⟩
theorem a109_ok:afn Tryz.prog 109=some a109.er:=by kernel_rfl
theorem F109_ok{x0 r}(h:F109 x0=some r):CallD Tryz.prog 109 [.c (dM (x0.map eManager))] [] (tupV [.c (dB r)]) []:=by
 refine callS a109_ok (by simp[a109]) ?_
 rw[F109]at h
 simp only[a109,VW.down,Nat.reduceEqDiff,reduceCtorEq,Nat.reduceAdd,Nat.reduceLeDiff,Nat.reduceLT,Nat.reduceBEq,Nat.reduceSub,EE.down]
 obtain⟨o1,ho,h⟩:=bi h
 refine cutS (fun s=>∃po1,o1=Sum.inr po1∧s=⟨[(0,.one (.c (dM (x0.map eManager))))],[]⟩) ?_ ?_
 ·have h0o1:=h
  have h:=ho
  clear ho
  obtain⟨_,hk,h⟩:=bi h
  have hk:=ck_some hk
  refine ww ?_
  refine bL (fun j s=>∃(o1_0:Nat),(o1_0≤x0.length∧j=x0.length-o1_0)∧s=⟨[(0,.one (.c (dM (x0.map eManager)))),(5,.one (.c (dM (x0.map eManager)))),(6,.one (.c (dI ((x0.length:Int))))),(7,.one (.c (dI ((o1_0:Int)))))],[]⟩∧F109_l1 x0 (x0.drop o1_0) o1_0=some o1) (x0.length-0) [] ⟨0,⟨hk.1,rfl⟩,rfl,h⟩ ?_
  rintro _ _ ⟨o1_0,⟨hi,rfl⟩,rfl,h⟩
  refine ww ?_
  refine condS (fun c2=>?_) (fun c2=>?_)
  ·obtain⟨xo1,hxo1,hd⟩:=countY (show(o1_0:Int)<(x0.length:Int)from c2)
   rw[hd,F109_l1]at h
   refine ww ?_
   refine t_idxF (enc:=eManager) (xs:=x0) rfl rfl hxo1 rfl (ww ?_)
   obtain⟨o3,ho,h⟩:=bi h
   refine cutS (fun s=>s=⟨[(0,.one (.c (dM (x0.map eManager)))),(5,.one (.c (dM (x0.map eManager)))),(6,.one (.c (dI ((x0.length:Int))))),(7,.one (.c (dI ((o1_0:Int))))),(48,.one (.c (dB o3)))],[]⟩) ?_ ?_
   ·have h:=ho
    clear ho
    refine ww ?_
    obtain⟨t4,ht4,h⟩:=bi h
    refine cN [] (F105_ok ht4) trivial (ww ?_)
    refine guardDBh h (fun g5 h=>?_) (fun g5 h=>?_)
    ·refine ww ?_
     cases h
     exact eM [] rfl
    refine ww ?_
    refine guardDh h (fun g6 h=>?_) (fun g6 h=>?_)
    ·refine ww ?_
     obtain⟨y7,hy7,h⟩:=bi h
     refine t_idxF (enc:=eManager) (xs:=x0) rfl rfl hy7 rfl (ww ?_)
     refine guardDBh h (fun g8 h=>?_) (fun g8 h=>?_)
     ·refine ww ?_
      cases h
      exact eM [] rfl
     refine ww ?_
     refine guardDh h (fun g9 h=>?_) (fun g9 h=>?_)
     ·refine ww ?_
      cases h
      exact eM [] rfl
     refine ww ?_
     refine guardDh h (fun g10 h=>?_) (fun g10 h=>?_)
     ·refine ww ?_
      cases h
      exact eM [] rfl
     refine ww ?_
     obtain⟨t11,ht11,h⟩:=bi h
     refine cN [] (F132_ok ht11) trivial (ww ?_)
     cases h
     exact eM [] rfl
    refine ww ?_
    refine guardDh h (fun g12 h=>?_) (fun g12 h=>?_)
    ·refine ww ?_
     cases h
     exact eM [] rfl
    refine ww ?_
    refine guardDh h (fun g13 h=>?_) (fun g13 h=>?_)
    ·refine ww ?_
     cases h
     exact eM [] rfl
    refine ww ?_
    obtain⟨t14,ht14,h⟩:=bi h
    refine cN [] (F132_ok ht14) trivial (ww ?_)
    cases h
    exact eM [] rfl
   rintro _ rfl
   clear ho
   refine ww ?_
   refine condBh h (fun c15 h=>?_) (fun c15 h=>?_)
   ·refine ww ?_
    obtain⟨fh0o1,hfh0o1,rfl⟩:=Option.map_eq_some_iff.1 h
    have h:=hfh0o1.trans h0o1
    cases h
    exact eF []
   refine ww ?_
   rw[wrapN (by omega)]
   exact eL' (x0.length-(o1_0+1)) [] ⟨o1_0+1,⟨by omega,rfl⟩,rfl,h⟩ (by omega)
  rw[countN (show¬((o1_0:Int)<(x0.length:Int))from c2),F109_l1]at h
  refine ww ?_
  cases h
  exact eM [] ⟨_,rfl,rfl⟩
 rintro _ ⟨po1,rfl,rfl⟩
 clear ho
 dsimp only at h
 refine ww ?_
 cases h
 exact eF []
def F87_l5(o1_0:Nat)(x0:(List ByteArray))(xo1:ByteArray):Nat→Int→Option (((Bool) ⊕ (Unit)) ⊕ (Unit))
 |0,_=>none
 |k+1,o5_0=>(if o5_0<(o1_0:Int)then(rdI x0 o5_0).bind fun y7=>(if y7=xo1 then((some false).map Sum.inl).map Sum.inl else F87_l5 o1_0 x0 xo1 k ((IntKind.i64.wrap (o5_0+1))))else some (Sum.inr (())))
def F87_l1(x0:(List ByteArray)):List ByteArray→Nat→Option ((Bool) ⊕ (Unit))
 |[],o1_0=>some (Sum.inr (()))
 |xo1::xs,o1_0=>(F84 xo1).bind fun t3=>(if(nb t3)=true then(some false).map Sum.inl else((F87_l5 o1_0 x0 xo1 1099511627776 0:Option (((Bool) ⊕ (Unit)) ⊕ (Unit))).bind fun o5=>match o5 with|Sum.inl f=>some f|Sum.inr po5=>F87_l1 x0 xs (o1_0+1)))
def F87(x0:(List ByteArray)):Option (Bool):=(((ck (0≤x0.length∧x0.length≤4294967290)).bind fun u9=>F87_l1 x0 x0 0:Option ((Bool) ⊕ (Unit))).bind fun o1=>match o1 with|Sum.inl f=>some f|Sum.inr po1=>some (decide ((x0.length:Int)≤16)))
def a87:AFn:=⟨34,[(.tmp 2)],
 (.seq (.reg [sq 2 (.mv (kB false))])
 (.seq (.seq (.reg [sq 3 (.mv (kI 0))])
 (.sem (.block 0 (.loop (.seq (.seq (.reg [sq 5 (.mv (.t 3)),
sq 6 (.mv (.t 0)),
sq 7 (.len (.t 6)),
sq 8 (.bin .lss (.t 5) (.t 7))])
 (.cond (.t 8)
 .skip
 (.exit 0)))
 (.seq (.block 1 (.seq (.seq (.reg [sq 11 (.mv (.t 0)),
sq 12 (.mv (.t 3)),
sq 13 (.indexA 1 (.t 11) (.t 12)),
sq 14 (.load none (.t 13)),
sq 15 (.call 84 [(.t 14)]),
sq 16 (.not (.t 15))])
 (.cond (.t 16)
 (.seq (.reg [sq 2 (.mv (kB false))])
 .ret)
 .skip))
 (.seq (.reg [sq 4 (.mv (kI 0))])
 (.sem (.block 2 (.loop (.seq (.seq (.reg [sq 17 (.mv (.t 4)),
sq 18 (.mv (.t 3)),
sq 19 (.bin .lss (.t 17) (.t 18))])
 (.cond (.t 19)
 .skip
 (.exit 2)))
 (.seq (.block 3 (.seq (.regd [sq 22 (.mv (.t 0)),
sq 23 (.mv (.t 4)),
sd 24 (.indexA 1 (.t 22) (.t 23)) [0,1],
sd 25 (.load none (.t 24)) [0,1,2],
sq 26 (.mv (.t 0)),
sq 27 (.mv (.t 3)),
sd 28 (.indexA 1 (.t 26) (.t 27)) [4,5],
sd 29 (.load none (.t 28)) [4,5,6],
sd 30 (.bin .eql (.t 25) (.t 29)) [0,1,2,3,4,5,6,7]])
 (.cond (.t 30)
 (.seq (.reg [sq 2 (.mv (kB false))])
 .ret)
 .skip)))
 (.reg [sq 20 (.mv (.t 4)),
sq 21 (.bin .add (.t 20) (kI 1)),
sq 4 (.mv (.t 21))])))))))))
 (.reg [sq 9 (.mv (.t 3)),
sq 10 (.bin .add (.t 9) (kI 1)),
sq 3 (.mv (.t 10))])))))))
 (.seq (.reg [sq 31 (.mv (.t 0)),
sq 32 (.len (.t 31)),
sq 33 (.bin .leq (.t 32) (kI 16)),
sq 2 (.mv (.t 33))])
 .ret)))⟩
theorem a87_ok:afn Tryz.prog 87=some a87.er:=by kernel_rfl
theorem F87_ok{x0 r}(h:F87 x0=some r):CallD Tryz.prog 87 [.c (dM (x0.map eS))] [] (tupV [.c (dB r)]) []:=by
 refine callS a87_ok (by simp[a87]) ?_
 rw[F87]at h
 simp only[a87,VW.down,Nat.reduceEqDiff,reduceCtorEq,Nat.reduceAdd,Nat.reduceLeDiff,Nat.reduceLT,Nat.reduceBEq,Nat.reduceSub,EE.down]
 obtain⟨o1,ho,h⟩:=bi h
 refine cutS (fun s=>∃po1,o1=Sum.inr po1∧s=⟨[(0,.one (.c (dM (x0.map eS))))],[]⟩) ?_ ?_
 ·have h0o1:=h
  have h:=ho
  clear ho
  obtain⟨_,hk,h⟩:=bi h
  have hk:=ck_some hk
  refine ww ?_
  refine bL (fun j s=>∃(o1_0:Nat),(o1_0≤x0.length∧j=x0.length-o1_0)∧s=⟨[(0,.one (.c (dM (x0.map eS)))),(3,.one (.c (dI ((o1_0:Int)))))],[]⟩∧F87_l1 x0 (x0.drop o1_0) o1_0=some o1) (x0.length-0) [] ⟨0,⟨hk.1,rfl⟩,rfl,h⟩ ?_
  rintro _ _ ⟨o1_0,⟨hi,rfl⟩,rfl,h⟩
  refine ww ?_
  refine condS (fun c2=>?_) (fun c2=>?_)
  ·obtain⟨xo1,hxo1,hd⟩:=countY (show(o1_0:Int)<(x0.length:Int)from c2)
   rw[hd,F87_l1]at h
   refine ww ?_
   refine t_idxF (enc:=eS) (xs:=x0) rfl rfl hxo1 rfl (ww ?_)
   obtain⟨t3,ht3,h⟩:=bi h
   refine cN [] (F84_ok ht3) trivial (ww ?_)
   refine condBh h (fun c4 h=>?_) (fun c4 h=>?_)
   ·refine ww ?_
    obtain⟨fh0o1,hfh0o1,rfl⟩:=Option.map_eq_some_iff.1 h
    have h:=hfh0o1.trans h0o1
    cases h
    exact eF []
   refine ww ?_
   obtain⟨o5,ho,h⟩:=bi h
   refine cutS (fun s=>∃po5,o5=Sum.inr po5∧s=⟨[(0,.one (.c (dM (x0.map eS)))),(3,.one (.c (dI ((o1_0:Int)))))],[]⟩) ?_ ?_
   ·have h0o5:=h
    have h:=ho
    clear ho
    refine ww ?_
    refine bL (fun j s=>∃(o5_0:Int),s=⟨[(0,.one (.c (dM (x0.map eS)))),(3,.one (.c (dI ((o1_0:Int))))),(4,.one (.c (dI o5_0)))],[]⟩∧F87_l5 o1_0 x0 xo1 j o5_0=some o5) 1099511627776 [] ⟨0,rfl,h⟩ ?_
    rintro j _ ⟨o5_0,rfl,h⟩
    cases j with
    |zero=>cases(show(none:Option _)=some _ from h)
    |succ j=>
     rw[F87_l5]at h
     refine ww ?_
     refine condSh h (fun c6 h=>?_) (fun c6 h=>?_)
     ·refine ww ?_
      obtain⟨y7,hy7,h⟩:=bi h
      refine t_idxF (enc:=eS) (xs:=x0) rfl rfl hy7 rfl (ww ?_)
      refine t_idxF (enc:=eS) (xs:=x0) rfl rfl hxo1 rfl (ww ?_)
      refine condSh h (fun c8 h=>?_) (fun c8 h=>?_)
      ·refine ww ?_
       obtain⟨fh0o5,hfh0o5,rfl⟩:=Option.map_eq_some_iff.1 h
       have h:=hfh0o5.trans h0o5
       obtain⟨fh0o1,hfh0o1,rfl⟩:=Option.map_eq_some_iff.1 h
       have h:=hfh0o1.trans h0o1
       cases h
       exact eF []
      ·refine ww ?_
       exact eL' j [] ⟨(IntKind.i64.wrap (o5_0+1)),rfl,h⟩ (Nat.lt_succ_self _)
     ·refine ww ?_
      cases h
      exact eM [] ⟨_,rfl,rfl⟩
   rintro _ ⟨po5,rfl,rfl⟩
   clear ho
   dsimp only at h
   refine ww ?_
   rw[wrapN (by omega)]
   exact eL' (x0.length-(o1_0+1)) [] ⟨o1_0+1,⟨by omega,rfl⟩,rfl,h⟩ (by omega)
  rw[countN (show¬((o1_0:Int)<(x0.length:Int))from c2),F87_l1]at h
  refine ww ?_
  cases h
  exact eM [] ⟨_,rfl,rfl⟩
 rintro _ ⟨po1,rfl,rfl⟩
 clear ho
 dsimp only at h
 refine ww ?_
 cases h
 exact eF []
end Go.Proofs.YtbopaemngpbdgaaGreat
