/- Each Go function as a function over typed data, and its walk. -/
import Derived.Test.YtdkmamiedcanfaaGreatW0
import Derived.Test.YtdkmamiedcanfaaGreatW1
import Derived.Test.YtdkmamiedcanfaaGreatW2
namespace Go.Proofs.YtdkmamiedcanfaaGreat
open Go Go.Fw Go.Shelf
set_option maxRecDepth 100000
set_option maxHeartbeats 4000000
set_option linter.unusedSimpArgs false
set_option linter.unusedVariables false
def F39(x0:Meta):Option (ByteArray):=(F70 x0.Kind x0.Namespace x0.Name).bind fun t1=>some t1
def a39:AFn:=⟨10,[(.tmp 2)],
 (.seq (.reg [sq 1 (.box (.t 0)),
sq 2 (.mv (kS ⟨#[]⟩))])
 (.seq (.reg [sq 3 (.fieldA 0 (.t 1)),
sq 4 (.load none (.t 3)),
sq 5 (.fieldA 1 (.t 1)),
sq 6 (.load none (.t 5)),
sq 7 (.fieldA 2 (.t 1)),
sq 8 (.load none (.t 7)),
sq 9 (.call 70 [(.t 4),(.t 6),(.t 8)]),
sq 2 (.mv (.t 9))])
 .ret))⟩
theorem F39_ok{x0 r}(h:F39 x0=some r):CallD Tryz.prog 39 [.agg [dS x0.Kind,dS x0.Namespace,dS x0.Name,dI x0.Uid,dI x0.Version,dI x0.Generation,dI x0.Created,dB x0.Deleting,dI x0.DeleteAt,dM (x0.Labels.map eLabel),dM (x0.Owners.map eOwner),dM (x0.Finalizers.map eS),dM (x0.Managers.map eManager)]] [] (tupV [.c (dS r)]) []:=by
 rw[F39]at h
 refine zc a39 (by kernel_rfl) rfl (ww ?_)
 obtain⟨t1,ht1,h⟩:=bi h
 refine cN [] (F70_ok ht1) trivial (ww ?_)
 cases h
 exact eF []
def F120_l8(x0:ByteArray):Nat→Int→Option ((Bool) ⊕ (Unit))
 |0,_=>none
 |k+1,o8_0=>(if o8_0<(x0.size:Int)then(byI x0 o8_0).bind fun y10=>(F159 y10).bind fun t11=>(if(nb t11)=true then(some false).map Sum.inl else F120_l8 x0 k ((IntKind.i64.wrap (o8_0+1))))else some (Sum.inr (())))
def F120(x0:ByteArray):Option (Bool):=(((if(x0.size:Int)<1 then some true else(if 40<(x0.size:Int)then some true else(byI x0 0).bind fun y4=>(if y4<97 then some true else(byI x0 0).bind fun y6=>some (decide (122<y6)))))).bind fun o1=>(if o1=true then some false else((F120_l8 x0 1099511627776 0:Option ((Bool) ⊕ (Unit))).bind fun o8=>match o8 with|Sum.inl f=>some f|Sum.inr po8=>some true)))
def a120:AFn:=⟨33,[(.tmp 2)],
 (.seq (.reg [sq 2 (.mv (kB false))])
 (.seq (.seq (.sem (.reg [sq 4 (.mv (.t 0)),
sq 5 (.slen (.t 4)),
sq 6 (.bin .lss (.t 5) (kI 1)),
sq 7 (.mv (.t 6)),
zg 8 7 false (.mv (.t 0)),
zg 9 7 false (.slen (.t 8)),
zg 10 7 false (.bin .gtr (.t 9) (kI 40)),
sq 11 (.pick (.t 7) (kB true) (.t 10)),
sq 12 (.mv (.t 11)),
zg 13 12 false (.mv (.t 0)),
zg 14 12 false (.sidx (.t 13) (kI 0)),
zg 15 12 false (.bin .lss (.t 14) (.k (.c (.d (.v (.int .u8 97)))))),
sq 16 (.pick (.t 12) (kB true) (.t 15)),
sq 17 (.mv (.t 16)),
zg 18 17 false (.mv (.t 0)),
zg 19 17 false (.sidx (.t 18) (kI 0)),
zg 20 17 false (.bin .gtr (.t 19) (.k (.c (.d (.v (.int .u8 122)))))),
sq 21 (.pick (.t 17) (kB true) (.t 20))]))
 (.cond (.t 21)
 (.seq (.reg [sq 2 (.mv (kB false))])
 .ret)
 .skip))
 (.seq (.seq (.reg [sq 3 (.mv (kI 0))])
 (.sem (.block 0 (.loop (.seq (.seq (.reg [sq 22 (.mv (.t 3)),
sq 23 (.mv (.t 0)),
sq 24 (.slen (.t 23)),
sq 25 (.bin .lss (.t 22) (.t 24))])
 (.cond (.t 25)
 .skip
 (.exit 0)))
 (.seq (.block 1 (.seq (.reg [sq 28 (.mv (.t 0)),
sq 29 (.mv (.t 3)),
sq 30 (.sidx (.t 28) (.t 29)),
sq 31 (.call 159 [(.t 30)]),
sq 32 (.not (.t 31))])
 (.cond (.t 32)
 (.seq (.reg [sq 2 (.mv (kB false))])
 .ret)
 .skip)))
 (.reg [sq 26 (.mv (.t 3)),
sq 27 (.bin .add (.t 26) (kI 1)),
sq 3 (.mv (.t 27))])))))))
 (.seq (.reg [sq 2 (.mv (kB true))])
 .ret))))⟩
theorem F120_ok{x0 r}(h:F120 x0=some r):CallD Tryz.prog 120 [.c (dS x0)] [] (tupV [.c (dB r)]) []:=by
 rw[F120]at h
 refine zc a120 (by kernel_rfl) rfl (ww ?_)
 obtain⟨o1,ho,h⟩:=bi h
 refine cutS (fun s=>s=⟨[(0,.one (.c (dS x0))),(21,.one (.c (dB o1)))],[]⟩) ?_ ?_
 ·have h:=ho
  clear ho
  refine ww ?_
  refine guardSh h (fun g2 h=>?_) (fun g2 h=>?_)
  ·refine ww ?_
   cases h
   exact eM [] rfl
  refine ww ?_
  refine guardSh h (fun g3 h=>?_) (fun g3 h=>?_)
  ·refine ww ?_
   cases h
   exact eM [] rfl
  refine ww ?_
  obtain⟨y4,hy4,h⟩:=bi h
  refine t_sidx rfl rfl hy4 (ww ?_)
  refine guardSh h (fun g5 h=>?_) (fun g5 h=>?_)
  ·refine ww ?_
   cases h
   exact eM [] rfl
  refine ww ?_
  obtain⟨y6,hy6,h⟩:=bi h
  refine t_sidx rfl rfl hy6 (ww ?_)
  cases h
  exact eM [] rfl
 rintro _ rfl
 clear ho
 refine ww ?_
 refine condBh h (fun c7 h=>?_) (fun c7 h=>?_)
 ·refine ww ?_
  cases h
  exact eF []
 refine ww ?_
 obtain⟨o8,ho,h⟩:=bi h
 refine cutS (fun s=>∃po8,o8=Sum.inr po8∧s=⟨[],[]⟩) ?_ ?_
 ·have h0o8:=h
  have h:=ho
  clear ho
  refine ww ?_
  refine bL (fun j s=>∃(o8_0:Int),s=⟨[(0,.one (.c (dS x0))),(3,.one (.c (dI o8_0)))],[]⟩∧F120_l8 x0 j o8_0=some o8) 1099511627776 [] ⟨0,rfl,h⟩ ?_
  rintro j _ ⟨o8_0,rfl,h⟩
  cases j with
  |zero=>cases(show(none:Option _)=some _ from h)
  |succ j=>
   rw[F120_l8]at h
   refine ww ?_
   refine condSh h (fun c9 h=>?_) (fun c9 h=>?_)
   ·refine ww ?_
    obtain⟨y10,hy10,h⟩:=bi h
    refine t_sidx rfl rfl hy10 (ww ?_)
    obtain⟨t11,ht11,h⟩:=bi h
    refine cN [] (F159_ok ht11) trivial (ww ?_)
    refine condBh h (fun c12 h=>?_) (fun c12 h=>?_)
    ·refine ww ?_
     obtain⟨fh0o8,hfh0o8,rfl⟩:=Option.map_eq_some_iff.1 h
     have h:=hfh0o8.trans h0o8
     cases h
     exact eF []
    ·refine ww ?_
     exact eL' j [] ⟨(IntKind.i64.wrap (o8_0+1)),rfl,h⟩ (Nat.lt_succ_self _)
   ·refine ww ?_
    cases h
    exact eM [] ⟨_,rfl,rfl⟩
 rintro _ ⟨po8,rfl,rfl⟩
 clear ho
 dsimp only at h
 refine ww ?_
 cases h
 exact eF []
def F163_l11(o1_1:Nat)(x0:(List Owner))(xo1:Owner):Nat→Int→Option (((Bool) ⊕ (Int)) ⊕ (Unit))
 |0,_=>none
 |k+1,o11_0=>(if o11_0<(o1_1:Int)then(rdI x0 o11_0).bind fun y13=>(if y13.Uid=xo1.Uid then((some false).map Sum.inl).map Sum.inl else F163_l11 o1_1 x0 xo1 k ((IntKind.i64.wrap (o11_0+1))))else some (Sum.inr (())))
def F163_l1(x0:(List Owner)):List Owner→Nat→Int→Option ((Bool) ⊕ (Int))
 |[],o1_1,o1_0=>some (Sum.inr o1_0)
 |xo1::xs,o1_1,o1_0=>(((F160 xo1.Kind).bind fun t4=>(if(nb t4)=true then some true else(F161 xo1.Name).bind fun t6=>(if(nb t6)=true then some true else some (decide (xo1.Uid≤0))))).bind fun o3=>(if o3=true then(some false).map Sum.inl else(((if xo1.Controller=true then some ((IntKind.i64.wrap (o1_0+1)))else some o1_0)).bind fun o9=>((F163_l11 o1_1 x0 xo1 1099511627776 0:Option (((Bool) ⊕ (Int)) ⊕ (Unit))).bind fun o11=>match o11 with|Sum.inl f=>some f|Sum.inr po11=>F163_l1 x0 xs (o1_1+1) o9))))
def F163(x0:(List Owner)):Option (Bool):=(((ck (0≤x0.length∧x0.length≤4294967290)).bind fun u15=>F163_l1 x0 x0 0 0:Option ((Bool) ⊕ (Int))).bind fun o1=>match o1 with|Sum.inl f=>some f|Sum.inr po1=>(((if(x0.length:Int)≤16 then some (decide (po1≤1))else some false)).bind fun o16=>some o16))
def a163:AFn:=⟨66,[(.tmp 2)],
 (.seq (.reg [sq 2 (.mv (kB false))])
 (.seq (.reg [sq 3 (.mv (kI 0))])
 (.seq (.seq (.reg [sq 4 (.mv (kI 0))])
 (.sem (.block 0 (.loop (.seq (.seq (.reg [sq 6 (.mv (.t 4)),
sq 7 (.mv (.t 0)),
sq 8 (.len (.t 7)),
sq 9 (.bin .lss (.t 6) (.t 8))])
 (.cond (.t 9)
 .skip
 (.exit 0)))
 (.seq (.block 1 (.seq (.seq (.sem (.reg [sq 12 (.mv (.t 0)),
sq 13 (.mv (.t 4)),
sq 14 (.indexA 5 (.t 12) (.t 13)),
sq 15 (.fieldA 0 (.t 14)),
sq 16 (.load none (.t 15)),
sq 17 (.call 160 [(.t 16)]),
sq 18 (.not (.t 17)),
sq 19 (.mv (.t 18)),
zg 20 19 false (.mv (.t 0)),
zg 21 19 false (.mv (.t 4)),
zg 22 19 false (.indexA 5 (.t 20) (.t 21)),
zg 23 19 false (.fieldA 1 (.t 22)),
zg 24 19 false (.load none (.t 23)),
zg 25 19 false (.call 161 [(.t 24)]),
zg 26 19 false (.not (.t 25)),
sq 27 (.pick (.t 19) (kB true) (.t 26)),
sq 28 (.mv (.t 27)),
zg 29 28 false (.mv (.t 0)),
zg 30 28 false (.mv (.t 4)),
zg 31 28 false (.indexA 5 (.t 29) (.t 30)),
zg 32 28 false (.fieldA 2 (.t 31)),
zg 33 28 false (.load none (.t 32)),
zg 34 28 false (.bin .leq (.t 33) (kI 0)),
sq 35 (.pick (.t 28) (kB true) (.t 34))]))
 (.cond (.t 35)
 (.seq (.reg [sq 2 (.mv (kB false))])
 .ret)
 .skip))
 (.seq (.sem (.seq (.reg [sq 36 (.mv (.t 0)),
sq 37 (.mv (.t 4)),
sq 38 (.indexA 5 (.t 36) (.t 37)),
sq 39 (.fieldA 3 (.t 38)),
sq 40 (.load none (.t 39))])
 (.cond (.t 40)
 (.reg [sq 41 (.mv (.t 3)),
sq 42 (.bin .add (.t 41) (kI 1)),
sq 3 (.mv (.t 42))])
 .skip)))
 (.seq (.reg [sq 5 (.mv (kI 0))])
 (.sem (.block 2 (.loop (.seq (.seq (.reg [sq 43 (.mv (.t 5)),
sq 44 (.mv (.t 4)),
sq 45 (.bin .lss (.t 43) (.t 44))])
 (.cond (.t 45)
 .skip
 (.exit 2)))
 (.seq (.block 3 (.seq (.regd [sq 48 (.mv (.t 0)),
sq 49 (.mv (.t 5)),
sd 50 (.indexA 5 (.t 48) (.t 49)) [0,1],
sd 51 (.fieldA 2 (.t 50)) [0,1,2],
sd 52 (.load none (.t 51)) [0,1,2,3],
sq 53 (.mv (.t 0)),
sq 54 (.mv (.t 4)),
sd 55 (.indexA 5 (.t 53) (.t 54)) [5,6],
sd 56 (.fieldA 2 (.t 55)) [5,6,7],
sd 57 (.load none (.t 56)) [5,6,7,8],
sd 58 (.bin .eql (.t 52) (.t 57)) [0,1,2,3,4,5,6,7,8,9]])
 (.cond (.t 58)
 (.seq (.reg [sq 2 (.mv (kB false))])
 .ret)
 .skip)))
 (.reg [sq 46 (.mv (.t 5)),
sq 47 (.bin .add (.t 46) (kI 1)),
sq 5 (.mv (.t 47))]))))))))))
 (.reg [sq 10 (.mv (.t 4)),
sq 11 (.bin .add (.t 10) (kI 1)),
sq 4 (.mv (.t 11))])))))))
 (.seq (.sem (.reg [sq 59 (.mv (.t 0)),
sq 60 (.len (.t 59)),
sq 61 (.bin .leq (.t 60) (kI 16)),
sq 62 (.mv (.t 61)),
zg 63 62 true (.mv (.t 3)),
zg 64 62 true (.bin .leq (.t 63) (kI 1)),
sq 65 (.pick (.t 62) (.t 64) (kB false)),
sq 2 (.mv (.t 65))]))
 .ret))))⟩
theorem F163_ok{x0 r}(h:F163 x0=some r):CallD Tryz.prog 163 [.c (dM (x0.map eOwner))] [] (tupV [.c (dB r)]) []:=by
 rw[F163]at h
 refine zc a163 (by kernel_rfl) rfl (ww ?_)
 obtain⟨o1,ho,h⟩:=bi h
 refine cutS (fun s=>∃po1,o1=Sum.inr po1∧s=⟨[(0,.one (.c (dM (x0.map eOwner)))),(3,.one (.c (dI po1)))],[]⟩) ?_ ?_
 ·have h0o1:=h
  have h:=ho
  clear ho
  obtain⟨_,hk,h⟩:=bi h
  have hk:=ck_some hk
  refine ww ?_
  refine bL (fun j s=>∃(o1_1:Nat) (o1_0:Int),(o1_1≤x0.length∧j=x0.length-o1_1)∧s=⟨[(0,.one (.c (dM (x0.map eOwner)))),(3,.one (.c (dI o1_0))),(4,.one (.c (dI ((o1_1:Int)))))],[]⟩∧F163_l1 x0 (x0.drop o1_1) o1_1 o1_0=some o1) (x0.length-0) [] ⟨0,0,⟨hk.1,rfl⟩,rfl,h⟩ ?_
  rintro _ _ ⟨o1_1,o1_0,⟨hi,rfl⟩,rfl,h⟩
  refine ww ?_
  refine condS (fun c2=>?_) (fun c2=>?_)
  ·obtain⟨xo1,hxo1,hd⟩:=countY (show(o1_1:Int)<(x0.length:Int)from c2)
   rw[hd,F163_l1]at h
   refine ww ?_
   obtain⟨o3,ho,h⟩:=bi h
   refine cutS (fun s=>s=⟨[(0,.one (.c (dM (x0.map eOwner)))),(3,.one (.c (dI o1_0))),(4,.one (.c (dI ((o1_1:Int))))),(35,.one (.c (dB o3)))],[]⟩) ?_ ?_
   ·have h:=ho
    clear ho
    refine ww ?_
    refine t_idxF (enc:=eOwner) (xs:=x0) rfl rfl hxo1 rfl (ww ?_)
    obtain⟨t4,ht4,h⟩:=bi h
    refine cN [] (F160_ok ht4) trivial (ww ?_)
    refine guardSBh h (fun g5 h=>?_) (fun g5 h=>?_)
    ·refine ww ?_
     cases h
     exact eM [] rfl
    refine ww ?_
    refine t_idxF (enc:=eOwner) (xs:=x0) rfl rfl hxo1 rfl (ww ?_)
    obtain⟨t6,ht6,h⟩:=bi h
    refine cN [] (F161_ok ht6) trivial (ww ?_)
    refine guardSBh h (fun g7 h=>?_) (fun g7 h=>?_)
    ·refine ww ?_
     cases h
     exact eM [] rfl
    refine ww ?_
    refine t_idxF (enc:=eOwner) (xs:=x0) rfl rfl hxo1 rfl (ww ?_)
    cases h
    exact eM [] rfl
   rintro _ rfl
   clear ho
   refine ww ?_
   refine condBh h (fun c8 h=>?_) (fun c8 h=>?_)
   ·refine ww ?_
    obtain⟨fh0o1,hfh0o1,rfl⟩:=Option.map_eq_some_iff.1 h
    have h:=hfh0o1.trans h0o1
    cases h
    exact eF []
   refine ww ?_
   obtain⟨o9,ho,h⟩:=bi h
   refine cutS (fun s=>s=⟨[(0,.one (.c (dM (x0.map eOwner)))),(3,.one (.c (dI o9))),(4,.one (.c (dI ((o1_1:Int)))))],[]⟩) ?_ ?_
   ·have h:=ho
    clear ho
    refine ww ?_
    refine t_idxF (enc:=eOwner) (xs:=x0) rfl rfl hxo1 rfl (ww ?_)
    refine condBh h (fun c10 h=>?_) (fun c10 h=>?_)
    ·refine ww ?_
     cases h
     exact eM [] rfl
    refine ww ?_
    cases h
    exact eM [] rfl
   rintro _ rfl
   clear ho
   refine ww ?_
   obtain⟨o11,ho,h⟩:=bi h
   refine cutS (fun s=>∃po11,o11=Sum.inr po11∧s=⟨[(0,.one (.c (dM (x0.map eOwner)))),(3,.one (.c (dI o9))),(4,.one (.c (dI ((o1_1:Int)))))],[]⟩) ?_ ?_
   ·have h0o11:=h
    have h:=ho
    clear ho
    refine ww ?_
    refine bL (fun j s=>∃(o11_0:Int),s=⟨[(0,.one (.c (dM (x0.map eOwner)))),(3,.one (.c (dI o9))),(4,.one (.c (dI ((o1_1:Int))))),(5,.one (.c (dI o11_0)))],[]⟩∧F163_l11 o1_1 x0 xo1 j o11_0=some o11) 1099511627776 [] ⟨0,rfl,h⟩ ?_
    rintro j _ ⟨o11_0,rfl,h⟩
    cases j with
    |zero=>cases(show(none:Option _)=some _ from h)
    |succ j=>
     rw[F163_l11]at h
     refine ww ?_
     refine condSh h (fun c12 h=>?_) (fun c12 h=>?_)
     ·refine ww ?_
      obtain⟨y13,hy13,h⟩:=bi h
      refine t_idxF (enc:=eOwner) (xs:=x0) rfl rfl hy13 rfl (ww ?_)
      refine t_idxF (enc:=eOwner) (xs:=x0) rfl rfl hxo1 rfl (ww ?_)
      refine condSh h (fun c14 h=>?_) (fun c14 h=>?_)
      ·refine ww ?_
       obtain⟨fh0o11,hfh0o11,rfl⟩:=Option.map_eq_some_iff.1 h
       have h:=hfh0o11.trans h0o11
       obtain⟨fh0o1,hfh0o1,rfl⟩:=Option.map_eq_some_iff.1 h
       have h:=hfh0o1.trans h0o1
       cases h
       exact eF []
      ·refine ww ?_
       exact eL' j [] ⟨(IntKind.i64.wrap (o11_0+1)),rfl,h⟩ (Nat.lt_succ_self _)
     ·refine ww ?_
      cases h
      exact eM [] ⟨_,rfl,rfl⟩
   rintro _ ⟨po11,rfl,rfl⟩
   clear ho
   dsimp only at h
   refine ww ?_
   rw[wrapN (by omega)]
   exact eL' (x0.length-(o1_1+1)) [] ⟨o1_1+1,o9,⟨by omega,rfl⟩,rfl,h⟩ (by omega)
  rw[countN (show¬((o1_1:Int)<(x0.length:Int))from c2),F163_l1]at h
  refine ww ?_
  cases h
  exact eM [] ⟨_,rfl,rfl⟩
 rintro _ ⟨po1,rfl,rfl⟩
 clear ho
 dsimp only at h
 refine ww ?_
 obtain⟨o16,ho,h⟩:=bi h
 refine cutS (fun s=>s=⟨[(2,.one (.c (dB o16)))],[]⟩) ?_ ?_
 ·have h:=ho
  clear ho
  refine ww ?_
  refine guardSh h (fun g17 h=>?_) (fun g17 h=>?_)
  ·refine ww ?_
   cases h
   exact eM [] rfl
  refine ww ?_
  cases h
  exact eM [] rfl
 rintro _ rfl
 clear ho
 refine ww ?_
 cases h
 exact eF []
def F164_l5(o1_0:Nat)(x0:(List ByteArray))(xo1:ByteArray):Nat→Int→Option (((Bool) ⊕ (Unit)) ⊕ (Unit))
 |0,_=>none
 |k+1,o5_0=>(if o5_0<(o1_0:Int)then(rdI x0 o5_0).bind fun y7=>(if y7=xo1 then((some false).map Sum.inl).map Sum.inl else F164_l5 o1_0 x0 xo1 k ((IntKind.i64.wrap (o5_0+1))))else some (Sum.inr (())))
def F164_l1(x0:(List ByteArray)):List ByteArray→Nat→Option ((Bool) ⊕ (Unit))
 |[],o1_0=>some (Sum.inr (()))
 |xo1::xs,o1_0=>(F161 xo1).bind fun t3=>(if(nb t3)=true then(some false).map Sum.inl else((F164_l5 o1_0 x0 xo1 1099511627776 0:Option (((Bool) ⊕ (Unit)) ⊕ (Unit))).bind fun o5=>match o5 with|Sum.inl f=>some f|Sum.inr po5=>F164_l1 x0 xs (o1_0+1)))
def F164(x0:(List ByteArray)):Option (Bool):=(((ck (0≤x0.length∧x0.length≤4294967290)).bind fun u9=>F164_l1 x0 x0 0:Option ((Bool) ⊕ (Unit))).bind fun o1=>match o1 with|Sum.inl f=>some f|Sum.inr po1=>some (decide ((x0.length:Int)≤16)))
def a164:AFn:=⟨34,[(.tmp 2)],
 (.seq (.reg [sq 2 (.mv (kB false))])
 (.seq (.seq (.reg [sq 3 (.mv (kI 0))])
 (.sem (.block 0 (.loop (.seq (.seq (.reg [sq 5 (.mv (.t 3)),
sq 6 (.mv (.t 0)),
sq 7 (.len (.t 6)),
sq 8 (.bin .lss (.t 5) (.t 7))])
 (.cond (.t 8)
 .skip
 (.exit 0)))
 (.seq (.block 1 (.seq (.seq (.reg [sq 11 (.mv (.t 0)),
sq 12 (.mv (.t 3)),
sq 13 (.indexA 1 (.t 11) (.t 12)),
sq 14 (.load none (.t 13)),
sq 15 (.call 161 [(.t 14)]),
sq 16 (.not (.t 15))])
 (.cond (.t 16)
 (.seq (.reg [sq 2 (.mv (kB false))])
 .ret)
 .skip))
 (.seq (.reg [sq 4 (.mv (kI 0))])
 (.sem (.block 2 (.loop (.seq (.seq (.reg [sq 17 (.mv (.t 4)),
sq 18 (.mv (.t 3)),
sq 19 (.bin .lss (.t 17) (.t 18))])
 (.cond (.t 19)
 .skip
 (.exit 2)))
 (.seq (.block 3 (.seq (.regd [sq 22 (.mv (.t 0)),
sq 23 (.mv (.t 4)),
sd 24 (.indexA 1 (.t 22) (.t 23)) [0,1],
sd 25 (.load none (.t 24)) [0,1,2],
sq 26 (.mv (.t 0)),
sq 27 (.mv (.t 3)),
sd 28 (.indexA 1 (.t 26) (.t 27)) [4,5],
sd 29 (.load none (.t 28)) [4,5,6],
sd 30 (.bin .eql (.t 25) (.t 29)) [0,1,2,3,4,5,6,7]])
 (.cond (.t 30)
 (.seq (.reg [sq 2 (.mv (kB false))])
 .ret)
 .skip)))
 (.reg [sq 20 (.mv (.t 4)),
sq 21 (.bin .add (.t 20) (kI 1)),
sq 4 (.mv (.t 21))])))))))))
 (.reg [sq 9 (.mv (.t 3)),
sq 10 (.bin .add (.t 9) (kI 1)),
sq 3 (.mv (.t 10))])))))))
 (.seq (.reg [sq 31 (.mv (.t 0)),
sq 32 (.len (.t 31)),
sq 33 (.bin .leq (.t 32) (kI 16)),
sq 2 (.mv (.t 33))])
 .ret)))⟩
theorem F164_ok{x0 r}(h:F164 x0=some r):CallD Tryz.prog 164 [.c (dM (x0.map eS))] [] (tupV [.c (dB r)]) []:=by
 rw[F164]at h
 refine zc a164 (by kernel_rfl) rfl (ww ?_)
 obtain⟨o1,ho,h⟩:=bi h
 refine cutS (fun s=>∃po1,o1=Sum.inr po1∧s=⟨[(0,.one (.c (dM (x0.map eS))))],[]⟩) ?_ ?_
 ·have h0o1:=h
  have h:=ho
  clear ho
  obtain⟨_,hk,h⟩:=bi h
  have hk:=ck_some hk
  refine ww ?_
  refine bL (fun j s=>∃(o1_0:Nat),(o1_0≤x0.length∧j=x0.length-o1_0)∧s=⟨[(0,.one (.c (dM (x0.map eS)))),(3,.one (.c (dI ((o1_0:Int)))))],[]⟩∧F164_l1 x0 (x0.drop o1_0) o1_0=some o1) (x0.length-0) [] ⟨0,⟨hk.1,rfl⟩,rfl,h⟩ ?_
  rintro _ _ ⟨o1_0,⟨hi,rfl⟩,rfl,h⟩
  refine ww ?_
  refine condS (fun c2=>?_) (fun c2=>?_)
  ·obtain⟨xo1,hxo1,hd⟩:=countY (show(o1_0:Int)<(x0.length:Int)from c2)
   rw[hd,F164_l1]at h
   refine ww ?_
   refine t_idxF (enc:=eS) (xs:=x0) rfl rfl hxo1 rfl (ww ?_)
   obtain⟨t3,ht3,h⟩:=bi h
   refine cN [] (F161_ok ht3) trivial (ww ?_)
   refine condBh h (fun c4 h=>?_) (fun c4 h=>?_)
   ·refine ww ?_
    obtain⟨fh0o1,hfh0o1,rfl⟩:=Option.map_eq_some_iff.1 h
    have h:=hfh0o1.trans h0o1
    cases h
    exact eF []
   refine ww ?_
   obtain⟨o5,ho,h⟩:=bi h
   refine cutS (fun s=>∃po5,o5=Sum.inr po5∧s=⟨[(0,.one (.c (dM (x0.map eS)))),(3,.one (.c (dI ((o1_0:Int)))))],[]⟩) ?_ ?_
   ·have h0o5:=h
    have h:=ho
    clear ho
    refine ww ?_
    refine bL (fun j s=>∃(o5_0:Int),s=⟨[(0,.one (.c (dM (x0.map eS)))),(3,.one (.c (dI ((o1_0:Int))))),(4,.one (.c (dI o5_0)))],[]⟩∧F164_l5 o1_0 x0 xo1 j o5_0=some o5) 1099511627776 [] ⟨0,rfl,h⟩ ?_
    rintro j _ ⟨o5_0,rfl,h⟩
    cases j with
    |zero=>cases(show(none:Option _)=some _ from h)
    |succ j=>
     rw[F164_l5]at h
     refine ww ?_
     refine condSh h (fun c6 h=>?_) (fun c6 h=>?_)
     ·refine ww ?_
      obtain⟨y7,hy7,h⟩:=bi h
      refine t_idxF (enc:=eS) (xs:=x0) rfl rfl hy7 rfl (ww ?_)
      refine t_idxF (enc:=eS) (xs:=x0) rfl rfl hxo1 rfl (ww ?_)
      refine condSh h (fun c8 h=>?_) (fun c8 h=>?_)
      ·refine ww ?_
       obtain⟨fh0o5,hfh0o5,rfl⟩:=Option.map_eq_some_iff.1 h
       have h:=hfh0o5.trans h0o5
       obtain⟨fh0o1,hfh0o1,rfl⟩:=Option.map_eq_some_iff.1 h
       have h:=hfh0o1.trans h0o1
       cases h
       exact eF []
      ·refine ww ?_
       exact eL' j [] ⟨(IntKind.i64.wrap (o5_0+1)),rfl,h⟩ (Nat.lt_succ_self _)
     ·refine ww ?_
      cases h
      exact eM [] ⟨_,rfl,rfl⟩
   rintro _ ⟨po5,rfl,rfl⟩
   clear ho
   dsimp only at h
   refine ww ?_
   rw[wrapN (by omega)]
   exact eL' (x0.length-(o1_0+1)) [] ⟨o1_0+1,⟨by omega,rfl⟩,rfl,h⟩ (by omega)
  rw[countN (show¬((o1_0:Int)<(x0.length:Int))from c2),F164_l1]at h
  refine ww ?_
  cases h
  exact eM [] ⟨_,rfl,rfl⟩
 rintro _ ⟨po1,rfl,rfl⟩
 clear ho
 dsimp only at h
 refine ww ?_
 cases h
 exact eF []
def F193(x0:TValue):Option (Bool):=(if x0.Kind=1 then(((if x0.N=0 then some (decide (x0.S=(⟨#[]⟩:ByteArray)))else(if x0.N=1 then some (decide (x0.S=(⟨#[]⟩:ByteArray)))else some false))).bind fun o2=>some o2)else(if x0.Kind=2 then(((if(-1000000000000000)≤x0.N then(if x0.N≤1000000000000000 then some (decide (x0.S=(⟨#[]⟩:ByteArray)))else some false)else some false)).bind fun o6=>some o6)else(if x0.Kind=3 then(((if x0.N=0 then(F204 x0.S).bind fun t12=>some t12 else some false)).bind fun o10=>some o10)else(((if x0.Kind=0 then some (decide (x0.Kind=0))else(if x0.Kind=4 then some (decide (x0.Kind=4))else some (decide (x0.Kind=5))))).bind fun o13=>(if o13=true then(((if x0.N=0 then some (decide (x0.S=(⟨#[]⟩:ByteArray)))else some false)).bind fun o17=>some o17)else some false)))))
def a193:AFn:=⟨57,[(.tmp 2)],
 (.seq (.reg [sq 1 (.box (.t 0)),
sq 2 (.mv (kB false))])
 (.seq (.seq (.reg [sq 3 (.fieldA 0 (.t 1)),
sq 4 (.load none (.t 3))])
 (.block 0 (.seq (.reg [sq 6 (.bin .eql (.t 4) (kI 1)),
sq 5 (.mv (.t 6))])
 (.cond (.t 5)
 (.seq (.sem (.reg [sq 7 (.fieldA 1 (.t 1)),
sq 8 (.load none (.t 7)),
sq 9 (.bin .eql (.t 8) (kI 0)),
sq 10 (.mv (.t 9)),
zg 11 10 false (.fieldA 1 (.t 1)),
zg 12 10 false (.load none (.t 11)),
zg 13 10 false (.bin .eql (.t 12) (kI 1)),
sq 14 (.pick (.t 10) (kB true) (.t 13)),
sq 15 (.mv (.t 14)),
zg 16 15 true (.fieldA 2 (.t 1)),
zg 17 15 true (.load none (.t 16)),
zg 18 15 true (.bin .eql (.t 17) (kS ⟨#[]⟩)),
sq 19 (.pick (.t 15) (.t 18) (kB false)),
sq 2 (.mv (.t 19))]))
 .ret)
 (.seq (.reg [sq 21 (.bin .eql (.t 4) (kI 2)),
sq 20 (.mv (.t 21))])
 (.cond (.t 20)
 (.seq (.sem (.reg [sq 22 (.fieldA 1 (.t 1)),
sq 23 (.load none (.t 22)),
sq 24 (.bin .geq (.t 23) (kI (-1000000000000000))),
sq 25 (.mv (.t 24)),
zg 26 25 true (.fieldA 1 (.t 1)),
zg 27 25 true (.load none (.t 26)),
zg 28 25 true (.bin .leq (.t 27) (kI 1000000000000000)),
sq 29 (.pick (.t 25) (.t 28) (kB false)),
sq 30 (.mv (.t 29)),
zg 31 30 true (.fieldA 2 (.t 1)),
zg 32 30 true (.load none (.t 31)),
zg 33 30 true (.bin .eql (.t 32) (kS ⟨#[]⟩)),
sq 34 (.pick (.t 30) (.t 33) (kB false)),
sq 2 (.mv (.t 34))]))
 .ret)
 (.seq (.reg [sq 36 (.bin .eql (.t 4) (kI 3)),
sq 35 (.mv (.t 36))])
 (.cond (.t 35)
 (.seq (.sem (.reg [sq 37 (.fieldA 1 (.t 1)),
sq 38 (.load none (.t 37)),
sq 39 (.bin .eql (.t 38) (kI 0)),
sq 40 (.mv (.t 39)),
zg 41 40 true (.fieldA 2 (.t 1)),
zg 42 40 true (.load none (.t 41)),
zg 43 40 true (.call 204 [(.t 42)]),
sq 44 (.pick (.t 40) (.t 43) (kB false)),
sq 2 (.mv (.t 44))]))
 .ret)
 (.seq (.sem (.seq (.reg [sq 46 (.bin .eql (.t 4) (kI 0)),
sq 45 (.mv (.t 46))])
 (.cond (.t 45)
 .skip
 (.seq (.reg [sq 47 (.bin .eql (.t 4) (kI 4)),
sq 45 (.mv (.t 47))])
 (.cond (.t 45)
 .skip
 (.reg [sq 48 (.bin .eql (.t 4) (kI 5)),
sq 45 (.mv (.t 48))]))))))
 (.cond (.t 45)
 (.seq (.sem (.reg [sq 49 (.fieldA 1 (.t 1)),
sq 50 (.load none (.t 49)),
sq 51 (.bin .eql (.t 50) (kI 0)),
sq 52 (.mv (.t 51)),
zg 53 52 true (.fieldA 2 (.t 1)),
zg 54 52 true (.load none (.t 53)),
zg 55 52 true (.bin .eql (.t 54) (kS ⟨#[]⟩)),
sq 56 (.pick (.t 52) (.t 55) (kB false)),
sq 2 (.mv (.t 56))]))
 .ret)
 .skip))))))))))
 (.seq (.reg [sq 2 (.mv (kB false))])
 .ret)))⟩
theorem F193_ok{x0 r}(h:F193 x0=some r):CallD Tryz.prog 193 [.agg [dI x0.Kind,dI x0.N,dS x0.S,dM (x0.List_.map eTValue),dM (x0.Fields.map eTField)]] [] (tupV [.c (dB r)]) []:=by
 rw[F193]at h
 refine zc a193 (by kernel_rfl) rfl (ww ?_)
 refine condSh h (fun c1 h=>?_) (fun c1 h=>?_)
 ·refine ww ?_
  obtain⟨o2,ho,h⟩:=bi h
  refine cutS (fun s=>s=⟨[(2,.one (.c (dB o2)))],[]⟩) ?_ ?_
  ·have h:=ho
   clear ho
   refine ww ?_
   refine guardSh h (fun g3 h=>?_) (fun g3 h=>?_)
   ·refine ww ?_
    cases h
    exact eM [] rfl
   refine ww ?_
   refine guardSh h (fun g4 h=>?_) (fun g4 h=>?_)
   ·refine ww ?_
    cases h
    exact eM [] rfl
   refine ww ?_
   cases h
   exact eM [] rfl
  rintro _ rfl
  clear ho
  refine ww ?_
  cases h
  exact eF []
 refine ww ?_
 refine condSh h (fun c5 h=>?_) (fun c5 h=>?_)
 ·refine ww ?_
  obtain⟨o6,ho,h⟩:=bi h
  refine cutS (fun s=>s=⟨[(2,.one (.c (dB o6)))],[]⟩) ?_ ?_
  ·have h:=ho
   clear ho
   refine ww ?_
   refine guardSh h (fun g7 h=>?_) (fun g7 h=>?_)
   ·refine ww ?_
    refine guardSh h (fun g8 h=>?_) (fun g8 h=>?_)
    ·refine ww ?_
     cases h
     exact eM [] rfl
    refine ww ?_
    cases h
    exact eM [] rfl
   refine ww ?_
   cases h
   exact eM [] rfl
  rintro _ rfl
  clear ho
  refine ww ?_
  cases h
  exact eF []
 refine ww ?_
 refine condSh h (fun c9 h=>?_) (fun c9 h=>?_)
 ·refine ww ?_
  obtain⟨o10,ho,h⟩:=bi h
  refine cutS (fun s=>s=⟨[(2,.one (.c (dB o10)))],[]⟩) ?_ ?_
  ·have h:=ho
   clear ho
   refine ww ?_
   refine guardSh h (fun g11 h=>?_) (fun g11 h=>?_)
   ·refine ww ?_
    obtain⟨t12,ht12,h⟩:=bi h
    refine cN [] (F204_ok ht12) trivial (ww ?_)
    cases h
    exact eM [] rfl
   refine ww ?_
   cases h
   exact eM [] rfl
  rintro _ rfl
  clear ho
  refine ww ?_
  cases h
  exact eF []
 refine ww ?_
 obtain⟨o13,ho,h⟩:=bi h
 refine cutS (fun s=>s=⟨[(1,.one (.c (.pt 0 0))),(45,.one (.c (dB o13)))],[some (.box [dI x0.Kind,dI x0.N,dS x0.S,dM (x0.List_.map eTValue),dM (x0.Fields.map eTField)])]⟩) ?_ ?_
 ·have h:=ho
  clear ho
  refine ww ?_
  refine condSh h (fun c14 h=>?_) (fun c14 h=>?_)
  ·refine ww ?_
   cases h
   exact eM [some 0] rfl
  refine ww ?_
  refine condSh h (fun c15 h=>?_) (fun c15 h=>?_)
  ·refine ww ?_
   cases h
   exact eM [some 0] rfl
  refine ww ?_
  cases h
  exact eM [some 0] rfl
 rintro _ rfl
 clear ho
 refine ww ?_
 refine condBh h (fun c16 h=>?_) (fun c16 h=>?_)
 ·refine ww ?_
  obtain⟨o17,ho,h⟩:=bi h
  refine cutS (fun s=>s=⟨[(2,.one (.c (dB o17)))],[]⟩) ?_ ?_
  ·have h:=ho
   clear ho
   refine ww ?_
   refine guardSh h (fun g18 h=>?_) (fun g18 h=>?_)
   ·refine ww ?_
    cases h
    exact eM [] rfl
   refine ww ?_
   cases h
   exact eM [] rfl
  rintro _ rfl
  clear ho
  refine ww ?_
  cases h
  exact eF []
 refine ww ?_
 cases h
 exact eF []
def F33(x0:Meta):Option (ByteArray):=(F59 x0.Kind x0.Namespace x0.Name).bind fun t1=>some t1
def a33:AFn:=⟨10,[(.tmp 2)],
 (.seq (.reg [sq 1 (.box (.t 0)),
sq 2 (.mv (kS ⟨#[]⟩))])
 (.seq (.reg [sq 3 (.fieldA 0 (.t 1)),
sq 4 (.load none (.t 3)),
sq 5 (.fieldA 1 (.t 1)),
sq 6 (.load none (.t 5)),
sq 7 (.fieldA 2 (.t 1)),
sq 8 (.load none (.t 7)),
sq 9 (.call 59 [(.t 4),(.t 6),(.t 8)]),
sq 2 (.mv (.t 9))])
 .ret))⟩
theorem F33_ok{x0 r}(h:F33 x0=some r):CallD Tryz.prog 33 [.agg [dS x0.Kind,dS x0.Namespace,dS x0.Name,dI x0.Uid,dI x0.Version,dI x0.Generation,dI x0.Created,dB x0.Deleting,dI x0.DeleteAt,dM (x0.Labels.map eLabel),dM (x0.Owners.map eOwner),dM (x0.Finalizers.map eS),dM (x0.Managers.map eManager)]] [] (tupV [.c (dS r)]) []:=by
 rw[F33]at h
 refine zc a33 (by kernel_rfl) rfl (ww ?_)
 obtain⟨t1,ht1,h⟩:=bi h
 refine cN [] (F59_ok ht1) trivial (ww ?_)
 cases h
 exact eF []
def Tryz.laysKeys64_ren:Go.Shelf.Ren:=⟨fun|10=>64|n=>n,fun|33=>115|23=>79|0=>0|4=>4|26=>9|3=>44|n=>n,fun|n=>n⟩
theorem Tryz.laysKeys64:Go.Proofs.SlLaysZ.n10 Tryz.prog Tryz.laysKeys64_ren:={
 mixed:=by kernel_rfl
 f10:=⟨Tryz.f64.name,by decide,Tryz.func64.trans (congrArg some (by kernel_rfl))⟩
 t0:=Tryz.underlying0
 a0:=Tryz.isAgg0
 z0:=Tryz.sizeOf0
 v0:=Tryz.zeroValue0
 t4:=Tryz.underlying4
 a4:=Tryz.isAgg4
 z4:=Tryz.sizeOf4
 v4:=Tryz.zeroValue4
 t23:=Tryz.underlying79
 a23:=Tryz.isAgg79
 z23:=Tryz.sizeOf79
 v23:=Tryz.zeroValue79
 t26:=Tryz.underlying9
 a26:=Tryz.isAgg9
 z26:=Tryz.sizeOf9
 v26:=Tryz.zeroValue9
 t33:=Tryz.underlying115
 a33:=Tryz.isAgg115
 z33:=Tryz.sizeOf115
 v33:=Tryz.zeroValue115}
theorem F35_64_ok{b1:List (ByteArray×Object)}{r:List ByteArray}(h:keysI (b1.map Prod.fst)=some r):CallD Tryz.prog 35 [.c (.fn 64 [(0,0)])] [some (.box [.mref 1]),some (.map (eMs Value.string eObject b1))] (tupV [.c (.own 2 0 0 r.length none)]) [some (.box [.mref 1]),some (.map (eMs Value.string eObject b1)),some (.arr 0 1 (r.map eS))]:=L_sortedKeys (ρ:=Tryz.laysSorted_ren) (ρ2:=Tryz.laysKeys64_ren) (ρ3:=Tryz.laysSort_ren) Tryz.laysSorted Tryz.laysKeys64 Tryz.laysSort rfl (by kernel_rfl) rfl rfl (enters_of Tryz.func63 (by kernel_rfl) rfl) (enters_of Tryz.func64 (by kernel_rfl) rfl) (by simp only[eMs,List.map_map];rfl) h
def F81_l2:List Requirement→Nat→(List Requirement)→Option ((List Requirement))
 |[],o2_1,o2_0=>some o2_0
 |xo2::xs,o2_1,o2_0=>(rdI o2_0 ((o2_1:Int))).bind fun y4=>(cloneI y4.Values).bind fun t5=>(rdI o2_0 ((o2_1:Int))).bind fun y6=>F81_l2 xs (o2_1+1) ((o2_0.set ((o2_1:Int)).toNat ((⟨y6.Key,y6.Op,t5⟩:Requirement))))
def F81(x0:Filter):Option ((List Requirement)):=(cloneI x0.Selector).bind fun t1=>(((ck (0≤t1.length∧t1.length≤4294967290)).bind fun u7=>F81_l2 t1 0 t1).bind fun o2=>some o2)
def a81:AFn:=⟨27,[(.cell 2 (some 3))],
 (.seq (.reg [sq 1 (.box (.t 0)),
sq 2 (.zbox [dS ⟨#[]⟩,dS ⟨#[]⟩,dN])])
 (.seq (.reg [sq 5 (.fieldA 2 (.t 1)),
sq 6 (.load none (.t 5)),
sq 7 (.call 60 [(.t 6)]),
sq 8 (.fieldA 2 (.t 1)),
su (.store 1 (.t 8) (.t 7))])
 (.seq (.seq (.reg [sq 9 (.fieldA 2 (.t 1)),
sq 10 (.load none (.t 9)),
sq 11 (.len (.t 10)),
sq 12 (.mv (kI 0))])
 (.sem (.block 0 (.loop (.seq (.reg [sq 13 (.bin .lss (.t 12) (.t 11))])
 (.seq (.cond (.t 13)
 .skip
 (.exit 0))
 (.seq (.block 1 (.seq (.reg [sq 14 (.mv (.t 12)),
sq 15 (.indexA 3 (.t 10) (.t 12)),
sq 16 (.load (some 3) (.t 15)),
sq 4 (.zbox [dS ⟨#[]⟩,dI 0,dN]),
sq 3 (.mv (.t 14)),
su (.store 3 (.t 4) (.t 16))])
 (.regd [sq 17 (.fieldA 2 (.t 1)),
sd 18 (.load none (.t 17)) [0],
sq 19 (.mv (.t 3)),
sq 20 (.fieldA 2 (.t 4)),
sd 21 (.load none (.t 20)) [3],
zl 22 (.call 61 [(.t 21)]) [3,4] [1,17],
sd 23 (.indexA 3 (.t 18) (.t 19)) [0,1,2,3,4,5],
sd 24 (.fieldA 2 (.t 23)) [0,1,2,3,4,5,6],
⟨none,none,.store 1 (.t 24) (.t 22),[0,1,2,3,4,5,6,7],(.lone [])⟩])))
 (.reg [sq 25 (.bin .add (.t 12) (kI 1)),
sq 12 (.mv (.t 25))]))))))))
 (.seq (.reg [sq 26 (.load (some 3) (.t 1)),
⟨none,none,.store 3 (.t 2) (.t 26),[],(.lone [1])⟩])
 .ret))))⟩
theorem F81_ok{x0 r}(h:F81 x0=some r):CallD Tryz.prog 81 [.agg [dS x0.Kind,dS x0.Namespace,dM (x0.Selector.map eRequirement)]] [] (tupV [.agg [dS x0.Kind,dS x0.Namespace,.own 0 0 0 (r.length) none]]) [some (.arr 0 3 (r.map eRequirement))]:=by
 rw[F81]at h
 refine zc a81 (by kernel_rfl) rfl (ww ?_)
 obtain⟨t1,ht1,h⟩:=bi h
 refine cN [] (F60_ok ht1) trivial (ww ?_)
 obtain⟨o2,ho,h⟩:=bi h
 refine cutS (fun s=>s=⟨[(1,.one (.c (.pt 0 0))),(2,.one (.c (.pt 2 0)))],[some (.box [dS x0.Kind,dS x0.Namespace,.own 1 0 0 (o2.length) none]),some (.arr 0 3 (o2.map eRequirement)),some (.box [dS ((⟨#[]⟩:ByteArray)),dS ((⟨#[]⟩:ByteArray)),dN])]⟩) ?_ ?_
 ·have h:=ho
  clear ho
  obtain⟨_,hk,h⟩:=bi h
  have hk:=ck_some hk
  refine ww ?_
  refine bL (fun j s=>∃(o2_1:Nat) (o2_0:List Requirement),(o2_1≤t1.length∧j=t1.length-o2_1)∧s=⟨[(1,.one (.c (.pt 0 0))),(2,.one (.c (.pt 2 0))),(10,.one (.c (.own 1 0 0 (o2_0.length) none))),(11,.one (.c (dI ((t1.length:Int))))),(12,.one (.c (dI ((o2_1:Int)))))],[some (.box [dS x0.Kind,dS x0.Namespace,.own 1 0 0 (o2_0.length) none]),some (.arr 0 3 (o2_0.map eRequirement)),some (.box [dS ((⟨#[]⟩:ByteArray)),dS ((⟨#[]⟩:ByteArray)),dN])]⟩∧F81_l2 (t1.drop o2_1) o2_1 o2_0=some o2) (t1.length-0) [some 0,some 2,some 1] ⟨0,t1,⟨hk.1,rfl⟩,rfl,h⟩ ?_
  rintro _ _ ⟨o2_1,o2_0,⟨hi,rfl⟩,rfl,h⟩
  refine ww ?_
  refine condS (fun c3=>?_) (fun c3=>?_)
  ·obtain⟨xo2,hxo2,hd⟩:=countY (show(o2_1:Int)<(t1.length:Int)from c3)
   rw[hd,F81_l2]at h
   refine ww ?_
   obtain⟨y4,hy4,h⟩:=bi h
   refine t_idxO (enc:=eRequirement) (xs:=o2_0) rfl rfl rfl (by first|rfl|simp only[List.length_set]|exact(clrL_len (slI_len (by assumption))).symm) hy4 (ww ?_)
   refine LdRow.rd (rdI_some hy4).2.1 (ww ?_)
   obtain⟨t5,ht5,h⟩:=bi h
   refine cN [] (F61_ok ht5) trivial (ww ?_)
   obtain⟨y6,hy6,h⟩:=bi h
   refine t_idxO (enc:=eRequirement) (xs:=o2_0) rfl rfl rfl (by first|rfl|simp only[List.length_set]|exact(clrL_len (slI_len (by assumption))).symm) hy6 (ww ?_)
   refine StRow.rd (y':=(⟨y6.Key,y6.Op,t5⟩:Requirement)) (rdI_some hy6).2.1 (by simp[EE.down]) (by first|rfl|(simp only[bor_full'];rfl)) (ww ?_)
   rw[wrapN (by omega)]
   exact eL' (t1.length-(o2_1+1)) [some 0,some 1,some 2] ⟨o2_1+1,(o2_0.set ((o2_1:Int)).toNat ((⟨y6.Key,y6.Op,t5⟩:Requirement))),⟨by omega,rfl⟩,rfl,h⟩ (by omega)
  rw[countN (show¬((o2_1:Int)<(t1.length:Int))from c3),F81_l2]at h
  refine ww ?_
  cases h
  exact eM [some 0,some 1,some 2] rfl
 rintro _ rfl
 clear ho
 refine ww ?_
 cases h
 exact eF [some 1]
theorem a184_ok:afn Tryz.prog 184=some (insertA 23 352 [.v (.string ⟨#[]⟩),.v (.string ⟨#[]⟩),.v (.string ⟨#[]⟩),.v (.int .i64 0),.v (.int .i64 0),.v (.int .i64 0),.v (.int .i64 0),.v (.bool false),.v (.int .i64 0),.sl [],.sl [],.sl [],.sl [],.v (.int .i64 0),.v (.int .i64 0),.v (.string ⟨#[]⟩),.sl [],.sl [],.v (.int .i64 0),.v (.int .i64 0),.v (.string ⟨#[]⟩),.sl [],.sl []] 200 201):=by kernel_rfl
theorem F184_ok{x0 r:List Object}{i:Int}{x:Object}{e0 e1:Nat}(h:insI x0 i x=some r):CallD Tryz.prog 184 [.c (.own 0 e0 0 x0.length none),aI i,.c (.own 1 e1 0 [x].length none)] [some (.arr e0 23 (x0.map eObject)),some (.arr e1 23 ([x].map eObject))] (tupV [.c (.own 0 (e0+1) 0 r.length none)]) [some (.arr (e0+1) 23 (r.map eObject)),some (.arr e1 23 ([x].map eObject))]:=L_insert a184_ok ov200 (fun _=>rfl) h
def F72_l8(rc96:TValue→TValue→Option (Int))(x0:TValue)(x1:TValue):Nat→Int→Int→Option (Int)
 |0,_,_=>none
 |k+1,o8_0,o8_1=>(((if o8_1<(x0.List_.length:Int)then(if o8_1<(x1.List_.length:Int)then some (decide (o8_0=0))else some false)else some false)).bind fun o9=>(if o9=true then(rdI x0.List_ o8_1).bind fun y13=>(rdI x1.List_ o8_1).bind fun y14=>(rc96 y13 y14).bind fun t15=>F72_l8 rc96 x0 x1 k t15 ((IntKind.i64.wrap (o8_1+1)))else some o8_0))
def F72_l19(rc96:TValue→TValue→Option (Int))(x0:TValue)(x1:TValue):Nat→Int→Int→Option (Int)
 |0,_,_=>none
 |k+1,o19_0,o19_1=>(((if o19_1<(x0.Fields.length:Int)then(if o19_1<(x1.Fields.length:Int)then some (decide (o19_0=0))else some false)else some false)).bind fun o20=>(if o20=true then(((rdI x0.Fields o19_1).bind fun y25=>(rdI x1.Fields o19_1).bind fun y26=>(F101 (Op.bytesLess y25.Name.toList y26.Name.toList) (nb (Op.bytesLess y25.Name.toList y26.Name.toList||decide (y25.Name=y26.Name)))).bind fun t27=>(if t27=0 then(rc96 y25.V y26.V).bind fun t29=>some t29 else some t27)).bind fun o24=>F72_l19 rc96 x0 x1 k o24 ((IntKind.i64.wrap (o19_1+1))))else some o19_0))
def F72(rc96:TValue→TValue→Option (Int))(x0:TValue)(x1:TValue):Option (Int):=(F101 (decide (x0.Kind<x1.Kind)) (decide (x1.Kind<x0.Kind))).bind fun t1=>(((if t1=0 then(F101 (decide (x0.N<x1.N)) (decide (x1.N<x0.N))).bind fun t4=>some t4 else some t1)).bind fun o2=>(((if o2=0 then(F101 (Op.bytesLess x0.S.toList x1.S.toList) (nb (Op.bytesLess x0.S.toList x1.S.toList||decide (x0.S=x1.S)))).bind fun t7=>some t7 else some o2)).bind fun o5=>((F72_l8 rc96 x0 x1 1099511627776 o5 0).bind fun o8=>(((if o8=0 then(F101 (decide ((x0.List_.length:Int)<(x1.List_.length:Int))) (decide ((x1.List_.length:Int)<(x0.List_.length:Int)))).bind fun t18=>some t18 else some o8)).bind fun o16=>((F72_l19 rc96 x0 x1 1099511627776 o16 0).bind fun o19=>(if o19=0 then(F101 (decide ((x0.Fields.length:Int)<(x1.Fields.length:Int))) (decide ((x1.Fields.length:Int)<(x0.Fields.length:Int)))).bind fun t31=>some t31 else some o19))))))
def a72:AFn:=⟨169,[(.tmp 4)],
 (.seq (.reg [sq 2 (.box (.t 0)),
sq 3 (.box (.t 1)),
sq 4 (.mv (kI 0))])
 (.seq (.reg [sq 8 (.fieldA 0 (.t 2)),
sq 9 (.load none (.t 8)),
sq 10 (.fieldA 0 (.t 3)),
sq 11 (.load none (.t 10)),
sq 12 (.bin .lss (.t 9) (.t 11)),
sq 13 (.fieldA 0 (.t 2)),
sq 14 (.load none (.t 13)),
sq 15 (.fieldA 0 (.t 3)),
sq 16 (.load none (.t 15)),
sq 17 (.bin .gtr (.t 14) (.t 16)),
sq 18 (.call 101 [(.t 12),(.t 17)]),
sq 5 (.mv (.t 18))])
 (.seq (.sem (.seq (.reg [sq 19 (.mv (.t 5)),
sq 20 (.bin .eql (.t 19) (kI 0))])
 (.cond (.t 20)
 (.reg [sq 21 (.fieldA 1 (.t 2)),
sq 22 (.load none (.t 21)),
sq 23 (.fieldA 1 (.t 3)),
sq 24 (.load none (.t 23)),
sq 25 (.bin .lss (.t 22) (.t 24)),
sq 26 (.fieldA 1 (.t 2)),
sq 27 (.load none (.t 26)),
sq 28 (.fieldA 1 (.t 3)),
sq 29 (.load none (.t 28)),
sq 30 (.bin .gtr (.t 27) (.t 29)),
sq 31 (.call 101 [(.t 25),(.t 30)]),
sq 5 (.mv (.t 31))])
 .skip)))
 (.seq (.sem (.seq (.reg [sq 32 (.mv (.t 5)),
sq 33 (.bin .eql (.t 32) (kI 0))])
 (.cond (.t 33)
 (.reg [sq 34 (.fieldA 2 (.t 2)),
sq 35 (.load none (.t 34)),
sq 36 (.fieldA 2 (.t 3)),
sq 37 (.load none (.t 36)),
sq 38 (.bin .lss (.t 35) (.t 37)),
sq 39 (.fieldA 2 (.t 2)),
sq 40 (.load none (.t 39)),
sq 41 (.fieldA 2 (.t 3)),
sq 42 (.load none (.t 41)),
sq 43 (.bin .gtr (.t 40) (.t 42)),
sq 44 (.call 101 [(.t 38),(.t 43)]),
sq 5 (.mv (.t 44))])
 .skip)))
 (.seq (.seq (.reg [sq 6 (.mv (kI 0))])
 (.sem (.block 0 (.loop (.seq (.seq (.sem (.reg [sq 45 (.mv (.t 6)),
sq 46 (.fieldA 3 (.t 2)),
sq 47 (.load none (.t 46)),
sq 48 (.len (.t 47)),
sq 49 (.bin .lss (.t 45) (.t 48)),
sq 50 (.mv (.t 49)),
zg 51 50 true (.mv (.t 6)),
zg 52 50 true (.fieldA 3 (.t 3)),
zg 53 50 true (.load none (.t 52)),
zg 54 50 true (.len (.t 53)),
zg 55 50 true (.bin .lss (.t 51) (.t 54)),
sq 56 (.pick (.t 50) (.t 55) (kB false)),
sq 57 (.mv (.t 56)),
zg 58 57 true (.mv (.t 5)),
zg 59 57 true (.bin .eql (.t 58) (kI 0)),
sq 60 (.pick (.t 57) (.t 59) (kB false))]))
 (.cond (.t 60)
 .skip
 (.exit 0)))
 (.seq (.block 1 (.regd [sq 63 (.fieldA 3 (.t 2)),
sd 64 (.load none (.t 63)) [0],
sq 65 (.mv (.t 6)),
sd 66 (.indexA 5 (.t 64) (.t 65)) [0,1,2],
sd 67 (.load (some 5) (.t 66)) [0,1,2,3],
sq 68 (.fieldA 3 (.t 3)),
sd 69 (.load none (.t 68)) [5],
sq 70 (.mv (.t 6)),
sd 71 (.indexA 5 (.t 69) (.t 70)) [5,6,7],
sd 72 (.load (some 5) (.t 71)) [5,6,7,8],
zl 73 (.call 72 [(.t 67),(.t 72)]) [0,1,2,3,4,5,6,7,8,9] [],
sd 5 (.mv (.t 73)) [0,1,2,3,4,5,6,7,8,9,10]]))
 (.reg [sq 61 (.mv (.t 6)),
sq 62 (.bin .add (.t 61) (kI 1)),
sq 6 (.mv (.t 62))])))))))
 (.seq (.sem (.seq (.reg [sq 74 (.mv (.t 5)),
sq 75 (.bin .eql (.t 74) (kI 0))])
 (.cond (.t 75)
 (.reg [sq 76 (.fieldA 3 (.t 2)),
sq 77 (.load none (.t 76)),
sq 78 (.len (.t 77)),
sq 79 (.fieldA 3 (.t 3)),
sq 80 (.load none (.t 79)),
sq 81 (.len (.t 80)),
sq 82 (.bin .lss (.t 78) (.t 81)),
sq 83 (.fieldA 3 (.t 2)),
sq 84 (.load none (.t 83)),
sq 85 (.len (.t 84)),
sq 86 (.fieldA 3 (.t 3)),
sq 87 (.load none (.t 86)),
sq 88 (.len (.t 87)),
sq 89 (.bin .gtr (.t 85) (.t 88)),
sq 90 (.call 101 [(.t 82),(.t 89)]),
sq 5 (.mv (.t 90))])
 .skip)))
 (.seq (.seq (.reg [sq 7 (.mv (kI 0))])
 (.sem (.block 2 (.loop (.seq (.seq (.sem (.reg [sq 91 (.mv (.t 7)),
sq 92 (.fieldA 4 (.t 2)),
sq 93 (.load none (.t 92)),
sq 94 (.len (.t 93)),
sq 95 (.bin .lss (.t 91) (.t 94)),
sq 96 (.mv (.t 95)),
zg 97 96 true (.mv (.t 7)),
zg 98 96 true (.fieldA 4 (.t 3)),
zg 99 96 true (.load none (.t 98)),
zg 100 96 true (.len (.t 99)),
zg 101 96 true (.bin .lss (.t 97) (.t 100)),
sq 102 (.pick (.t 96) (.t 101) (kB false)),
sq 103 (.mv (.t 102)),
zg 104 103 true (.mv (.t 5)),
zg 105 103 true (.bin .eql (.t 104) (kI 0)),
sq 106 (.pick (.t 103) (.t 105) (kB false))]))
 (.cond (.t 106)
 .skip
 (.exit 2)))
 (.seq (.sem (.block 3 (.seq (.regd [sq 109 (.fieldA 4 (.t 2)),
sd 110 (.load none (.t 109)) [0],
sq 111 (.mv (.t 7)),
sd 112 (.indexA 6 (.t 110) (.t 111)) [0,1,2],
sd 113 (.fieldA 0 (.t 112)) [0,1,2,3],
sd 114 (.load none (.t 113)) [0,1,2,3,4],
sq 115 (.fieldA 4 (.t 3)),
sd 116 (.load none (.t 115)) [6],
sq 117 (.mv (.t 7)),
sd 118 (.indexA 6 (.t 116) (.t 117)) [6,7,8],
sd 119 (.fieldA 0 (.t 118)) [6,7,8,9],
sd 120 (.load none (.t 119)) [6,7,8,9,10],
sd 121 (.bin .lss (.t 114) (.t 120)) [0,1,2,3,4,5,6,7,8,9,10,11],
sq 122 (.fieldA 4 (.t 2)),
sd 123 (.load none (.t 122)) [13],
sq 124 (.mv (.t 7)),
sd 125 (.indexA 6 (.t 123) (.t 124)) [13,14,15],
sd 126 (.fieldA 0 (.t 125)) [13,14,15,16],
sd 127 (.load none (.t 126)) [13,14,15,16,17],
sq 128 (.fieldA 4 (.t 3)),
sd 129 (.load none (.t 128)) [19],
sq 130 (.mv (.t 7)),
sd 131 (.indexA 6 (.t 129) (.t 130)) [19,20,21],
sd 132 (.fieldA 0 (.t 131)) [19,20,21,22],
sd 133 (.load none (.t 132)) [19,20,21,22,23],
sd 134 (.bin .gtr (.t 127) (.t 133)) [13,14,15,16,17,18,19,20,21,22,23,24],
zl 135 (.call 101 [(.t 121),(.t 134)]) [0,1,2,3,4,5,6,7,8,9,10,11,12,13,14,15,16,17,18,19,20,21,22,23,24,25] [],
sd 5 (.mv (.t 135)) [0,1,2,3,4,5,6,7,8,9,10,11,12,13,14,15,16,17,18,19,20,21,22,23,24,25,26]])
 (.seq (.reg [sq 136 (.mv (.t 5)),
sq 137 (.bin .eql (.t 136) (kI 0))])
 (.cond (.t 137)
 (.regd [sq 138 (.fieldA 4 (.t 2)),
sd 139 (.load none (.t 138)) [0],
sq 140 (.mv (.t 7)),
sd 141 (.indexA 6 (.t 139) (.t 140)) [0,1,2],
sd 142 (.fieldA 1 (.t 141)) [0,1,2,3],
sd 143 (.load (some 5) (.t 142)) [0,1,2,3,4],
sq 144 (.fieldA 4 (.t 3)),
sd 145 (.load none (.t 144)) [6],
sq 146 (.mv (.t 7)),
sd 147 (.indexA 6 (.t 145) (.t 146)) [6,7,8],
sd 148 (.fieldA 1 (.t 147)) [6,7,8,9],
sd 149 (.load (some 5) (.t 148)) [6,7,8,9,10],
zl 150 (.call 72 [(.t 143),(.t 149)]) [0,1,2,3,4,5,6,7,8,9,10,11] [],
sd 5 (.mv (.t 150)) [0,1,2,3,4,5,6,7,8,9,10,11,12]])
 .skip)))))
 (.reg [sq 107 (.mv (.t 7)),
sq 108 (.bin .add (.t 107) (kI 1)),
sq 7 (.mv (.t 108))])))))))
 (.seq (.seq (.reg [sq 151 (.mv (.t 5)),
sq 152 (.bin .eql (.t 151) (kI 0))])
 (.cond (.t 152)
 (.reg [sq 153 (.fieldA 4 (.t 2)),
sq 154 (.load none (.t 153)),
sq 155 (.len (.t 154)),
sq 156 (.fieldA 4 (.t 3)),
sq 157 (.load none (.t 156)),
sq 158 (.len (.t 157)),
sq 159 (.bin .lss (.t 155) (.t 158)),
sq 160 (.fieldA 4 (.t 2)),
sq 161 (.load none (.t 160)),
sq 162 (.len (.t 161)),
sq 163 (.fieldA 4 (.t 3)),
sq 164 (.load none (.t 163)),
sq 165 (.len (.t 164)),
sq 166 (.bin .gtr (.t 162) (.t 165)),
sq 167 (.call 101 [(.t 159),(.t 166)]),
sq 5 (.mv (.t 167))])
 .skip))
 (.seq (.reg [sq 168 (.mv (.t 5)),
sq 4 (.mv (.t 168))])
 .ret)))))))))⟩
theorem F72_ok{rc96:TValue→TValue→Option (Int)}(ih96:∀{x0:TValue} {x1:TValue} {r:Int} (h:rc96 x0 x1=some r),CallD Tryz.prog 72 [.agg [dI x0.Kind,dI x0.N,dS x0.S,dM (x0.List_.map eTValue),dM (x0.Fields.map eTField)],.agg [dI x1.Kind,dI x1.N,dS x1.S,dM (x1.List_.map eTValue),dM (x1.Fields.map eTField)]] [] (tupV [.c (dI r)]) []){x0:TValue}{x1:TValue}{r:Int}(h:F72 rc96 x0 x1=some r):CallD Tryz.prog 72 [.agg [dI x0.Kind,dI x0.N,dS x0.S,dM (x0.List_.map eTValue),dM (x0.Fields.map eTField)],.agg [dI x1.Kind,dI x1.N,dS x1.S,dM (x1.List_.map eTValue),dM (x1.Fields.map eTField)]] [] (tupV [.c (dI r)]) []:=by
 rw[F72]at h
 refine zc a72 (by kernel_rfl) rfl (ww ?_)
 obtain⟨t1,ht1,h⟩:=bi h
 refine cN [] (F101_ok ht1) trivial (ww ?_)
 obtain⟨o2,ho,h⟩:=bi h
 refine cutS (fun s=>s=⟨[(2,.one (.c (.pt 0 0))),(3,.one (.c (.pt 1 0))),(5,.one (.c (dI o2)))],[some (.box [dI x0.Kind,dI x0.N,dS x0.S,dM (x0.List_.map eTValue),dM (x0.Fields.map eTField)]),some (.box [dI x1.Kind,dI x1.N,dS x1.S,dM (x1.List_.map eTValue),dM (x1.Fields.map eTField)])]⟩) ?_ ?_
 ·have h:=ho
  clear ho
  refine ww ?_
  refine condSh h (fun c3 h=>?_) (fun c3 h=>?_)
  ·refine ww ?_
   obtain⟨t4,ht4,h⟩:=bi h
   refine cN [] (F101_ok ht4) trivial (ww ?_)
   cases h
   exact eM [some 0,some 1] rfl
  refine ww ?_
  cases h
  exact eM [some 0,some 1] rfl
 rintro _ rfl
 clear ho
 refine ww ?_
 obtain⟨o5,ho,h⟩:=bi h
 refine cutS (fun s=>s=⟨[(2,.one (.c (.pt 0 0))),(3,.one (.c (.pt 1 0))),(5,.one (.c (dI o5)))],[some (.box [dI x0.Kind,dI x0.N,dS x0.S,dM (x0.List_.map eTValue),dM (x0.Fields.map eTField)]),some (.box [dI x1.Kind,dI x1.N,dS x1.S,dM (x1.List_.map eTValue),dM (x1.Fields.map eTField)])]⟩) ?_ ?_
 ·have h:=ho
  clear ho
  refine ww ?_
  refine condSh h (fun c6 h=>?_) (fun c6 h=>?_)
  ·refine ww ?_
   obtain⟨t7,ht7,h⟩:=bi h
   refine cN [] (F101_ok ht7) trivial (ww ?_)
   cases h
   exact eM [some 0,some 1] rfl
  refine ww ?_
  cases h
  exact eM [some 0,some 1] rfl
 rintro _ rfl
 clear ho
 refine ww ?_
 obtain⟨o8,ho,h⟩:=bi h
 refine cutS (fun s=>s=⟨[(2,.one (.c (.pt 0 0))),(3,.one (.c (.pt 1 0))),(5,.one (.c (dI o8)))],[some (.box [dI x0.Kind,dI x0.N,dS x0.S,dM (x0.List_.map eTValue),dM (x0.Fields.map eTField)]),some (.box [dI x1.Kind,dI x1.N,dS x1.S,dM (x1.List_.map eTValue),dM (x1.Fields.map eTField)])]⟩) ?_ ?_
 ·have h:=ho
  clear ho
  refine ww ?_
  refine bL (fun j s=>∃(o8_0:Int) (o8_1:Int),s=⟨[(2,.one (.c (.pt 0 0))),(3,.one (.c (.pt 1 0))),(5,.one (.c (dI o8_0))),(6,.one (.c (dI o8_1)))],[some (.box [dI x0.Kind,dI x0.N,dS x0.S,dM (x0.List_.map eTValue),dM (x0.Fields.map eTField)]),some (.box [dI x1.Kind,dI x1.N,dS x1.S,dM (x1.List_.map eTValue),dM (x1.Fields.map eTField)])]⟩∧F72_l8 rc96 x0 x1 j o8_0 o8_1=some o8) 1099511627776 [some 0,some 1] ⟨o5,0,rfl,h⟩ ?_
  rintro j _ ⟨o8_0,o8_1,rfl,h⟩
  cases j with
  |zero=>cases(show(none:Option _)=some _ from h)
  |succ j=>
   rw[F72_l8]at h
   refine ww ?_
   obtain⟨o9,ho,h⟩:=bi h
   refine cutS (fun s=>s=⟨[(2,.one (.c (.pt 0 0))),(3,.one (.c (.pt 1 0))),(5,.one (.c (dI o8_0))),(6,.one (.c (dI o8_1))),(60,.one (.c (dB o9)))],[some (.box [dI x0.Kind,dI x0.N,dS x0.S,dM (x0.List_.map eTValue),dM (x0.Fields.map eTField)]),some (.box [dI x1.Kind,dI x1.N,dS x1.S,dM (x1.List_.map eTValue),dM (x1.Fields.map eTField)])]⟩) ?_ ?_
   ·have h:=ho
    clear ho
    refine ww ?_
    refine guardSh h (fun g10 h=>?_) (fun g10 h=>?_)
    ·refine ww ?_
     refine guardSh h (fun g11 h=>?_) (fun g11 h=>?_)
     ·refine ww ?_
      cases h
      exact eM [some 0,some 1] rfl
     ·refine ww ?_
      cases h
      exact eM [some 0,some 1] rfl
    ·refine ww ?_
     cases h
     exact eM [some 0,some 1] rfl
   ·rintro _ rfl
    clear ho
    refine ww ?_
    refine condBh h (fun c12 h=>?_) (fun c12 h=>?_)
    ·refine ww ?_
     obtain⟨y13,hy13,h⟩:=bi h
     refine t_idxF (enc:=eTValue) (xs:=x0.List_) rfl rfl hy13 (by rw[eTValue_u];rfl) (ww ?_)
     obtain⟨y14,hy14,h⟩:=bi h
     refine t_idxF (enc:=eTValue) (xs:=x1.List_) rfl rfl hy14 (by rw[eTValue_u];rfl) (ww ?_)
     obtain⟨t15,ht15,h⟩:=bi h
     refine cN [] (ih96 ht15) trivial (ww ?_)
     exact eL' j [some 0,some 1] ⟨t15,(IntKind.i64.wrap (o8_1+1)),rfl,h⟩ (Nat.lt_succ_self _)
    ·refine ww ?_
     cases h
     exact eM [some 0,some 1] rfl
 rintro _ rfl
 clear ho
 refine ww ?_
 obtain⟨o16,ho,h⟩:=bi h
 refine cutS (fun s=>s=⟨[(2,.one (.c (.pt 0 0))),(3,.one (.c (.pt 1 0))),(5,.one (.c (dI o16)))],[some (.box [dI x0.Kind,dI x0.N,dS x0.S,dM (x0.List_.map eTValue),dM (x0.Fields.map eTField)]),some (.box [dI x1.Kind,dI x1.N,dS x1.S,dM (x1.List_.map eTValue),dM (x1.Fields.map eTField)])]⟩) ?_ ?_
 ·have h:=ho
  clear ho
  refine ww ?_
  refine condSh h (fun c17 h=>?_) (fun c17 h=>?_)
  ·refine ww ?_
   obtain⟨t18,ht18,h⟩:=bi h
   refine cN [] (F101_ok ht18) trivial (ww ?_)
   cases h
   exact eM [some 0,some 1] rfl
  refine ww ?_
  cases h
  exact eM [some 0,some 1] rfl
 rintro _ rfl
 clear ho
 refine ww ?_
 obtain⟨o19,ho,h⟩:=bi h
 refine cutS (fun s=>s=⟨[(2,.one (.c (.pt 0 0))),(3,.one (.c (.pt 1 0))),(5,.one (.c (dI o19)))],[some (.box [dI x0.Kind,dI x0.N,dS x0.S,dM (x0.List_.map eTValue),dM (x0.Fields.map eTField)]),some (.box [dI x1.Kind,dI x1.N,dS x1.S,dM (x1.List_.map eTValue),dM (x1.Fields.map eTField)])]⟩) ?_ ?_
 ·have h:=ho
  clear ho
  refine ww ?_
  refine bL (fun j s=>∃(o19_0:Int) (o19_1:Int),s=⟨[(2,.one (.c (.pt 0 0))),(3,.one (.c (.pt 1 0))),(5,.one (.c (dI o19_0))),(7,.one (.c (dI o19_1)))],[some (.box [dI x0.Kind,dI x0.N,dS x0.S,dM (x0.List_.map eTValue),dM (x0.Fields.map eTField)]),some (.box [dI x1.Kind,dI x1.N,dS x1.S,dM (x1.List_.map eTValue),dM (x1.Fields.map eTField)])]⟩∧F72_l19 rc96 x0 x1 j o19_0 o19_1=some o19) 1099511627776 [some 0,some 1] ⟨o16,0,rfl,h⟩ ?_
  rintro j _ ⟨o19_0,o19_1,rfl,h⟩
  cases j with
  |zero=>cases(show(none:Option _)=some _ from h)
  |succ j=>
   rw[F72_l19]at h
   refine ww ?_
   obtain⟨o20,ho,h⟩:=bi h
   refine cutS (fun s=>s=⟨[(2,.one (.c (.pt 0 0))),(3,.one (.c (.pt 1 0))),(5,.one (.c (dI o19_0))),(7,.one (.c (dI o19_1))),(106,.one (.c (dB o20)))],[some (.box [dI x0.Kind,dI x0.N,dS x0.S,dM (x0.List_.map eTValue),dM (x0.Fields.map eTField)]),some (.box [dI x1.Kind,dI x1.N,dS x1.S,dM (x1.List_.map eTValue),dM (x1.Fields.map eTField)])]⟩) ?_ ?_
   ·have h:=ho
    clear ho
    refine ww ?_
    refine guardSh h (fun g21 h=>?_) (fun g21 h=>?_)
    ·refine ww ?_
     refine guardSh h (fun g22 h=>?_) (fun g22 h=>?_)
     ·refine ww ?_
      cases h
      exact eM [some 0,some 1] rfl
     ·refine ww ?_
      cases h
      exact eM [some 0,some 1] rfl
    ·refine ww ?_
     cases h
     exact eM [some 0,some 1] rfl
   ·rintro _ rfl
    clear ho
    refine ww ?_
    refine condBh h (fun c23 h=>?_) (fun c23 h=>?_)
    ·refine ww ?_
     obtain⟨o24,ho,h⟩:=bi h
     refine cutS (fun s=>s=⟨[(2,.one (.c (.pt 0 0))),(3,.one (.c (.pt 1 0))),(5,.one (.c (dI o24))),(7,.one (.c (dI o19_1)))],[some (.box [dI x0.Kind,dI x0.N,dS x0.S,dM (x0.List_.map eTValue),dM (x0.Fields.map eTField)]),some (.box [dI x1.Kind,dI x1.N,dS x1.S,dM (x1.List_.map eTValue),dM (x1.Fields.map eTField)])]⟩) ?_ ?_
     ·have h:=ho
      clear ho
      refine ww ?_
      obtain⟨y25,hy25,h⟩:=bi h
      refine t_idxF (enc:=eTField) (xs:=x0.Fields) rfl rfl hy25 (by rw[eTField_u];rfl) (ww ?_)
      obtain⟨y26,hy26,h⟩:=bi h
      refine t_idxF (enc:=eTField) (xs:=x1.Fields) rfl rfl hy26 (by rw[eTField_u];rfl) (ww ?_)
      refine t_idxF (enc:=eTField) (xs:=x0.Fields) rfl rfl hy25 (by rw[eTField_u];rfl) (ww ?_)
      refine t_idxF (enc:=eTField) (xs:=x1.Fields) rfl rfl hy26 (by rw[eTField_u];rfl) (ww ?_)
      obtain⟨t27,ht27,h⟩:=bi h
      refine cN [] (F101_ok ht27) trivial (ww ?_)
      refine condSh h (fun c28 h=>?_) (fun c28 h=>?_)
      ·refine ww ?_
       refine t_idxF (enc:=eTField) (xs:=x0.Fields) rfl rfl hy25 (by rw[eTField_u];rfl) (ww ?_)
       refine t_idxF (enc:=eTField) (xs:=x1.Fields) rfl rfl hy26 (by rw[eTField_u];rfl) (ww ?_)
       obtain⟨t29,ht29,h⟩:=bi h
       refine cN [] (ih96 ht29) trivial (ww ?_)
       cases h
       exact eM [some 0,some 1] rfl
      ·refine ww ?_
       cases h
       exact eM [some 0,some 1] rfl
     ·rintro _ rfl
      clear ho
      refine ww ?_
      exact eL' j [some 0,some 1] ⟨o24,(IntKind.i64.wrap (o19_1+1)),rfl,h⟩ (Nat.lt_succ_self _)
    ·refine ww ?_
     cases h
     exact eM [some 0,some 1] rfl
 rintro _ rfl
 clear ho
 refine ww ?_
 refine condSh h (fun c30 h=>?_) (fun c30 h=>?_)
 ·refine ww ?_
  obtain⟨t31,ht31,h⟩:=bi h
  refine cN [] (F101_ok ht31) trivial (ww ?_)
  cases h
  exact eF []
 refine ww ?_
 cases h
 exact eF []
def F72k:Nat→TValue→TValue→Option (Int)
 |0=>fun _ _=>none
 |k+1=>F72 (F72k k)
theorem F72k_ok(k:Nat){x0:TValue}{x1:TValue}{r:Int}(h:F72k k x0 x1=some r):CallD Tryz.prog 72 [.agg [dI x0.Kind,dI x0.N,dS x0.S,dM (x0.List_.map eTValue),dM (x0.Fields.map eTField)],.agg [dI x1.Kind,dI x1.N,dS x1.S,dM (x1.List_.map eTValue),dM (x1.Fields.map eTField)]] [] (tupV [.c (dI r)]) []:=by
 induction k generalizing x0 x1 r with
 |zero=>cases(show(none:Option (Int))=some _ from h)
 |succ k ih=>exact F72_ok (fun h=>ih h) h
end Go.Proofs.YtdkmamiedcanfaaGreat
