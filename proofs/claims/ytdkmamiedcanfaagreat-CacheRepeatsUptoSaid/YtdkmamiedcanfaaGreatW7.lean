/- Each Go function as a function over typed data, and its walk. -/
import Derived.Test.YtdkmamiedcanfaaGreatW0
import Derived.Test.YtdkmamiedcanfaaGreatW1
import Derived.Test.YtdkmamiedcanfaaGreatW2
import Derived.Test.YtdkmamiedcanfaaGreatW3
import Derived.Test.YtdkmamiedcanfaaGreatW4
import Derived.Test.YtdkmamiedcanfaaGreatW5
import Derived.Test.YtdkmamiedcanfaaGreatW6
namespace Go.Proofs.YtdkmamiedcanfaaGreat
open Go Go.Fw Go.Shelf
set_option maxRecDepth 100000
set_option maxHeartbeats 4000000
set_option linter.unusedSimpArgs false
set_option linter.unusedVariables false
def F127(x0:Meta):Option (Bool):=(((F160 x0.Kind).bind fun t2=>(if(nb t2)=true then some true else(if¬(x0.Namespace=(⟨#[]⟩:ByteArray))then(F161 x0.Namespace).bind fun t5=>(if(nb t5)=true then some true else(F161 x0.Name).bind fun t7=>some (nb t7))else(F161 x0.Name).bind fun t8=>some (nb t8)))).bind fun o1=>(if o1=true then some false else(((if x0.Uid<0 then some true else(if x0.Version<0 then some true else(if x0.Generation<0 then some true else(if x0.Created<0 then some true else(if x0.DeleteAt<0 then some true else(if(nb x0.Deleting)=true then some (decide (¬(x0.DeleteAt=0)))else some false))))))).bind fun o10=>(if o10=true then some false else(((F162 x0.Labels).bind fun t19=>(if t19=true then(F163 x0.Owners).bind fun t21=>(if t21=true then(F164 x0.Finalizers).bind fun t23=>(if t23=true then(F165 x0.Managers).bind fun t25=>some t25 else some false)else some false)else some false)).bind fun o18=>some o18)))))
def a127:AFn:=⟨75,[(.tmp 2)],
 (.seq (.reg [sq 1 (.box (.t 0)),
sq 2 (.mv (kB false))])
 (.seq (.seq (.sem (.reg [sq 3 (.fieldA 0 (.t 1)),
sq 4 (.load none (.t 3)),
sq 5 (.call 160 [(.t 4)]),
sq 6 (.not (.t 5)),
sq 7 (.mv (.t 6)),
zg 8 7 false (.fieldA 1 (.t 1)),
zg 9 7 false (.load none (.t 8)),
zg 10 7 false (.bin .neq (.t 9) (kS ⟨#[]⟩)),
zg 11 7 false (.mv (.t 10)),
zg 12 11 true (.fieldA 1 (.t 1)),
zg 13 11 true (.load none (.t 12)),
zg 14 11 true (.call 161 [(.t 13)]),
zg 15 11 true (.not (.t 14)),
zg 16 7 false (.pick (.t 11) (.t 15) (kB false)),
sq 17 (.pick (.t 7) (kB true) (.t 16)),
sq 18 (.mv (.t 17)),
zg 19 18 false (.fieldA 2 (.t 1)),
zg 20 18 false (.load none (.t 19)),
zg 21 18 false (.call 161 [(.t 20)]),
zg 22 18 false (.not (.t 21)),
sq 23 (.pick (.t 18) (kB true) (.t 22))]))
 (.cond (.t 23)
 (.seq (.reg [sq 2 (.mv (kB false))])
 .ret)
 .skip))
 (.seq (.seq (.sem (.reg [sq 24 (.fieldA 3 (.t 1)),
sq 25 (.load none (.t 24)),
sq 26 (.bin .lss (.t 25) (kI 0)),
sq 27 (.mv (.t 26)),
zg 28 27 false (.fieldA 4 (.t 1)),
zg 29 27 false (.load none (.t 28)),
zg 30 27 false (.bin .lss (.t 29) (kI 0)),
sq 31 (.pick (.t 27) (kB true) (.t 30)),
sq 32 (.mv (.t 31)),
zg 33 32 false (.fieldA 5 (.t 1)),
zg 34 32 false (.load none (.t 33)),
zg 35 32 false (.bin .lss (.t 34) (kI 0)),
sq 36 (.pick (.t 32) (kB true) (.t 35)),
sq 37 (.mv (.t 36)),
zg 38 37 false (.fieldA 6 (.t 1)),
zg 39 37 false (.load none (.t 38)),
zg 40 37 false (.bin .lss (.t 39) (kI 0)),
sq 41 (.pick (.t 37) (kB true) (.t 40)),
sq 42 (.mv (.t 41)),
zg 43 42 false (.fieldA 8 (.t 1)),
zg 44 42 false (.load none (.t 43)),
zg 45 42 false (.bin .lss (.t 44) (kI 0)),
sq 46 (.pick (.t 42) (kB true) (.t 45)),
sq 47 (.mv (.t 46)),
zg 48 47 false (.fieldA 7 (.t 1)),
zg 49 47 false (.load none (.t 48)),
zg 50 47 false (.not (.t 49)),
zg 51 47 false (.mv (.t 50)),
zg 52 51 true (.fieldA 8 (.t 1)),
zg 53 51 true (.load none (.t 52)),
zg 54 51 true (.bin .neq (.t 53) (kI 0)),
zg 55 47 false (.pick (.t 51) (.t 54) (kB false)),
sq 56 (.pick (.t 47) (kB true) (.t 55))]))
 (.cond (.t 56)
 (.seq (.reg [sq 2 (.mv (kB false))])
 .ret)
 .skip))
 (.seq (.sem (.reg [sq 57 (.fieldA 9 (.t 1)),
sq 58 (.load none (.t 57)),
sq 59 (.call 162 [(.t 58)]),
sq 60 (.mv (.t 59)),
zg 61 60 true (.fieldA 10 (.t 1)),
zg 62 60 true (.load none (.t 61)),
zg 63 60 true (.call 163 [(.t 62)]),
sq 64 (.pick (.t 60) (.t 63) (kB false)),
sq 65 (.mv (.t 64)),
zg 66 65 true (.fieldA 11 (.t 1)),
zg 67 65 true (.load none (.t 66)),
zg 68 65 true (.call 164 [(.t 67)]),
sq 69 (.pick (.t 65) (.t 68) (kB false)),
sq 70 (.mv (.t 69)),
zg 71 70 true (.fieldA 12 (.t 1)),
zg 72 70 true (.load none (.t 71)),
zg 73 70 true (.call 165 [(.t 72)]),
sq 74 (.pick (.t 70) (.t 73) (kB false)),
sq 2 (.mv (.t 74))]))
 .ret))))⟩
theorem F127_ok{x0 r}(h:F127 x0=some r):CallD Tryz.prog 127 [.agg [dS x0.Kind,dS x0.Namespace,dS x0.Name,dI x0.Uid,dI x0.Version,dI x0.Generation,dI x0.Created,dB x0.Deleting,dI x0.DeleteAt,dM (x0.Labels.map eLabel),dM (x0.Owners.map eOwner),dM (x0.Finalizers.map eS),dM (x0.Managers.map eManager)]] [] (tupV [.c (dB r)]) []:=by
 rw[F127]at h
 refine zc a127 (by kernel_rfl) rfl (ww ?_)
 obtain⟨o1,ho,h⟩:=bi h
 refine cutS (fun s=>s=⟨[(1,.one (.c (.pt 0 0))),(23,.one (.c (dB o1)))],[some (.box [dS x0.Kind,dS x0.Namespace,dS x0.Name,dI x0.Uid,dI x0.Version,dI x0.Generation,dI x0.Created,dB x0.Deleting,dI x0.DeleteAt,dM (x0.Labels.map eLabel),dM (x0.Owners.map eOwner),dM (x0.Finalizers.map eS),dM (x0.Managers.map eManager)])]⟩) ?_ ?_
 ·have h:=ho
  clear ho
  refine ww ?_
  obtain⟨t2,ht2,h⟩:=bi h
  refine cN [] (F160_ok ht2) trivial (ww ?_)
  refine guardSBh h (fun g3 h=>?_) (fun g3 h=>?_)
  ·refine ww ?_
   cases h
   exact eM [some 0] rfl
  refine ww ?_
  refine guardSh h (fun g4 h=>?_) (fun g4 h=>?_)
  ·refine ww ?_
   obtain⟨t5,ht5,h⟩:=bi h
   refine cN [] (F161_ok ht5) trivial (ww ?_)
   refine guardSBh h (fun g6 h=>?_) (fun g6 h=>?_)
   ·refine ww ?_
    cases h
    exact eM [some 0] rfl
   refine ww ?_
   obtain⟨t7,ht7,h⟩:=bi h
   refine cN [] (F161_ok ht7) trivial (ww ?_)
   cases h
   exact eM [some 0] rfl
  refine ww ?_
  obtain⟨t8,ht8,h⟩:=bi h
  refine cN [] (F161_ok ht8) trivial (ww ?_)
  cases h
  exact eM [some 0] rfl
 rintro _ rfl
 clear ho
 refine ww ?_
 refine condBh h (fun c9 h=>?_) (fun c9 h=>?_)
 ·refine ww ?_
  cases h
  exact eF []
 refine ww ?_
 obtain⟨o10,ho,h⟩:=bi h
 refine cutS (fun s=>s=⟨[(1,.one (.c (.pt 0 0))),(56,.one (.c (dB o10)))],[some (.box [dS x0.Kind,dS x0.Namespace,dS x0.Name,dI x0.Uid,dI x0.Version,dI x0.Generation,dI x0.Created,dB x0.Deleting,dI x0.DeleteAt,dM (x0.Labels.map eLabel),dM (x0.Owners.map eOwner),dM (x0.Finalizers.map eS),dM (x0.Managers.map eManager)])]⟩) ?_ ?_
 ·have h:=ho
  clear ho
  refine ww ?_
  refine guardSh h (fun g11 h=>?_) (fun g11 h=>?_)
  ·refine ww ?_
   cases h
   exact eM [some 0] rfl
  refine ww ?_
  refine guardSh h (fun g12 h=>?_) (fun g12 h=>?_)
  ·refine ww ?_
   cases h
   exact eM [some 0] rfl
  refine ww ?_
  refine guardSh h (fun g13 h=>?_) (fun g13 h=>?_)
  ·refine ww ?_
   cases h
   exact eM [some 0] rfl
  refine ww ?_
  refine guardSh h (fun g14 h=>?_) (fun g14 h=>?_)
  ·refine ww ?_
   cases h
   exact eM [some 0] rfl
  refine ww ?_
  refine guardSh h (fun g15 h=>?_) (fun g15 h=>?_)
  ·refine ww ?_
   cases h
   exact eM [some 0] rfl
  refine ww ?_
  refine guardSBh h (fun g16 h=>?_) (fun g16 h=>?_)
  ·refine ww ?_
   cases h
   exact eM [some 0] rfl
  refine ww ?_
  cases h
  exact eM [some 0] rfl
 rintro _ rfl
 clear ho
 refine ww ?_
 refine condBh h (fun c17 h=>?_) (fun c17 h=>?_)
 ·refine ww ?_
  cases h
  exact eF []
 refine ww ?_
 obtain⟨o18,ho,h⟩:=bi h
 refine cutS (fun s=>s=⟨[(2,.one (.c (dB o18)))],[]⟩) ?_ ?_
 ·have h:=ho
  clear ho
  refine ww ?_
  obtain⟨t19,ht19,h⟩:=bi h
  refine cN [] (F162_ok ht19) trivial (ww ?_)
  refine guardSBh h (fun g20 h=>?_) (fun g20 h=>?_)
  ·refine ww ?_
   obtain⟨t21,ht21,h⟩:=bi h
   refine cN [] (F163_ok ht21) trivial (ww ?_)
   refine guardSBh h (fun g22 h=>?_) (fun g22 h=>?_)
   ·refine ww ?_
    obtain⟨t23,ht23,h⟩:=bi h
    refine cN [] (F164_ok ht23) trivial (ww ?_)
    refine guardSBh h (fun g24 h=>?_) (fun g24 h=>?_)
    ·refine ww ?_
     obtain⟨t25,ht25,h⟩:=bi h
     refine cN [] (F165_ok ht25) trivial (ww ?_)
     cases h
     exact eM [] rfl
    refine ww ?_
    cases h
    exact eM [] rfl
   refine ww ?_
   cases h
   exact eM [] rfl
  refine ww ?_
  cases h
  exact eM [] rfl
 rintro _ rfl
 clear ho
 refine ww ?_
 cases h
 exact eF []
def F128(x0:TValue):Option (Bool):=(((F166k 1099511627776 x0 12).bind fun t2=>(if t2=true then(F54k 1099511627776 x0).bind fun t4=>some (decide (t4≤600))else some false)).bind fun o1=>some o1)
def a128:AFn:=⟨10,[(.tmp 2)],
 (.seq (.reg [sq 1 (.box (.t 0)),
sq 2 (.mv (kB false))])
 (.seq (.sem (.reg [sq 3 (.load (some 5) (.t 1)),
sq 4 (.call 166 [(.t 3),(kI 12)]),
sq 5 (.mv (.t 4)),
zg 6 5 true (.load (some 5) (.t 1)),
zg 7 5 true (.call 54 [(.t 6)]),
zg 8 5 true (.bin .leq (.t 7) (kI 600)),
sq 9 (.pick (.t 5) (.t 8) (kB false)),
sq 2 (.mv (.t 9))]))
 .ret))⟩
theorem F128_ok{x0 r}(h:F128 x0=some r):CallD Tryz.prog 128 [.agg [dI x0.Kind,dI x0.N,dS x0.S,dM (x0.List_.map eTValue),dM (x0.Fields.map eTField)]] [] (tupV [.c (dB r)]) []:=by
 rw[F128]at h
 refine zc a128 (by kernel_rfl) rfl (ww ?_)
 obtain⟨o1,ho,h⟩:=bi h
 refine cutS (fun s=>s=⟨[(2,.one (.c (dB o1)))],[]⟩) ?_ ?_
 ·have h:=ho
  clear ho
  refine ww ?_
  obtain⟨t2,ht2,h⟩:=bi h
  refine cN [] (F166k_ok 1099511627776 ht2) trivial (ww ?_)
  refine guardSBh h (fun g3 h=>?_) (fun g3 h=>?_)
  ·refine ww ?_
   obtain⟨t4,ht4,h⟩:=bi h
   refine cN [] (F54k_ok 1099511627776 ht4) trivial (ww ?_)
   cases h
   exact eM [] rfl
  refine ww ?_
  cases h
  exact eM [] rfl
 rintro _ rfl
 clear ho
 refine ww ?_
 cases h
 exact eF []
def F52_l1(x1:ByteArray):List Object→Nat→Option ((Int) ⊕ (Unit))
 |[],o1_0=>some (Sum.inr (()))
 |xo1::xs,o1_0=>(F92 xo1).bind fun t3=>(if t3=x1 then(some ((o1_0:Int))).map Sum.inl else F52_l1 x1 xs (o1_0+1))
def F52(x0:(List Object))(x1:ByteArray):Option (Int):=(((ck (0≤x0.length∧x0.length≤4294967290)).bind fun u5=>F52_l1 x1 x0 0:Option ((Int) ⊕ (Unit))).bind fun o1=>match o1 with|Sum.inl f=>some f|Sum.inr po1=>some ((-1)))
def a52:AFn:=⟨20,[(.tmp 4)],
 (.seq (.reg [sq 4 (.mv (kI 0))])
 (.seq (.seq (.reg [sq 5 (.mv (kI 0))])
 (.sem (.block 0 (.loop (.seq (.seq (.reg [sq 6 (.mv (.t 5)),
sq 7 (.mv (.t 0)),
sq 8 (.len (.t 7)),
sq 9 (.bin .lss (.t 6) (.t 8))])
 (.cond (.t 9)
 .skip
 (.exit 0)))
 (.seq (.block 1 (.seq (.reg [sq 12 (.mv (.t 0)),
sq 13 (.mv (.t 5)),
sq 14 (.indexA 23 (.t 12) (.t 13)),
sq 15 (.load (some 23) (.t 14)),
sq 16 (.call 92 [(.t 15)]),
sq 17 (.mv (.t 1)),
sq 18 (.bin .eql (.t 16) (.t 17))])
 (.cond (.t 18)
 (.seq (.reg [sq 19 (.mv (.t 5)),
sq 4 (.mv (.t 19))])
 .ret)
 .skip)))
 (.reg [sq 10 (.mv (.t 5)),
sq 11 (.bin .add (.t 10) (kI 1)),
sq 5 (.mv (.t 11))])))))))
 (.seq (.reg [sq 4 (.mv (kI (-1)))])
 .ret)))⟩
theorem F52_ok{x0 x1 r}(h:F52 x0 x1=some r):CallD Tryz.prog 52 [.c (dM (x0.map eObject)),.c (dS x1)] [] (tupV [.c (dI r)]) []:=by
 rw[F52]at h
 refine zc a52 (by kernel_rfl) rfl (ww ?_)
 obtain⟨o1,ho,h⟩:=bi h
 refine cutS (fun s=>∃po1,o1=Sum.inr po1∧s=⟨[],[]⟩) ?_ ?_
 ·have h0o1:=h
  have h:=ho
  clear ho
  obtain⟨_,hk,h⟩:=bi h
  have hk:=ck_some hk
  refine ww ?_
  refine bL (fun j s=>∃(o1_0:Nat),(o1_0≤x0.length∧j=x0.length-o1_0)∧s=⟨[(0,.one (.c (dM (x0.map eObject)))),(1,.one (.c (dS x1))),(5,.one (.c (dI ((o1_0:Int)))))],[]⟩∧F52_l1 x1 (x0.drop o1_0) o1_0=some o1) (x0.length-0) [] ⟨0,⟨hk.1,rfl⟩,rfl,h⟩ ?_
  rintro _ _ ⟨o1_0,⟨hi,rfl⟩,rfl,h⟩
  refine ww ?_
  refine condS (fun c2=>?_) (fun c2=>?_)
  ·obtain⟨xo1,hxo1,hd⟩:=countY (show(o1_0:Int)<(x0.length:Int)from c2)
   rw[hd,F52_l1]at h
   refine ww ?_
   refine t_idxF (enc:=eObject) (xs:=x0) rfl rfl hxo1 rfl (ww ?_)
   obtain⟨t3,ht3,h⟩:=bi h
   refine cN [] (F92_ok ht3) trivial (ww ?_)
   refine condSh h (fun c4 h=>?_) (fun c4 h=>?_)
   ·refine ww ?_
    obtain⟨fh0o1,hfh0o1,rfl⟩:=Option.map_eq_some_iff.1 h
    have h:=hfh0o1.trans h0o1
    cases h
    exact eF []
   refine ww ?_
   rw[wrapN (by omega)]
   exact eL' (x0.length-(o1_0+1)) [] ⟨o1_0+1,⟨by omega,rfl⟩,rfl,h⟩ (by omega)
  rw[countN (show¬((o1_0:Int)<(x0.length:Int))from c2),F52_l1]at h
  refine ww ?_
  cases h
  exact eM [] ⟨_,rfl,rfl⟩
 rintro _ ⟨po1,rfl,rfl⟩
 clear ho
 dsimp only at h
 refine ww ?_
 cases h
 exact eF []
def F124_l1(x1:ByteArray):List Object→Nat→(List Object)→Option ((List Object))
 |[],o1_1,o1_0=>some o1_0
 |xo1::xs,o1_1,o1_0=>(((F92 xo1).bind fun t4=>(if¬(t4=x1)then(apI o1_0 ([xo1])).bind fun a6=>some a6 else some o1_0)).bind fun o3=>F124_l1 x1 xs (o1_1+1) o3)
def F124(x0:(List Object))(x1:ByteArray):Option ((List Object)):=(((ck (0≤x0.length∧x0.length≤4294967290)).bind fun u7=>F124_l1 x1 x0 0 ([])).bind fun o1=>some o1)
def a124:AFn:=⟨29,[(.tmp 4)],
 (.seq (.reg [sq 4 (.mv kN)])
 (.seq (.reg [sq 7 (.bslice 23 []),
sq 5 (.mv (.t 7))])
 (.seq (.seq (.reg [sq 6 (.mv (kI 0))])
 (.sem (.block 0 (.loop (.seq (.seq (.reg [sq 8 (.mv (.t 6)),
sq 9 (.mv (.t 0)),
sq 10 (.len (.t 9)),
sq 11 (.bin .lss (.t 8) (.t 10))])
 (.cond (.t 11)
 .skip
 (.exit 0)))
 (.seq (.sem (.block 1 (.seq (.reg [sq 14 (.mv (.t 0)),
sq 15 (.mv (.t 6)),
sq 16 (.indexA 23 (.t 14) (.t 15)),
sq 17 (.load (some 23) (.t 16)),
sq 18 (.call 92 [(.t 17)]),
sq 19 (.mv (.t 1)),
sq 20 (.bin .neq (.t 18) (.t 19))])
 (.cond (.t 20)
 (.reg [sq 21 (.mv (.t 5)),
sq 22 (.mv (.t 0)),
sq 23 (.mv (.t 6)),
sq 24 (.indexA 23 (.t 22) (.t 23)),
sq 25 (.load (some 23) (.t 24)),
sq 26 (.bslice 23 [(.t 25)]),
sq 27 (.app 23 352 (.t 21) (.t 26)),
sq 5 (.mv (.t 27))])
 .skip))))
 (.reg [sq 12 (.mv (.t 6)),
sq 13 (.bin .add (.t 12) (kI 1)),
sq 6 (.mv (.t 13))])))))))
 (.seq (.reg [sq 28 (.mv (.t 5)),
sq 4 (.mv (.t 28))])
 .ret))))⟩
theorem F124_ok{x0 x1 r}(h:F124 x0 x1=some r):CallD Tryz.prog 124 [.c (dM (x0.map eObject)),.c (dS x1)] [] (tupV [.c (.own 0 0 0 (r.length) none)]) [some (.arr 0 23 (r.map eObject))]:=by
 rw[F124]at h
 refine zc a124 (by kernel_rfl) rfl (ww ?_)
 refine t_bslice (enc:=eObject) (ys:=([]:List Object)) rfl rfl (by simp[A1.cells]) (by first|rfl|(simp only[List.drop_zero,take_mapL];rfl)|(simp only[lit,List.map_cons,List.map_nil,List.drop_zero,take_mapL,EE.down];done)|(simp only[lit,List.map_cons,List.map_nil,List.drop_zero,take_mapL,EE.down];rfl)) (ww ?_)
 obtain⟨o1,ho,h⟩:=bi h
 refine cutS (fun s=>s=⟨[(5,.one (.c (.own 0 0 0 (o1.length) none)))],[some (.arr 0 23 (o1.map eObject))]⟩) ?_ ?_
 ·have h:=ho
  clear ho
  obtain⟨_,hk,h⟩:=bi h
  have hk:=ck_some hk
  refine ww ?_
  refine bL (fun j s=>∃(o1_1:Nat) (o1_0:List Object),(o1_1≤x0.length∧j=x0.length-o1_1)∧s=⟨[(0,.one (.c (dM (x0.map eObject)))),(1,.one (.c (dS x1))),(5,.one (.c (.own 0 0 0 (o1_0.length) none))),(6,.one (.c (dI ((o1_1:Int)))))],[some (.arr 0 23 (o1_0.map eObject))]⟩∧F124_l1 x1 (x0.drop o1_1) o1_1 o1_0=some o1) (x0.length-0) [some 0] ⟨0,[],⟨hk.1,rfl⟩,rfl,h⟩ ?_
  rintro _ _ ⟨o1_1,o1_0,⟨hi,rfl⟩,rfl,h⟩
  refine ww ?_
  refine condS (fun c2=>?_) (fun c2=>?_)
  ·obtain⟨xo1,hxo1,hd⟩:=countY (show(o1_1:Int)<(x0.length:Int)from c2)
   rw[hd,F124_l1]at h
   refine ww ?_
   obtain⟨o3,ho,h⟩:=bi h
   refine cutS (fun s=>s=⟨[(0,.one (.c (dM (x0.map eObject)))),(1,.one (.c (dS x1))),(5,.one (.c (.own 0 0 0 (o3.length) none))),(6,.one (.c (dI ((o1_1:Int)))))],[some (.arr 0 23 (o3.map eObject))]⟩) ?_ ?_
   ·have h:=ho
    clear ho
    refine ww ?_
    refine t_idxF (enc:=eObject) (xs:=x0) rfl rfl hxo1 rfl (ww ?_)
    obtain⟨t4,ht4,h⟩:=bi h
    refine cN [] (F92_ok ht4) trivial (ww ?_)
    refine condSh h (fun c5 h=>?_) (fun c5 h=>?_)
    ·refine ww ?_
     refine t_idxF (enc:=eObject) (xs:=x0) rfl rfl hxo1 rfl (ww ?_)
     refine t_bslice (enc:=eObject) (ys:=[xo1]) rfl rfl (by simp[A1.cells]) (by first|rfl|(simp only[List.drop_zero,take_mapL];rfl)|(simp only[lit,List.map_cons,List.map_nil,List.drop_zero,take_mapL,EE.down];done)|(simp only[lit,List.map_cons,List.map_nil,List.drop_zero,take_mapL,EE.down];rfl)) (ww ?_)
     obtain⟨a6,ha6,h⟩:=bi h
     refine t_app (enc:=eObject) (xs:=o1_0) rfl rfl (by first|rfl|simp only[List.length_set]|exact(clrL_len (slI_len (by assumption))).symm) rfl (rows_full (enc:=eObject) (by first|rfl|simp only[List.length_set]|exact(clrL_len (slI_len (by assumption))).symm) rfl) ha6 (ww ?_)
     cases h
     exact eM [some 0] rfl
    refine ww ?_
    cases h
    exact eM [some 0] rfl
   rintro _ rfl
   clear ho
   refine ww ?_
   rw[wrapN (by omega)]
   exact eL' (x0.length-(o1_1+1)) [some 0] ⟨o1_1+1,o3,⟨by omega,rfl⟩,rfl,h⟩ (by omega)
  rw[countN (show¬((o1_1:Int)<(x0.length:Int))from c2),F124_l1]at h
  refine ww ?_
  cases h
  exact eM [some 0] rfl
 rintro _ rfl
 clear ho
 refine ww ?_
 cases h
 exact eF [some 0]
def F79(x0:Requirement):Option (Bool):=(F80 x0).bind fun t1=>some (nb t1)
def a79:AFn:=⟨6,[(.tmp 2)],
 (.seq (.reg [sq 1 (.box (.t 0)),
sq 2 (.mv (kB false))])
 (.seq (.reg [sq 3 (.load (some 3) (.t 1)),
sq 4 (.call 80 [(.t 3)]),
sq 5 (.not (.t 4)),
sq 2 (.mv (.t 5))])
 .ret))⟩
theorem F79_ok{x0 r}(h:F79 x0=some r):CallD Tryz.prog 79 [.agg [dS x0.Key,dI x0.Op,dM (x0.Values.map eS)]] [] (tupV [.c (dB r)]) []:=by
 rw[F79]at h
 refine zc a79 (by kernel_rfl) rfl (ww ?_)
 obtain⟨t1,ht1,h⟩:=bi h
 refine cN [] (F80_ok ht1) trivial (ww ?_)
 cases h
 exact eF []
def F11_l1:List Object→Nat→(List (ByteArray×Object))→Option ((List (ByteArray×Object)))
 |[],o1_1,o1_0=>some o1_0
 |xo1::xs,o1_1,o1_0=>(F33 xo1.Meta).bind fun t3=>F11_l1 xs (o1_1+1) ((putM t3 xo1 o1_0))
def F11_l5:List Event→Nat→Int→(List (ByteArray×Object))→Option (Int×(List (ByteArray×Object)))
 |[],o5_2,o5_0,o5_1=>some ((o5_0,o5_1))
 |xo5::xs,o5_2,o5_0,o5_1=>(((if xo5.Rev≤o5_0 then some ((o5_0,o5_1))else(F33 xo5.Object.Meta).bind fun t9=>(((if xo5.Type_=1 then some (decide (xo5.Type_=1))else some (decide (xo5.Type_=2)))).bind fun o10=>(if o10=true then some ((xo5.Rev,(putM t9 xo5.Object o5_1)))else(if xo5.Type_=3 then some ((xo5.Rev,(delM t9 o5_1)))else some ((xo5.Rev,o5_1))))))).bind fun o7=>F11_l5 xs (o5_2+1) o7.1 o7.2)
def F11_l18(o5:Int×(List (ByteArray×Object)))(t17:List ByteArray):List ByteArray→Nat→(List Object)→Option ((List Object))
 |[],o18_1,o18_0=>some o18_0
 |xo18::xs,o18_1,o18_0=>(rdI t17 ((o18_1:Int))).bind fun y20=>(getM y20 o5.2).bind fun y21=>(F37 y21).bind fun t22=>(apI o18_0 ([(⟨(⟨y21.Meta.Kind,y21.Meta.Namespace,y21.Meta.Name,y21.Meta.Uid,y21.Meta.Version,y21.Meta.Generation,y21.Meta.Created,y21.Meta.Deleting,y21.Meta.DeleteAt,t22.1,t22.2.1,t22.2.2.1,t22.2.2.2.1⟩:Meta),(⟨y21.Spec.Kind,y21.Spec.N,y21.Spec.S,t22.2.2.2.2.1,t22.2.2.2.2.2.1⟩:TValue),(⟨y21.Status.Kind,y21.Status.N,y21.Status.S,t22.2.2.2.2.2.2.1,t22.2.2.2.2.2.2.2⟩:TValue)⟩:Object)])).bind fun a23=>F11_l18 o5 t17 xs (o18_1+1) a23
def F11(x0:Cache)(x1:(List Event)):Option ((List Requirement)×Int×(List Object)):=(((ck (0≤x0.Objects.length∧x0.Objects.length≤4294967290)).bind fun u4=>F11_l1 x0.Objects 0 ([])).bind fun o1=>(((ck (0≤x1.length∧x1.length≤4294967290)).bind fun u14=>F11_l5 x1 0 x0.Rev o1).bind fun o5=>(F34 x0.Filter).bind fun t15=>(F36 o5.2).bind fun t16=>(keysI ((o5.2.map Prod.fst))).bind fun t17=>(((ck (0≤t17.length∧t17.length≤4294967290)).bind fun u24=>F11_l18 o5 t17 t17 0 ([])).bind fun o18=>some ((t15,o5.1,o18)))))
def a11:AFn:=⟨83,[(.cell 4 (some 6))],
 (.seq (.reg [sq 2 (.box (.t 0)),
sq 4 (.zbox [dS ⟨#[]⟩,dS ⟨#[]⟩,dN,dI 0,dB false,dN])])
 (.seq (.reg [sq 13 (.mkmap),
sq 5 (.mv (.t 13))])
 (.seq (.seq (.reg [sq 14 (.fieldA 5 (.t 2)),
sq 15 (.load none (.t 14)),
sq 16 (.len (.t 15)),
sq 17 (.mv (kI 0))])
 (.sem (.block 0 (.loop (.seq (.reg [sq 18 (.bin .lss (.t 17) (.t 16))])
 (.seq (.cond (.t 18)
 .skip
 (.exit 0))
 (.seq (.block 1 (.seq (.reg [sq 19 (.indexA 23 (.t 15) (.t 17)),
sq 20 (.load (some 23) (.t 19)),
sq 7 (.zbox [dS ⟨#[]⟩,dS ⟨#[]⟩,dS ⟨#[]⟩,dI 0,dI 0,dI 0,dI 0,dB false,dI 0,dN,dN,dN,dN,dI 0,dI 0,dS ⟨#[]⟩,dN,dN,dI 0,dI 0,dS ⟨#[]⟩,dN,dN]),
su (.store 23 (.t 7) (.t 20))])
 (.regd [sq 21 (.mv (.t 5)),
sq 22 (.fieldA 0 (.t 7)),
sd 23 (.load (some 13) (.t 22)) [1],
zn 24 (.call 33 [(.t 23)]) [1,2] [1,2],
sq 25 (.load (some 23) (.t 7)),
⟨none,none,.mset 1 (.t 21) (.t 24) (.t 25),[0,1,2,3,4],(.lone [])⟩])))
 (.reg [sq 26 (.bin .add (.t 17) (kI 1)),
sq 17 (.mv (.t 26))]))))))))
 (.seq (.seq (.reg [sq 27 (.mv (.t 1)),
sq 28 (.len (.t 27)),
sq 29 (.mv (kI 0))])
 (.sem (.block 2 (.loop (.seq (.reg [sq 30 (.bin .lss (.t 29) (.t 28))])
 (.seq (.cond (.t 30)
 .skip
 (.exit 2))
 (.seq (.sem (.block 3 (.seq (.reg [sq 31 (.indexA 25 (.t 27) (.t 29)),
sq 32 (.load (some 25) (.t 31)),
sq 9 (.zbox [dI 0,dI 0,dS ⟨#[]⟩,dS ⟨#[]⟩,dS ⟨#[]⟩,dI 0,dI 0,dI 0,dI 0,dB false,dI 0,dN,dN,dN,dN,dI 0,dI 0,dS ⟨#[]⟩,dN,dN,dI 0,dI 0,dS ⟨#[]⟩,dN,dN]),
su (.store 25 (.t 9) (.t 32))])
 (.seq (.seq (.reg [sq 33 (.fieldA 1 (.t 9)),
sq 34 (.load none (.t 33)),
sq 35 (.fieldA 3 (.t 2)),
sq 36 (.load none (.t 35)),
sq 37 (.bin .leq (.t 34) (.t 36))])
 (.cond (.t 37)
 (.exit 3)
 .skip))
 (.seq (.reg [sq 38 (.fieldA 1 (.t 9)),
sq 39 (.load none (.t 38)),
sq 40 (.fieldA 3 (.t 2)),
⟨none,none,.store 1 (.t 40) (.t 39),[],(.lone [9,38,2])⟩])
 (.seq (.reg [sq 41 (.fieldA 2 (.t 9)),
sq 42 (.fieldA 0 (.t 41)),
sq 43 (.load (some 13) (.t 42)),
sq 44 (.call 33 [(.t 43)]),
sq 10 (.mv (.t 44))])
 (.seq (.reg [sq 45 (.fieldA 0 (.t 9)),
sq 46 (.load none (.t 45))])
 (.block 4 (.seq (.sem (.seq (.reg [sq 48 (.bin .eql (.t 46) (kI 1)),
sq 47 (.mv (.t 48))])
 (.cond (.t 47)
 .skip
 (.reg [sq 49 (.bin .eql (.t 46) (kI 2)),
sq 47 (.mv (.t 49))]))))
 (.cond (.t 47)
 (.reg [sq 50 (.mv (.t 5)),
sq 51 (.mv (.t 10)),
sq 52 (.fieldA 2 (.t 9)),
sq 53 (.load (some 23) (.t 52)),
⟨none,none,.mset 1 (.t 50) (.t 51) (.t 53),[],(.lone [9,52])⟩])
 (.seq (.reg [sq 55 (.bin .eql (.t 46) (kI 3)),
sq 54 (.mv (.t 55))])
 (.cond (.t 54)
 (.reg [sq 56 (.mv (.t 5)),
sq 57 (.mv (.t 10)),
⟨none,none,.mdel 1 (.t 56) (.t 57),[],(.lone [])⟩])
 .skip))))))))))))
 (.reg [sq 58 (.bin .add (.t 29) (kI 1)),
sq 29 (.mv (.t 58))]))))))))
 (.seq (.reg [sq 59 (.fieldA 0 (.t 2)),
sq 60 (.load (some 3) (.t 59)),
sq 61 (.call 34 [(.t 60)]),
sq 62 (.fieldA 0 (.t 2)),
su (.store 3 (.t 62) (.t 61)),
sq 63 (.fieldA 5 (.t 2)),
su (.store 1 (.t 63) kN)])
 (.seq (.seq (.reg [sq 64 (.mv (.t 5)),
sq 65 (.call 36 [(.t 64)]),
sq 66 (.call 35 [(.t 65)]),
sq 67 (.len (.t 66)),
sq 68 (.mv (kI 0))])
 (.sem (.block 5 (.loop (.seq (.reg [sq 69 (.bin .lss (.t 68) (.t 67))])
 (.seq (.cond (.t 69)
 .skip
 (.exit 5))
 (.seq (.block 6 (.seq (.reg [sq 70 (.indexA 1 (.t 66) (.t 68)),
sq 71 (.load none (.t 70)),
sq 12 (.mv (.t 71))])
 (.regd [sq 72 (.fieldA 5 (.t 2)),
sd 73 (.load none (.t 72)) [0],
sq 74 (.mv (.t 5)),
sq 75 (.mv (.t 12)),
zl 76 (.mget 1 false (.agg [dS ⟨#[]⟩,dS ⟨#[]⟩,dS ⟨#[]⟩,dI 0,dI 0,dI 0,dI 0,dB false,dI 0,dN,dN,dN,dN,dI 0,dI 0,dS ⟨#[]⟩,dN,dN,dI 0,dI 0,dS ⟨#[]⟩,dN,dN]) (.t 74) (.t 75)) [2,3] [2,72],
zl 77 (.call 37 [(.t 76)]) [2,3,4] [2,72],
zl 78 (.bslice 23 [(.t 77)]) [2,3,4,5] [2,72],
zl 79 (.app 23 352 (.t 73) (.t 78)) [0,1,2,3,4,5,6] [],
sd 80 (.fieldA 5 (.t 2)) [0,1,2,3,4,5,6,7],
⟨none,none,.store 1 (.t 80) (.t 79),[0,1,2,3,4,5,6,7,8],(.lone [])⟩])))
 (.reg [sq 81 (.bin .add (.t 68) (kI 1)),
sq 68 (.mv (.t 81))]))))))))
 (.seq (.reg [sq 82 (.load (some 6) (.t 2)),
⟨none,none,.store 6 (.t 4) (.t 82),[],(.lone [2])⟩])
 .ret)))))))⟩
theorem F11_ok{x0 x1 r}(h:F11 x0 x1=some r):CallD Tryz.prog 11 [.agg [dS x0.Filter.Kind,dS x0.Filter.Namespace,dM (x0.Filter.Selector.map eRequirement),dI x0.Rev,dB x0.Synced,dM (x0.Objects.map eObject)],.c (dM (x1.map eEvent))] [] (tupV [.agg [dS x0.Filter.Kind,dS x0.Filter.Namespace,.own 0 0 0 (r.1.length) none,dI r.2.1,dB x0.Synced,.own 1 0 0 (r.2.2.length) none]]) [some (.arr 0 3 (r.1.map eRequirement)),some (.arr 0 23 (r.2.2.map eObject))]:=by
 rw[F11]at h
 refine zc a11 (by kernel_rfl) rfl (ww ?_)
 refine t_mkmaps (κ:=ByteArray) (α:=Object) (enc:=eObject) Value.string (ww ?_)
 obtain⟨o1,ho,h⟩:=bi h
 refine cutS (fun s=>s=⟨[(1,.one (.c (dM (x1.map eEvent)))),(2,.one (.c (.pt 0 0))),(4,.one (.c (.pt 1 0))),(5,.one (.c (.mref 2)))],[some (.box [dS x0.Filter.Kind,dS x0.Filter.Namespace,dM (x0.Filter.Selector.map eRequirement),dI x0.Rev,dB x0.Synced,dM (x0.Objects.map eObject)]),some (.box [dS ((⟨#[]⟩:ByteArray)),dS ((⟨#[]⟩:ByteArray)),dN,dI 0,dB false,dN]),some (.map (eMs Value.string eObject o1))]⟩) ?_ ?_
 ·have h:=ho
  clear ho
  obtain⟨_,hk,h⟩:=bi h
  have hk:=ck_some hk
  refine ww ?_
  refine bL (fun j s=>∃(o1_1:Nat) (o1_0:List (ByteArray×Object)),(o1_1≤x0.Objects.length∧j=x0.Objects.length-o1_1)∧s=⟨[(1,.one (.c (dM (x1.map eEvent)))),(2,.one (.c (.pt 0 0))),(4,.one (.c (.pt 1 0))),(5,.one (.c (.mref 2))),(15,.one (.c (dM (x0.Objects.map eObject)))),(16,.one (.c (dI ((x0.Objects.length:Int))))),(17,.one (.c (dI ((o1_1:Int)))))],[some (.box [dS x0.Filter.Kind,dS x0.Filter.Namespace,dM (x0.Filter.Selector.map eRequirement),dI x0.Rev,dB x0.Synced,dM (x0.Objects.map eObject)]),some (.box [dS ((⟨#[]⟩:ByteArray)),dS ((⟨#[]⟩:ByteArray)),dN,dI 0,dB false,dN]),some (.map (eMs Value.string eObject o1_0))]⟩∧F11_l1 (x0.Objects.drop o1_1) o1_1 o1_0=some o1) (x0.Objects.length-0) [some 0,some 1,some 2] ⟨0,[],⟨hk.1,rfl⟩,rfl,h⟩ ?_
  rintro _ _ ⟨o1_1,o1_0,⟨hi,rfl⟩,rfl,h⟩
  refine ww ?_
  refine condS (fun c2=>?_) (fun c2=>?_)
  ·obtain⟨xo1,hxo1,hd⟩:=countY (show(o1_1:Int)<(x0.Objects.length:Int)from c2)
   rw[hd,F11_l1]at h
   refine ww ?_
   refine t_idxF (enc:=eObject) (xs:=x0.Objects) rfl rfl hxo1 rfl (ww ?_)
   obtain⟨t3,ht3,h⟩:=bi h
   refine cN [] (F33_ok ht3) trivial (ww ?_)
   refine t_msets (enc:=eObject) (l:=o1_0) (x:=xo1) kkS rfl rfl rfl rfl (ww ?_)
   rw[wrapN (by omega)]
   exact eL' (x0.Objects.length-(o1_1+1)) [some 0,some 1,some 2] ⟨o1_1+1,(putM t3 xo1 o1_0),⟨by omega,rfl⟩,rfl,h⟩ (by omega)
  rw[countN (show¬((o1_1:Int)<(x0.Objects.length:Int))from c2),F11_l1]at h
  refine ww ?_
  cases h
  exact eM [some 0,some 1,some 2] rfl
 rintro _ rfl
 clear ho
 refine ww ?_
 obtain⟨o5,ho,h⟩:=bi h
 refine cutS (fun s=>s=⟨[(2,.one (.c (.pt 0 0))),(4,.one (.c (.pt 1 0))),(5,.one (.c (.mref 2)))],[some (.box [dS x0.Filter.Kind,dS x0.Filter.Namespace,dM (x0.Filter.Selector.map eRequirement),dI o5.1,dB x0.Synced,dM (x0.Objects.map eObject)]),some (.box [dS ((⟨#[]⟩:ByteArray)),dS ((⟨#[]⟩:ByteArray)),dN,dI 0,dB false,dN]),some (.map (eMs Value.string eObject o5.2))]⟩) ?_ ?_
 ·have h:=ho
  clear ho
  obtain⟨_,hk,h⟩:=bi h
  have hk:=ck_some hk
  refine ww ?_
  refine bL (fun j s=>∃(o5_2:Nat) (o5_0:Int) (o5_1:List (ByteArray×Object)),(o5_2≤x1.length∧j=x1.length-o5_2)∧s=⟨[(2,.one (.c (.pt 0 0))),(4,.one (.c (.pt 1 0))),(5,.one (.c (.mref 2))),(27,.one (.c (dM (x1.map eEvent)))),(28,.one (.c (dI ((x1.length:Int))))),(29,.one (.c (dI ((o5_2:Int)))))],[some (.box [dS x0.Filter.Kind,dS x0.Filter.Namespace,dM (x0.Filter.Selector.map eRequirement),dI o5_0,dB x0.Synced,dM (x0.Objects.map eObject)]),some (.box [dS ((⟨#[]⟩:ByteArray)),dS ((⟨#[]⟩:ByteArray)),dN,dI 0,dB false,dN]),some (.map (eMs Value.string eObject o5_1))]⟩∧F11_l5 (x1.drop o5_2) o5_2 o5_0 o5_1=some o5) (x1.length-0) [some 0,some 1,some 2] ⟨0,x0.Rev,o1,⟨hk.1,rfl⟩,rfl,h⟩ ?_
  rintro _ _ ⟨o5_2,o5_0,o5_1,⟨hi,rfl⟩,rfl,h⟩
  refine ww ?_
  refine condS (fun c6=>?_) (fun c6=>?_)
  ·obtain⟨xo5,hxo5,hd⟩:=countY (show(o5_2:Int)<(x1.length:Int)from c6)
   rw[hd,F11_l5]at h
   refine ww ?_
   obtain⟨o7,ho,h⟩:=bi h
   refine cutS (fun s=>s=⟨[(2,.one (.c (.pt 0 0))),(4,.one (.c (.pt 1 0))),(5,.one (.c (.mref 2))),(27,.one (.c (dM (x1.map eEvent)))),(28,.one (.c (dI ((x1.length:Int))))),(29,.one (.c (dI ((o5_2:Int)))))],[some (.box [dS x0.Filter.Kind,dS x0.Filter.Namespace,dM (x0.Filter.Selector.map eRequirement),dI o7.1,dB x0.Synced,dM (x0.Objects.map eObject)]),some (.box [dS ((⟨#[]⟩:ByteArray)),dS ((⟨#[]⟩:ByteArray)),dN,dI 0,dB false,dN]),some (.map (eMs Value.string eObject o7.2))]⟩) ?_ ?_
   ·have h:=ho
    clear ho
    refine ww ?_
    refine t_idxF (enc:=eEvent) (xs:=x1) rfl rfl hxo5 rfl (ww ?_)
    refine condSh h (fun c8 h=>?_) (fun c8 h=>?_)
    ·refine ww ?_
     cases h
     exact eM [some 0,some 1,some 2] rfl
    refine ww ?_
    obtain⟨t9,ht9,h⟩:=bi h
    refine cN [] (F33_ok ht9) trivial (ww ?_)
    obtain⟨o10,ho,h⟩:=bi h
    refine cutS (fun s=>s=⟨[(2,.one (.c (.pt 0 0))),(4,.one (.c (.pt 1 0))),(5,.one (.c (.mref 2))),(9,.one (.c (.pt 3 0))),(10,.one (.c (dS t9))),(27,.one (.c (dM (x1.map eEvent)))),(28,.one (.c (dI ((x1.length:Int))))),(29,.one (.c (dI ((o5_2:Int))))),(46,.one (.c (dI xo5.Type_))),(47,.one (.c (dB o10)))],[some (.box [dS x0.Filter.Kind,dS x0.Filter.Namespace,dM (x0.Filter.Selector.map eRequirement),dI xo5.Rev,dB x0.Synced,dM (x0.Objects.map eObject)]),some (.box [dS ((⟨#[]⟩:ByteArray)),dS ((⟨#[]⟩:ByteArray)),dN,dI 0,dB false,dN]),some (.map (eMs Value.string eObject o5_1)),some (.box [dI xo5.Type_,dI xo5.Rev,dS xo5.Object.Meta.Kind,dS xo5.Object.Meta.Namespace,dS xo5.Object.Meta.Name,dI xo5.Object.Meta.Uid,dI xo5.Object.Meta.Version,dI xo5.Object.Meta.Generation,dI xo5.Object.Meta.Created,dB xo5.Object.Meta.Deleting,dI xo5.Object.Meta.DeleteAt,dM (xo5.Object.Meta.Labels.map eLabel),dM (xo5.Object.Meta.Owners.map eOwner),dM (xo5.Object.Meta.Finalizers.map eS),dM (xo5.Object.Meta.Managers.map eManager),dI xo5.Object.Spec.Kind,dI xo5.Object.Spec.N,dS xo5.Object.Spec.S,dM (xo5.Object.Spec.List_.map eTValue),dM (xo5.Object.Spec.Fields.map eTField),dI xo5.Object.Status.Kind,dI xo5.Object.Status.N,dS xo5.Object.Status.S,dM (xo5.Object.Status.List_.map eTValue),dM (xo5.Object.Status.Fields.map eTField)])]⟩) ?_ ?_
    ·have h:=ho
     clear ho
     refine ww ?_
     refine condSh h (fun c11 h=>?_) (fun c11 h=>?_)
     ·refine ww ?_
      cases h
      exact eM [some 0,some 1,some 2,some 3] rfl
     refine ww ?_
     cases h
     exact eM [some 0,some 1,some 2,some 3] rfl
    rintro _ rfl
    clear ho
    refine ww ?_
    refine condBh h (fun c12 h=>?_) (fun c12 h=>?_)
    ·refine ww ?_
     refine t_msets (enc:=eObject) (l:=o5_1) (x:=xo5.Object) kkS rfl rfl rfl rfl (ww ?_)
     cases h
     exact eM [some 0,some 1,some 2] rfl
    refine ww ?_
    refine condSh h (fun c13 h=>?_) (fun c13 h=>?_)
    ·refine ww ?_
     refine t_mdels (enc:=eObject) (l:=o5_1) kkS rfl rfl rfl (ww ?_)
     cases h
     exact eM [some 0,some 1,some 2] rfl
    refine ww ?_
    cases h
    exact eM [some 0,some 1,some 2] rfl
   rintro _ rfl
   clear ho
   refine ww ?_
   rw[wrapN (by omega)]
   exact eL' (x1.length-(o5_2+1)) [some 0,some 1,some 2] ⟨o5_2+1,o7.1,o7.2,⟨by omega,rfl⟩,rfl,h⟩ (by omega)
  rw[countN (show¬((o5_2:Int)<(x1.length:Int))from c6),F11_l5]at h
  refine ww ?_
  cases h
  exact eM [some 0,some 1,some 2] rfl
 rintro _ rfl
 clear ho
 refine ww ?_
 obtain⟨t15,ht15,h⟩:=bi h
 refine cN [] (F34_ok ht15) trivial (ww ?_)
 obtain⟨t16,ht16,h⟩:=bi h
 refine cN [2] (F36_ok ht16) ⟨⟨congrArg some (by first|exact ren_m1.symm|exact ren_ms.symm),(by first|exact entsD_live entsD_1 _|exact entsD_live entsD_s _)⟩,trivial⟩ ?_
 refine ww ?_
 obtain⟨t17,ht17,h⟩:=bi h
 refine cN [4,2] (F35_64_ok ht17) ⟨⟨rfl,by simp[Blk.live,C.live,hp]⟩,⟨⟨congrArg some (by first|exact ren_m1.symm|exact ren_ms.symm),(by first|exact entsD_live entsD_1 _|exact entsD_live entsD_s _)⟩,trivial⟩⟩ ?_
 refine ww ?_
 obtain⟨o18,ho,h⟩:=bi h
 refine cutS (fun s=>s=⟨[(2,.one (.c (.pt 0 0))),(4,.one (.c (.pt 3 0)))],[some (.box [dS x0.Filter.Kind,dS x0.Filter.Namespace,.own 1 0 0 (t15.length) none,dI o5.1,dB x0.Synced,.own 2 0 0 (o18.length) none]),some (.arr 0 3 (t15.map eRequirement)),some (.arr 0 23 (o18.map eObject)),some (.box [dS ((⟨#[]⟩:ByteArray)),dS ((⟨#[]⟩:ByteArray)),dN,dI 0,dB false,dN])]⟩) ?_ ?_
 ·have h:=ho
  clear ho
  obtain⟨_,hk,h⟩:=bi h
  have hk:=ck_some hk
  refine ww ?_
  refine bL (fun j s=>∃(o18_1:Nat) (o18_0:List Object),(o18_1≤t17.length∧j=t17.length-o18_1)∧s=⟨[(2,.one (.c (.pt 0 0))),(4,.one (.c (.pt 3 0))),(5,.one (.c (.mref 4))),(66,.one (.c (.own 5 0 0 (t17.length) none))),(67,.one (.c (dI ((t17.length:Int))))),(68,.one (.c (dI ((o18_1:Int)))))],[some (.box [dS x0.Filter.Kind,dS x0.Filter.Namespace,.own 1 0 0 (t15.length) none,dI o5.1,dB x0.Synced,.own 2 0 0 (o18_0.length) none]),some (.arr 0 3 (t15.map eRequirement)),some (.arr 0 23 (o18_0.map eObject)),some (.box [dS ((⟨#[]⟩:ByteArray)),dS ((⟨#[]⟩:ByteArray)),dN,dI 0,dB false,dN]),some (.map (eMs Value.string eObject o5.2)),some (.arr 0 1 (t17.map eS))]⟩∧F11_l18 o5 t17 (t17.drop o18_1) o18_1 o18_0=some o18) (t17.length-0) [some 0,some 3,none,some 1,some 2,some 5] ⟨0,[],⟨hk.1,rfl⟩,rfl,h⟩ ?_
  rintro _ _ ⟨o18_1,o18_0,⟨hi,rfl⟩,rfl,h⟩
  refine ww ?_
  refine condS (fun c19=>?_) (fun c19=>?_)
  ·obtain⟨xo18,hxo18,hd⟩:=countY (show(o18_1:Int)<(t17.length:Int)from c19)
   rw[hd,F11_l18]at h
   refine ww ?_
   obtain⟨y20,hy20,h⟩:=bi h
   refine t_idxO (enc:=eS) (xs:=t17) rfl rfl rfl (by first|rfl|simp only[List.length_set]|exact(clrL_len (slI_len (by assumption))).symm) hy20 (ww ?_)
   refine LdRow.rd (rdI_some hy20).2.1 (ww ?_)
   obtain⟨y21,hy21,h⟩:=bi h
   refine t_mgetsE (enc:=eObject) (l:=o5.2) kkS rfl rfl rfl hy21 (ww ?_)
   obtain⟨t22,ht22,h⟩:=bi h
   refine cN [] (F37_ok ht22) trivial (ww ?_)
   refine t_bslice (enc:=eObject) (ys:=[(⟨(⟨y21.Meta.Kind,y21.Meta.Namespace,y21.Meta.Name,y21.Meta.Uid,y21.Meta.Version,y21.Meta.Generation,y21.Meta.Created,y21.Meta.Deleting,y21.Meta.DeleteAt,t22.1,t22.2.1,t22.2.2.1,t22.2.2.2.1⟩:Meta),(⟨y21.Spec.Kind,y21.Spec.N,y21.Spec.S,t22.2.2.2.2.1,t22.2.2.2.2.2.1⟩:TValue),(⟨y21.Status.Kind,y21.Status.N,y21.Status.S,t22.2.2.2.2.2.2.1,t22.2.2.2.2.2.2.2⟩:TValue)⟩:Object)]) rfl rfl (by simp[A1.cells]) (by first|rfl|(simp only[List.drop_zero,take_mapL];rfl)|(simp only[lit,List.map_cons,List.map_nil,List.drop_zero,take_mapL,EE.down];done)|(simp only[lit,List.map_cons,List.map_nil,List.drop_zero,take_mapL,EE.down];rfl)) (ww ?_)
   obtain⟨a23,ha23,h⟩:=bi h
   refine t_app (enc:=eObject) (xs:=o18_0) rfl rfl (by first|rfl|simp only[List.length_set]|exact(clrL_len (slI_len (by assumption))).symm) rfl (rows_full (enc:=eObject) (by first|rfl|simp only[List.length_set]|exact(clrL_len (slI_len (by assumption))).symm) rfl) ha23 (ww ?_)
   rw[wrapN (by omega)]
   exact eL' (t17.length-(o18_1+1)) [some 0,some 1,some 2,some 3,some 4,some 5] ⟨o18_1+1,a23,⟨by omega,rfl⟩,rfl,h⟩ (by omega)
  rw[countN (show¬((o18_1:Int)<(t17.length:Int))from c19),F11_l18]at h
  refine ww ?_
  cases h
  exact eM [some 0,some 1,some 2,some 3] rfl
 rintro _ rfl
 clear ho
 refine ww ?_
 cases h
 exact eF [some 1,some 2]
def F16(x0:Object)(x1:Object):Option (Bool):=(((F41 x0.Meta x1.Meta).bind fun t2=>(if t2=true then(F42 x0.Spec x1.Spec).bind fun t4=>(if t4=true then(F42 x0.Status x1.Status).bind fun t6=>some t6 else some false)else some false)).bind fun o1=>some o1)
def a16:AFn:=⟨24,[(.tmp 4)],
 (.seq (.reg [sq 2 (.box (.t 0)),
sq 3 (.box (.t 1)),
sq 4 (.mv (kB false))])
 (.seq (.sem (.reg [sq 5 (.fieldA 0 (.t 2)),
sq 6 (.load (some 13) (.t 5)),
sq 7 (.fieldA 0 (.t 3)),
sq 8 (.load (some 13) (.t 7)),
sq 9 (.call 41 [(.t 6),(.t 8)]),
sq 10 (.mv (.t 9)),
zg 11 10 true (.fieldA 13 (.t 2)),
zg 12 10 true (.load (some 5) (.t 11)),
zg 13 10 true (.fieldA 13 (.t 3)),
zg 14 10 true (.load (some 5) (.t 13)),
zg 15 10 true (.call 42 [(.t 12),(.t 14)]),
sq 16 (.pick (.t 10) (.t 15) (kB false)),
sq 17 (.mv (.t 16)),
zg 18 17 true (.fieldA 18 (.t 2)),
zg 19 17 true (.load (some 5) (.t 18)),
zg 20 17 true (.fieldA 18 (.t 3)),
zg 21 17 true (.load (some 5) (.t 20)),
zg 22 17 true (.call 42 [(.t 19),(.t 21)]),
sq 23 (.pick (.t 17) (.t 22) (kB false)),
sq 4 (.mv (.t 23))]))
 .ret))⟩
theorem F16_ok{x0 x1 r}(h:F16 x0 x1=some r):CallD Tryz.prog 16 [.agg [dS x0.Meta.Kind,dS x0.Meta.Namespace,dS x0.Meta.Name,dI x0.Meta.Uid,dI x0.Meta.Version,dI x0.Meta.Generation,dI x0.Meta.Created,dB x0.Meta.Deleting,dI x0.Meta.DeleteAt,dM (x0.Meta.Labels.map eLabel),dM (x0.Meta.Owners.map eOwner),dM (x0.Meta.Finalizers.map eS),dM (x0.Meta.Managers.map eManager),dI x0.Spec.Kind,dI x0.Spec.N,dS x0.Spec.S,dM (x0.Spec.List_.map eTValue),dM (x0.Spec.Fields.map eTField),dI x0.Status.Kind,dI x0.Status.N,dS x0.Status.S,dM (x0.Status.List_.map eTValue),dM (x0.Status.Fields.map eTField)],.agg [dS x1.Meta.Kind,dS x1.Meta.Namespace,dS x1.Meta.Name,dI x1.Meta.Uid,dI x1.Meta.Version,dI x1.Meta.Generation,dI x1.Meta.Created,dB x1.Meta.Deleting,dI x1.Meta.DeleteAt,dM (x1.Meta.Labels.map eLabel),dM (x1.Meta.Owners.map eOwner),dM (x1.Meta.Finalizers.map eS),dM (x1.Meta.Managers.map eManager),dI x1.Spec.Kind,dI x1.Spec.N,dS x1.Spec.S,dM (x1.Spec.List_.map eTValue),dM (x1.Spec.Fields.map eTField),dI x1.Status.Kind,dI x1.Status.N,dS x1.Status.S,dM (x1.Status.List_.map eTValue),dM (x1.Status.Fields.map eTField)]] [] (tupV [.c (dB r)]) []:=by
 rw[F16]at h
 refine zc a16 (by kernel_rfl) rfl (ww ?_)
 obtain⟨o1,ho,h⟩:=bi h
 refine cutS (fun s=>s=⟨[(4,.one (.c (dB o1)))],[]⟩) ?_ ?_
 ·have h:=ho
  clear ho
  refine ww ?_
  obtain⟨t2,ht2,h⟩:=bi h
  refine cN [] (F41_ok ht2) trivial (ww ?_)
  refine guardSBh h (fun g3 h=>?_) (fun g3 h=>?_)
  ·refine ww ?_
   obtain⟨t4,ht4,h⟩:=bi h
   refine cN [] (F42_ok ht4) trivial (ww ?_)
   refine guardSBh h (fun g5 h=>?_) (fun g5 h=>?_)
   ·refine ww ?_
    obtain⟨t6,ht6,h⟩:=bi h
    refine cN [] (F42_ok ht6) trivial (ww ?_)
    cases h
    exact eM [] rfl
   refine ww ?_
   cases h
   exact eM [] rfl
  refine ww ?_
  cases h
  exact eM [] rfl
 rintro _ rfl
 clear ho
 refine ww ?_
 cases h
 exact eF []
end Go.Proofs.YtdkmamiedcanfaaGreat
