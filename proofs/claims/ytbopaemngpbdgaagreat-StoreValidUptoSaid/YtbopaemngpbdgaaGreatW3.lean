/- Each Go function as a function over typed data, and its walk. -/
import Derived.Test.YtbopaemngpbdgaaGreatW0
import Derived.Test.YtbopaemngpbdgaaGreatW1
import Derived.Test.YtbopaemngpbdgaaGreatW2
namespace Go.Proofs.YtbopaemngpbdgaaGreat
open Go Go.Fw Go.Shelf
set_option maxRecDepth 100000
set_option maxHeartbeats 4000000
set_option linter.unusedSimpArgs false
set_option linter.unusedVariables false
def F7_l1:List Manager→Nat→Int→Option (Int)
 |[],o1_1,o1_0=>some o1_0
 |xo1::xs,o1_1,o1_0=>F7_l1 xs (o1_1+1) ((IntKind.i64.wrap (o1_0+((xo1.Fields.length:Int)))))
def F7(x0:Object):Option (Int):=(((ck (0≤x0.Meta.Managers.length∧x0.Meta.Managers.length≤4294967290)).bind fun u3=>F7_l1 x0.Meta.Managers 0 ((IntKind.i64.wrap (((IntKind.i64.wrap (((IntKind.i64.wrap (((IntKind.i64.wrap (1+((x0.Meta.Labels.length:Int)))))+((x0.Meta.Owners.length:Int)))))+((x0.Meta.Finalizers.length:Int)))))+((x0.Meta.Managers.length:Int)))))).bind fun o1=>(F31k 1099511627776 x0.Spec).bind fun t4=>(F31k 1099511627776 x0.Status).bind fun t5=>some ((IntKind.i64.wrap (((IntKind.i64.wrap (o1+t4)))+t5))))
def a7:AFn:=⟨52,[(.tmp 2)],
 (.seq (.reg [sq 1 (.box (.t 0)),
sq 2 (.mv (kI 0))])
 (.seq (.reg [sq 5 (.fieldA 0 (.t 1)),
sq 6 (.fieldA 9 (.t 5)),
sq 7 (.load none (.t 6)),
sq 8 (.len (.t 7)),
sq 9 (.bin .add (kI 1) (.t 8)),
sq 10 (.fieldA 0 (.t 1)),
sq 11 (.fieldA 10 (.t 10)),
sq 12 (.load none (.t 11)),
sq 13 (.len (.t 12)),
sq 14 (.bin .add (.t 9) (.t 13)),
sq 15 (.fieldA 0 (.t 1)),
sq 16 (.fieldA 11 (.t 15)),
sq 17 (.load none (.t 16)),
sq 18 (.len (.t 17)),
sq 19 (.bin .add (.t 14) (.t 18)),
sq 20 (.fieldA 0 (.t 1)),
sq 21 (.fieldA 12 (.t 20)),
sq 22 (.load none (.t 21)),
sq 23 (.len (.t 22)),
sq 24 (.bin .add (.t 19) (.t 23)),
sq 3 (.mv (.t 24))])
 (.seq (.seq (.reg [sq 4 (.mv (kI 0))])
 (.sem (.block 0 (.loop (.seq (.seq (.reg [sq 25 (.mv (.t 4)),
sq 26 (.fieldA 0 (.t 1)),
sq 27 (.fieldA 12 (.t 26)),
sq 28 (.load none (.t 27)),
sq 29 (.len (.t 28)),
sq 30 (.bin .lss (.t 25) (.t 29))])
 (.cond (.t 30)
 .skip
 (.exit 0)))
 (.seq (.block 1 (.reg [sq 33 (.mv (.t 3)),
sq 34 (.fieldA 0 (.t 1)),
sq 35 (.fieldA 12 (.t 34)),
sq 36 (.load none (.t 35)),
sq 37 (.mv (.t 4)),
sq 38 (.indexA 2 (.t 36) (.t 37)),
sq 39 (.fieldA 1 (.t 38)),
sq 40 (.load none (.t 39)),
sq 41 (.len (.t 40)),
sq 42 (.bin .add (.t 33) (.t 41)),
sq 3 (.mv (.t 42))]))
 (.reg [sq 31 (.mv (.t 4)),
sq 32 (.bin .add (.t 31) (kI 1)),
sq 4 (.mv (.t 32))])))))))
 (.seq (.regd [sq 43 (.mv (.t 3)),
sq 44 (.fieldA 13 (.t 1)),
sd 45 (.load (some 5) (.t 44)) [1],
zn 46 (.call 31 [(.t 45)]) [1,2] [1,2],
sd 47 (.bin .add (.t 43) (.t 46)) [0,1,2,3],
sq 48 (.fieldA 18 (.t 1)),
sd 49 (.load (some 5) (.t 48)) [5],
zl 50 (.call 31 [(.t 49)]) [1,2,3,5,6] [],
sd 51 (.bin .add (.t 47) (.t 50)) [0,1,2,3,4,5,6,7],
sd 2 (.mv (.t 51)) [0,1,2,3,4,5,6,7,8]])
 .ret))))⟩
theorem F7_ok{x0 r}(h:F7 x0=some r):CallD Tryz.prog 7 [.agg [dS x0.Meta.Kind,dS x0.Meta.Namespace,dS x0.Meta.Name,dI x0.Meta.Uid,dI x0.Meta.Version,dI x0.Meta.Generation,dI x0.Meta.Created,dB x0.Meta.Deleting,dI x0.Meta.DeleteAt,dM (x0.Meta.Labels.map eLabel),dM (x0.Meta.Owners.map eOwner),dM (x0.Meta.Finalizers.map eS),dM (x0.Meta.Managers.map eManager),dI x0.Spec.Kind,dI x0.Spec.N,dS x0.Spec.S,dM (x0.Spec.List_.map eTValue),dM (x0.Spec.Fields.map eTField),dI x0.Status.Kind,dI x0.Status.N,dS x0.Status.S,dM (x0.Status.List_.map eTValue),dM (x0.Status.Fields.map eTField)]] [] (tupV [.c (dI r)]) []:=by
 rw[F7]at h
 refine zc a7 (by kernel_rfl) rfl (ww ?_)
 obtain⟨o1,ho,h⟩:=bi h
 refine cutS (fun s=>s=⟨[(1,.one (.c (.pt 0 0))),(3,.one (.c (dI o1)))],[some (.box [dS x0.Meta.Kind,dS x0.Meta.Namespace,dS x0.Meta.Name,dI x0.Meta.Uid,dI x0.Meta.Version,dI x0.Meta.Generation,dI x0.Meta.Created,dB x0.Meta.Deleting,dI x0.Meta.DeleteAt,dM (x0.Meta.Labels.map eLabel),dM (x0.Meta.Owners.map eOwner),dM (x0.Meta.Finalizers.map eS),dM (x0.Meta.Managers.map eManager),dI x0.Spec.Kind,dI x0.Spec.N,dS x0.Spec.S,dM (x0.Spec.List_.map eTValue),dM (x0.Spec.Fields.map eTField),dI x0.Status.Kind,dI x0.Status.N,dS x0.Status.S,dM (x0.Status.List_.map eTValue),dM (x0.Status.Fields.map eTField)])]⟩) ?_ ?_
 ·have h:=ho
  clear ho
  obtain⟨_,hk,h⟩:=bi h
  have hk:=ck_some hk
  refine ww ?_
  refine bL (fun j s=>∃(o1_1:Nat) (o1_0:Int),(o1_1≤x0.Meta.Managers.length∧j=x0.Meta.Managers.length-o1_1)∧s=⟨[(1,.one (.c (.pt 0 0))),(3,.one (.c (dI o1_0))),(4,.one (.c (dI ((o1_1:Int)))))],[some (.box [dS x0.Meta.Kind,dS x0.Meta.Namespace,dS x0.Meta.Name,dI x0.Meta.Uid,dI x0.Meta.Version,dI x0.Meta.Generation,dI x0.Meta.Created,dB x0.Meta.Deleting,dI x0.Meta.DeleteAt,dM (x0.Meta.Labels.map eLabel),dM (x0.Meta.Owners.map eOwner),dM (x0.Meta.Finalizers.map eS),dM (x0.Meta.Managers.map eManager),dI x0.Spec.Kind,dI x0.Spec.N,dS x0.Spec.S,dM (x0.Spec.List_.map eTValue),dM (x0.Spec.Fields.map eTField),dI x0.Status.Kind,dI x0.Status.N,dS x0.Status.S,dM (x0.Status.List_.map eTValue),dM (x0.Status.Fields.map eTField)])]⟩∧F7_l1 (x0.Meta.Managers.drop o1_1) o1_1 o1_0=some o1) (x0.Meta.Managers.length-0) [some 0] ⟨0,(IntKind.i64.wrap (((IntKind.i64.wrap (((IntKind.i64.wrap (((IntKind.i64.wrap (1+((x0.Meta.Labels.length:Int)))))+((x0.Meta.Owners.length:Int)))))+((x0.Meta.Finalizers.length:Int)))))+((x0.Meta.Managers.length:Int)))),⟨hk.1,rfl⟩,rfl,h⟩ ?_
  rintro _ _ ⟨o1_1,o1_0,⟨hi,rfl⟩,rfl,h⟩
  refine ww ?_
  refine condS (fun c2=>?_) (fun c2=>?_)
  ·obtain⟨xo1,hxo1,hd⟩:=countY (show(o1_1:Int)<(x0.Meta.Managers.length:Int)from c2)
   rw[hd,F7_l1]at h
   refine ww ?_
   refine t_idxF (enc:=eManager) (xs:=x0.Meta.Managers) rfl rfl hxo1 rfl (ww ?_)
   rw[wrapN (by omega)]
   exact eL' (x0.Meta.Managers.length-(o1_1+1)) [some 0] ⟨o1_1+1,(IntKind.i64.wrap (o1_0+((xo1.Fields.length:Int)))),⟨by omega,rfl⟩,rfl,h⟩ (by omega)
  rw[countN (show¬((o1_1:Int)<(x0.Meta.Managers.length:Int))from c2),F7_l1]at h
  refine ww ?_
  cases h
  exact eM [some 0] rfl
 rintro _ rfl
 clear ho
 refine ww ?_
 obtain⟨t4,ht4,h⟩:=bi h
 refine cN [] (F31k_ok 1099511627776 ht4) trivial (ww ?_)
 obtain⟨t5,ht5,h⟩:=bi h
 refine cN [] (F31k_ok 1099511627776 ht5) trivial (ww ?_)
 cases h
 exact eF []
def F130_l8(x0:ByteArray):Nat→Int→Option ((Bool) ⊕ (Unit))
 |0,_=>none
 |k+1,o8_0=>(if o8_0<(x0.size:Int)then(byI x0 o8_0).bind fun y10=>(F144 y10).bind fun t11=>(if(nb t11)=true then(some false).map Sum.inl else F130_l8 x0 k ((IntKind.i64.wrap (o8_0+1))))else some (Sum.inr (())))
def F130(x0:ByteArray):Option (Bool):=(((if x0=(⟨#[]⟩:ByteArray)then some true else(if 40<(x0.size:Int)then some true else(byI x0 0).bind fun y4=>(if y4<97 then some true else(byI x0 0).bind fun y6=>some (decide (122<y6)))))).bind fun o1=>(if o1=true then some false else((F130_l8 x0 1099511627776 0:Option ((Bool) ⊕ (Unit))).bind fun o8=>match o8 with|Sum.inl f=>some f|Sum.inr po8=>some true)))
def a130:AFn:=⟨32,[(.tmp 2)],
 (.seq (.reg [sq 2 (.mv (kB false))])
 (.seq (.seq (.sem (.reg [sq 4 (.mv (.t 0)),
sq 5 (.bin .eql (.t 4) (kS ⟨#[]⟩)),
sq 6 (.mv (.t 5)),
zg 7 6 false (.mv (.t 0)),
zg 8 6 false (.slen (.t 7)),
zg 9 6 false (.bin .gtr (.t 8) (kI 40)),
sq 10 (.pick (.t 6) (kB true) (.t 9)),
sq 11 (.mv (.t 10)),
zg 12 11 false (.mv (.t 0)),
zg 13 11 false (.sidx (.t 12) (kI 0)),
zg 14 11 false (.bin .lss (.t 13) (.k (.c (.d (.v (.int .u8 97)))))),
sq 15 (.pick (.t 11) (kB true) (.t 14)),
sq 16 (.mv (.t 15)),
zg 17 16 false (.mv (.t 0)),
zg 18 16 false (.sidx (.t 17) (kI 0)),
zg 19 16 false (.bin .gtr (.t 18) (.k (.c (.d (.v (.int .u8 122)))))),
sq 20 (.pick (.t 16) (kB true) (.t 19))]))
 (.cond (.t 20)
 (.seq (.reg [sq 2 (.mv (kB false))])
 .ret)
 .skip))
 (.seq (.seq (.reg [sq 21 (.mv (.t 0)),
sq 22 (.slen (.t 21)),
sq 23 (.mv (kI 0))])
 (.sem (.block 0 (.loop (.seq (.reg [sq 24 (.bin .lss (.t 23) (.t 22))])
 (.seq (.cond (.t 24)
 .skip
 (.exit 0))
 (.seq (.block 1 (.seq (.reg [sq 25 (.mv (.t 23)),
sq 3 (.mv (.t 25))])
 (.seq (.reg [sq 26 (.mv (.t 0)),
sq 27 (.mv (.t 3)),
sq 28 (.sidx (.t 26) (.t 27)),
sq 29 (.call 144 [(.t 28)]),
sq 30 (.not (.t 29))])
 (.cond (.t 30)
 (.seq (.reg [sq 2 (.mv (kB false))])
 .ret)
 .skip))))
 (.reg [sq 31 (.bin .add (.t 23) (kI 1)),
sq 23 (.mv (.t 31))]))))))))
 (.seq (.reg [sq 2 (.mv (kB true))])
 .ret))))⟩
theorem F130_ok{x0 r}(h:F130 x0=some r):CallD Tryz.prog 130 [.c (dS x0)] [] (tupV [.c (dB r)]) []:=by
 rw[F130]at h
 refine zc a130 (by kernel_rfl) rfl (ww ?_)
 obtain⟨o1,ho,h⟩:=bi h
 refine cutS (fun s=>s=⟨[(0,.one (.c (dS x0))),(20,.one (.c (dB o1)))],[]⟩) ?_ ?_
 ·have h:=ho
  clear ho
  refine ww ?_
  refine guardSh h (fun g2 h=>?_) (fun g2 h=>?_)
  ·refine ww ?_
   cases h
   exact eM [] rfl
  refine ww ?_
  refine guardSh h (fun g3 h=>?_) (fun g3 h=>?_)
  ·refine ww ?_
   cases h
   exact eM [] rfl
  refine ww ?_
  obtain⟨y4,hy4,h⟩:=bi h
  refine t_sidx rfl rfl hy4 (ww ?_)
  refine guardSh h (fun g5 h=>?_) (fun g5 h=>?_)
  ·refine ww ?_
   cases h
   exact eM [] rfl
  refine ww ?_
  obtain⟨y6,hy6,h⟩:=bi h
  refine t_sidx rfl rfl hy6 (ww ?_)
  cases h
  exact eM [] rfl
 rintro _ rfl
 clear ho
 refine ww ?_
 refine condBh h (fun c7 h=>?_) (fun c7 h=>?_)
 ·refine ww ?_
  cases h
  exact eF []
 refine ww ?_
 obtain⟨o8,ho,h⟩:=bi h
 refine cutS (fun s=>∃po8,o8=Sum.inr po8∧s=⟨[],[]⟩) ?_ ?_
 ·have h0o8:=h
  have h:=ho
  clear ho
  refine ww ?_
  refine bL (fun j s=>∃(o8_0:Int),s=⟨[(0,.one (.c (dS x0))),(22,.one (.c (dI ((x0.size:Int))))),(23,.one (.c (dI o8_0)))],[]⟩∧F130_l8 x0 j o8_0=some o8) 1099511627776 [] ⟨0,rfl,h⟩ ?_
  rintro j _ ⟨o8_0,rfl,h⟩
  cases j with
  |zero=>cases(show(none:Option _)=some _ from h)
  |succ j=>
   rw[F130_l8]at h
   refine ww ?_
   refine condSh h (fun c9 h=>?_) (fun c9 h=>?_)
   ·refine ww ?_
    obtain⟨y10,hy10,h⟩:=bi h
    refine t_sidx rfl rfl hy10 (ww ?_)
    obtain⟨t11,ht11,h⟩:=bi h
    refine cN [] (F144_ok ht11) trivial (ww ?_)
    refine condBh h (fun c12 h=>?_) (fun c12 h=>?_)
    ·refine ww ?_
     obtain⟨fh0o8,hfh0o8,rfl⟩:=Option.map_eq_some_iff.1 h
     have h:=hfh0o8.trans h0o8
     cases h
     exact eF []
    ·refine ww ?_
     exact eL' j [] ⟨(IntKind.i64.wrap (o8_0+1)),rfl,h⟩ (Nat.lt_succ_self _)
   ·refine ww ?_
    cases h
    exact eM [] ⟨_,rfl,rfl⟩
 rintro _ ⟨po8,rfl,rfl⟩
 clear ho
 dsimp only at h
 refine ww ?_
 cases h
 exact eF []
def F131_l2(x0:ByteArray):Nat→Int→Option ((Bool) ⊕ (Unit))
 |0,_=>none
 |k+1,o2_0=>(if o2_0<(x0.size:Int)then(((byI x0 o2_0).bind fun y5=>(F144 y5).bind fun t6=>(if(nb t6)=true then some true else(byI x0 o2_0).bind fun y8=>some (decide (y8=47)))).bind fun o4=>(if o4=true then(some false).map Sum.inl else F131_l2 x0 k ((IntKind.i64.wrap (o2_0+1)))))else some (Sum.inr (())))
def F131(x0:ByteArray):Option (Bool):=(if 40<(x0.size:Int)then some false else((F131_l2 x0 1099511627776 0:Option ((Bool) ⊕ (Unit))).bind fun o2=>match o2 with|Sum.inl f=>some f|Sum.inr po2=>some true))
def a131:AFn:=⟨24,[(.tmp 2)],
 (.seq (.reg [sq 2 (.mv (kB false))])
 (.seq (.seq (.reg [sq 4 (.mv (.t 0)),
sq 5 (.slen (.t 4)),
sq 6 (.bin .gtr (.t 5) (kI 40))])
 (.cond (.t 6)
 (.seq (.reg [sq 2 (.mv (kB false))])
 .ret)
 .skip))
 (.seq (.seq (.reg [sq 7 (.mv (.t 0)),
sq 8 (.slen (.t 7)),
sq 9 (.mv (kI 0))])
 (.sem (.block 0 (.loop (.seq (.reg [sq 10 (.bin .lss (.t 9) (.t 8))])
 (.seq (.cond (.t 10)
 .skip
 (.exit 0))
 (.seq (.block 1 (.seq (.reg [sq 11 (.mv (.t 9)),
sq 3 (.mv (.t 11))])
 (.seq (.sem (.reg [sq 12 (.mv (.t 0)),
sq 13 (.mv (.t 3)),
sq 14 (.sidx (.t 12) (.t 13)),
sq 15 (.call 144 [(.t 14)]),
sq 16 (.not (.t 15)),
sq 17 (.mv (.t 16)),
zg 18 17 false (.mv (.t 0)),
zg 19 17 false (.mv (.t 3)),
zg 20 17 false (.sidx (.t 18) (.t 19)),
zg 21 17 false (.bin .eql (.t 20) (.k (.c (.d (.v (.int .u8 47)))))),
sq 22 (.pick (.t 17) (kB true) (.t 21))]))
 (.cond (.t 22)
 (.seq (.reg [sq 2 (.mv (kB false))])
 .ret)
 .skip))))
 (.reg [sq 23 (.bin .add (.t 9) (kI 1)),
sq 9 (.mv (.t 23))]))))))))
 (.seq (.reg [sq 2 (.mv (kB true))])
 .ret))))⟩
theorem F131_ok{x0 r}(h:F131 x0=some r):CallD Tryz.prog 131 [.c (dS x0)] [] (tupV [.c (dB r)]) []:=by
 rw[F131]at h
 refine zc a131 (by kernel_rfl) rfl (ww ?_)
 refine condSh h (fun c1 h=>?_) (fun c1 h=>?_)
 ·refine ww ?_
  cases h
  exact eF []
 refine ww ?_
 obtain⟨o2,ho,h⟩:=bi h
 refine cutS (fun s=>∃po2,o2=Sum.inr po2∧s=⟨[],[]⟩) ?_ ?_
 ·have h0o2:=h
  have h:=ho
  clear ho
  refine ww ?_
  refine bL (fun j s=>∃(o2_0:Int),s=⟨[(0,.one (.c (dS x0))),(8,.one (.c (dI ((x0.size:Int))))),(9,.one (.c (dI o2_0)))],[]⟩∧F131_l2 x0 j o2_0=some o2) 1099511627776 [] ⟨0,rfl,h⟩ ?_
  rintro j _ ⟨o2_0,rfl,h⟩
  cases j with
  |zero=>cases(show(none:Option _)=some _ from h)
  |succ j=>
   rw[F131_l2]at h
   refine ww ?_
   refine condSh h (fun c3 h=>?_) (fun c3 h=>?_)
   ·refine ww ?_
    obtain⟨o4,ho,h⟩:=bi h
    refine cutS (fun s=>s=⟨[(0,.one (.c (dS x0))),(8,.one (.c (dI ((x0.size:Int))))),(9,.one (.c (dI o2_0))),(22,.one (.c (dB o4)))],[]⟩) ?_ ?_
    ·have h:=ho
     clear ho
     refine ww ?_
     obtain⟨y5,hy5,h⟩:=bi h
     refine t_sidx rfl rfl hy5 (ww ?_)
     obtain⟨t6,ht6,h⟩:=bi h
     refine cN [] (F144_ok ht6) trivial (ww ?_)
     refine guardSBh h (fun g7 h=>?_) (fun g7 h=>?_)
     ·refine ww ?_
      cases h
      exact eM [] rfl
     ·refine ww ?_
      obtain⟨y8,hy8,h⟩:=bi h
      refine t_sidx rfl rfl hy8 (ww ?_)
      cases h
      exact eM [] rfl
    ·rintro _ rfl
     clear ho
     refine ww ?_
     refine condBh h (fun c9 h=>?_) (fun c9 h=>?_)
     ·refine ww ?_
      obtain⟨fh0o2,hfh0o2,rfl⟩:=Option.map_eq_some_iff.1 h
      have h:=hfh0o2.trans h0o2
      cases h
      exact eF []
     ·refine ww ?_
      exact eL' j [] ⟨(IntKind.i64.wrap (o2_0+1)),rfl,h⟩ (Nat.lt_succ_self _)
   ·refine ww ?_
    cases h
    exact eM [] ⟨_,rfl,rfl⟩
 rintro _ ⟨po2,rfl,rfl⟩
 clear ho
 dsimp only at h
 refine ww ?_
 cases h
 exact eF []
def F107_l1:List Owner→Nat→(List (Int×Bool))→Int→Option ((Bool) ⊕ (Int))
 |[],o1_2,o1_0,o1_1=>some (Sum.inr o1_1)
 |xo1::xs,o1_2,o1_0,o1_1=>(((((F103 xo1.Kind).bind fun t5=>(if(nb t5)=true then some true else(F105 xo1.Name).bind fun t7=>(if(nb t7)=true then some true else(if xo1.Uid≤0 then some true else some (((getM xo1.Uid o1_0).getD false)))))).bind fun o4=>(if o4=true then((some false).map Sum.inl).map Sum.inl else(if xo1.Controller=true then some (Sum.inr ((IntKind.i64.wrap (o1_1+1))))else some (Sum.inr o1_1)))):Option (((Bool) ⊕ (Int)) ⊕ (Int))).bind fun o3=>match o3 with|Sum.inl f=>some f|Sum.inr po3=>F107_l1 xs (o1_2+1) ((putM xo1.Uid true o1_0)) po3)
def F107(x0:(List Owner)):Option (Bool):=(((ck (0≤x0.length∧x0.length≤4294967290)).bind fun u12=>F107_l1 x0 0 ([]) 0:Option ((Bool) ⊕ (Int))).bind fun o1=>match o1 with|Sum.inl f=>some f|Sum.inr po1=>(((if(x0.length:Int)≤16 then some (decide (po1≤1))else some false)).bind fun o13=>some o13))
def a107:AFn:=⟨50,[(.tmp 2)],
 (.seq (.reg [sq 2 (.mv (kB false))])
 (.seq (.reg [sq 7 (.mkmap),
sq 3 (.mv (.t 7))])
 (.seq (.reg [sq 4 (.mv (kI 0))])
 (.seq (.seq (.reg [sq 8 (.mv (.t 0)),
sq 9 (.len (.t 8)),
sq 10 (.mv (kI 0))])
 (.sem (.block 0 (.loop (.seq (.reg [sq 11 (.bin .lss (.t 10) (.t 9))])
 (.seq (.cond (.t 11)
 .skip
 (.exit 0))
 (.seq (.sem (.block 1 (.seq (.reg [sq 12 (.indexA 5 (.t 8) (.t 10)),
sq 13 (.load (some 5) (.t 12)),
sq 6 (.zbox [dS ⟨#[]⟩,dS ⟨#[]⟩,dI 0,dB false,dB false]),
su (.store 5 (.t 6) (.t 13))])
 (.seq (.seq (.sem (.reg [sq 14 (.fieldA 0 (.t 6)),
sq 15 (.load none (.t 14)),
sq 16 (.call 103 [(.t 15)]),
sq 17 (.not (.t 16)),
sq 18 (.mv (.t 17)),
zg 19 18 false (.fieldA 1 (.t 6)),
zg 20 18 false (.load none (.t 19)),
zg 21 18 false (.call 105 [(.t 20)]),
zg 22 18 false (.not (.t 21)),
sq 23 (.pick (.t 18) (kB true) (.t 22)),
sq 24 (.mv (.t 23)),
zg 25 24 false (.fieldA 2 (.t 6)),
zg 26 24 false (.load none (.t 25)),
zg 27 24 false (.bin .leq (.t 26) (kI 0)),
sq 28 (.pick (.t 24) (kB true) (.t 27)),
sq 29 (.mv (.t 28)),
zg 30 29 false (.mv (.t 3)),
zg 31 29 false (.fieldA 2 (.t 6)),
zg 32 29 false (.load none (.t 31)),
zg 33 29 false (.mget 0 false (.c (dB false)) (.t 30) (.t 32)),
sq 34 (.pick (.t 29) (kB true) (.t 33))]))
 (.cond (.t 34)
 (.seq (.reg [sq 2 (.mv (kB false))])
 .ret)
 .skip))
 (.seq (.reg [sq 35 (.mv (.t 3)),
sq 36 (.fieldA 2 (.t 6)),
sq 37 (.load none (.t 36)),
⟨none,none,.mset 0 (.t 35) (.t 37) (kB true),[],(.lone [6,36])⟩])
 (.seq (.reg [sq 38 (.fieldA 3 (.t 6)),
sq 39 (.load none (.t 38))])
 (.cond (.t 39)
 (.reg [sq 40 (.mv (.t 4)),
sq 41 (.bin .add (.t 40) (kI 1)),
sq 4 (.mv (.t 41))])
 .skip)))))))
 (.reg [sq 42 (.bin .add (.t 10) (kI 1)),
sq 10 (.mv (.t 42))]))))))))
 (.seq (.sem (.reg [sq 43 (.mv (.t 0)),
sq 44 (.len (.t 43)),
sq 45 (.bin .leq (.t 44) (kI 16)),
sq 46 (.mv (.t 45)),
zg 47 46 true (.mv (.t 4)),
zg 48 46 true (.bin .leq (.t 47) (kI 1)),
sq 49 (.pick (.t 46) (.t 48) (kB false)),
sq 2 (.mv (.t 49))]))
 .ret)))))⟩
theorem F107_ok{x0 r}(h:F107 x0=some r):CallD Tryz.prog 107 [.c (dM (x0.map eOwner))] [] (tupV [.c (dB r)]) []:=by
 rw[F107]at h
 refine zc a107 (by kernel_rfl) rfl (ww ?_)
 refine t_mkmap1 (κ:=Int) (α:=Bool) (enc:=(fun x=> .v (.bool x))) (Value.int .i64) (ww ?_)
 obtain⟨o1,ho,h⟩:=bi h
 refine cutS (fun s=>∃po1,o1=Sum.inr po1∧s=⟨[(0,.one (.c (dM (x0.map eOwner)))),(4,.one (.c (dI po1)))],[]⟩) ?_ ?_
 ·have h0o1:=h
  have h:=ho
  clear ho
  obtain⟨_,hk,h⟩:=bi h
  have hk:=ck_some hk
  refine ww ?_
  refine bL (fun j s=>∃(o1_2:Nat) (o1_0:List (Int×Bool)) (o1_1:Int),(o1_2≤x0.length∧j=x0.length-o1_2)∧s=⟨[(0,.one (.c (dM (x0.map eOwner)))),(3,.one (.c (.mref 0))),(4,.one (.c (dI o1_1))),(8,.one (.c (dM (x0.map eOwner)))),(9,.one (.c (dI ((x0.length:Int))))),(10,.one (.c (dI ((o1_2:Int)))))],[some (.map (eM1 (Value.int .i64) (fun x=> .v (.bool x)) o1_0))]⟩∧F107_l1 (x0.drop o1_2) o1_2 o1_0 o1_1=some o1) (x0.length-0) [some 0] ⟨0,[],0,⟨hk.1,rfl⟩,rfl,h⟩ ?_
  rintro _ _ ⟨o1_2,o1_0,o1_1,⟨hi,rfl⟩,rfl,h⟩
  refine ww ?_
  refine condS (fun c2=>?_) (fun c2=>?_)
  ·obtain⟨xo1,hxo1,hd⟩:=countY (show(o1_2:Int)<(x0.length:Int)from c2)
   rw[hd,F107_l1]at h
   refine ww ?_
   obtain⟨o3,ho,h⟩:=bi h
   refine cutS (fun s=>∃po3,o3=Sum.inr po3∧s=⟨[(0,.one (.c (dM (x0.map eOwner)))),(3,.one (.c (.mref 0))),(4,.one (.c (dI po3))),(8,.one (.c (dM (x0.map eOwner)))),(9,.one (.c (dI ((x0.length:Int))))),(10,.one (.c (dI ((o1_2:Int)))))],[some (.map (eM1 (Value.int .i64) (fun x=> .v (.bool x)) ((putM xo1.Uid true o1_0))))]⟩) ?_ ?_
   ·have h0o3:=h
    have h:=ho
    clear ho
    refine ww ?_
    refine t_idxF (enc:=eOwner) (xs:=x0) rfl rfl hxo1 rfl (ww ?_)
    obtain⟨o4,ho,h⟩:=bi h
    refine cutS (fun s=>s=⟨[(0,.one (.c (dM (x0.map eOwner)))),(3,.one (.c (.mref 0))),(4,.one (.c (dI o1_1))),(6,.one (.c (.pt 1 0))),(8,.one (.c (dM (x0.map eOwner)))),(9,.one (.c (dI ((x0.length:Int))))),(10,.one (.c (dI ((o1_2:Int))))),(34,.one (.c (dB o4)))],[some (.map (eM1 (Value.int .i64) (fun x=> .v (.bool x)) o1_0)),some (.box [dS xo1.Kind,dS xo1.Name,dI xo1.Uid,dB xo1.Controller,dB xo1.Block])]⟩) ?_ ?_
    ·have h:=ho
     clear ho
     refine ww ?_
     obtain⟨t5,ht5,h⟩:=bi h
     refine cN [] (F103_ok ht5) trivial (ww ?_)
     refine guardSBh h (fun g6 h=>?_) (fun g6 h=>?_)
     ·refine ww ?_
      cases h
      exact eM [some 0,some 1] rfl
     refine ww ?_
     obtain⟨t7,ht7,h⟩:=bi h
     refine cN [] (F105_ok ht7) trivial (ww ?_)
     refine guardSBh h (fun g8 h=>?_) (fun g8 h=>?_)
     ·refine ww ?_
      cases h
      exact eM [some 0,some 1] rfl
     refine ww ?_
     refine guardSh h (fun g9 h=>?_) (fun g9 h=>?_)
     ·refine ww ?_
      cases h
      exact eM [some 0,some 1] rfl
     refine ww ?_
     refine t_mget1 (enc:=(fun x=> .v (.bool x))) (l:=o1_0) (z:=false) kkI rfl rfl rfl rfl (ww ?_)
     cases h
     exact eM [some 0,some 1] rfl
    rintro _ rfl
    clear ho
    refine ww ?_
    refine condBh h (fun c10 h=>?_) (fun c10 h=>?_)
    ·refine ww ?_
     obtain⟨fh0o3,hfh0o3,rfl⟩:=Option.map_eq_some_iff.1 h
     have h:=hfh0o3.trans h0o3
     obtain⟨fh0o1,hfh0o1,rfl⟩:=Option.map_eq_some_iff.1 h
     have h:=hfh0o1.trans h0o1
     cases h
     exact eF []
    refine ww ?_
    refine t_mset1 (enc:=(fun x=> .v (.bool x))) (l:=o1_0) (x:=true) kkI rfl rfl rfl rfl (ww ?_)
    refine condBh h (fun c11 h=>?_) (fun c11 h=>?_)
    ·refine ww ?_
     cases h
     exact eM [some 0] ⟨_,rfl,rfl⟩
    refine ww ?_
    cases h
    exact eM [some 0] ⟨_,rfl,rfl⟩
   rintro _ ⟨po3,rfl,rfl⟩
   clear ho
   dsimp only at h
   refine ww ?_
   rw[wrapN (by omega)]
   exact eL' (x0.length-(o1_2+1)) [some 0] ⟨o1_2+1,(putM xo1.Uid true o1_0),po3,⟨by omega,rfl⟩,rfl,h⟩ (by omega)
  rw[countN (show¬((o1_2:Int)<(x0.length:Int))from c2),F107_l1]at h
  refine ww ?_
  cases h
  exact eM [] ⟨_,rfl,rfl⟩
 rintro _ ⟨po1,rfl,rfl⟩
 clear ho
 dsimp only at h
 refine ww ?_
 obtain⟨o13,ho,h⟩:=bi h
 refine cutS (fun s=>s=⟨[(2,.one (.c (dB o13)))],[]⟩) ?_ ?_
 ·have h:=ho
  clear ho
  refine ww ?_
  refine guardSh h (fun g14 h=>?_) (fun g14 h=>?_)
  ·refine ww ?_
   cases h
   exact eM [] rfl
  refine ww ?_
  cases h
  exact eM [] rfl
 rintro _ rfl
 clear ho
 refine ww ?_
 cases h
 exact eF []
def F108_l1:List ByteArray→Nat→(List (ByteArray×Bool))→Option ((Bool) ⊕ (Unit))
 |[],o1_1,o1_0=>some (Sum.inr (()))
 |xo1::xs,o1_1,o1_0=>(((F105 xo1).bind fun t4=>(if(nb t4)=true then some true else some (((getM xo1 o1_0).getD false)))).bind fun o3=>(if o3=true then(some false).map Sum.inl else F108_l1 xs (o1_1+1) ((putM xo1 true o1_0))))
def F108(x0:(List ByteArray)):Option (Bool):=(((ck (0≤x0.length∧x0.length≤4294967290)).bind fun u7=>F108_l1 x0 0 ([]):Option ((Bool) ⊕ (Unit))).bind fun o1=>match o1 with|Sum.inl f=>some f|Sum.inr po1=>some (decide ((x0.length:Int)≤16)))
def a108:AFn:=⟨27,[(.tmp 2)],
 (.seq (.reg [sq 2 (.mv (kB false))])
 (.seq (.reg [sq 6 (.mkmap),
sq 3 (.mv (.t 6))])
 (.seq (.seq (.reg [sq 7 (.mv (.t 0)),
sq 8 (.len (.t 7)),
sq 9 (.mv (kI 0))])
 (.sem (.block 0 (.loop (.seq (.reg [sq 10 (.bin .lss (.t 9) (.t 8))])
 (.seq (.cond (.t 10)
 .skip
 (.exit 0))
 (.seq (.block 1 (.seq (.reg [sq 11 (.indexA 1 (.t 7) (.t 9)),
sq 12 (.load none (.t 11)),
sq 5 (.mv (.t 12))])
 (.seq (.seq (.sem (.reg [sq 13 (.mv (.t 5)),
sq 14 (.call 105 [(.t 13)]),
sq 15 (.not (.t 14)),
sq 16 (.mv (.t 15)),
zg 17 16 false (.mv (.t 3)),
zg 18 16 false (.mv (.t 5)),
zg 19 16 false (.mget 1 false (.c (dB false)) (.t 17) (.t 18)),
sq 20 (.pick (.t 16) (kB true) (.t 19))]))
 (.cond (.t 20)
 (.seq (.reg [sq 2 (.mv (kB false))])
 .ret)
 .skip))
 (.reg [sq 21 (.mv (.t 3)),
sq 22 (.mv (.t 5)),
⟨none,none,.mset 1 (.t 21) (.t 22) (kB true),[],(.lone [])⟩]))))
 (.reg [sq 23 (.bin .add (.t 9) (kI 1)),
sq 9 (.mv (.t 23))]))))))))
 (.seq (.reg [sq 24 (.mv (.t 0)),
sq 25 (.len (.t 24)),
sq 26 (.bin .leq (.t 25) (kI 16)),
sq 2 (.mv (.t 26))])
 .ret))))⟩
theorem F108_ok{x0 r}(h:F108 x0=some r):CallD Tryz.prog 108 [.c (dM (x0.map eS))] [] (tupV [.c (dB r)]) []:=by
 rw[F108]at h
 refine zc a108 (by kernel_rfl) rfl (ww ?_)
 refine t_mkmap1 (κ:=ByteArray) (α:=Bool) (enc:=(fun x=> .v (.bool x))) Value.string (ww ?_)
 obtain⟨o1,ho,h⟩:=bi h
 refine cutS (fun s=>∃po1,o1=Sum.inr po1∧s=⟨[(0,.one (.c (dM (x0.map eS))))],[]⟩) ?_ ?_
 ·have h0o1:=h
  have h:=ho
  clear ho
  obtain⟨_,hk,h⟩:=bi h
  have hk:=ck_some hk
  refine ww ?_
  refine bL (fun j s=>∃(o1_1:Nat) (o1_0:List (ByteArray×Bool)),(o1_1≤x0.length∧j=x0.length-o1_1)∧s=⟨[(0,.one (.c (dM (x0.map eS)))),(3,.one (.c (.mref 0))),(7,.one (.c (dM (x0.map eS)))),(8,.one (.c (dI ((x0.length:Int))))),(9,.one (.c (dI ((o1_1:Int)))))],[some (.map (eM1 Value.string (fun x=> .v (.bool x)) o1_0))]⟩∧F108_l1 (x0.drop o1_1) o1_1 o1_0=some o1) (x0.length-0) [some 0] ⟨0,[],⟨hk.1,rfl⟩,rfl,h⟩ ?_
  rintro _ _ ⟨o1_1,o1_0,⟨hi,rfl⟩,rfl,h⟩
  refine ww ?_
  refine condS (fun c2=>?_) (fun c2=>?_)
  ·obtain⟨xo1,hxo1,hd⟩:=countY (show(o1_1:Int)<(x0.length:Int)from c2)
   rw[hd,F108_l1]at h
   refine ww ?_
   refine t_idxF (enc:=eS) (xs:=x0) rfl rfl hxo1 rfl (ww ?_)
   obtain⟨o3,ho,h⟩:=bi h
   refine cutS (fun s=>s=⟨[(0,.one (.c (dM (x0.map eS)))),(3,.one (.c (.mref 0))),(5,.one (.c (dS xo1))),(7,.one (.c (dM (x0.map eS)))),(8,.one (.c (dI ((x0.length:Int))))),(9,.one (.c (dI ((o1_1:Int))))),(20,.one (.c (dB o3)))],[some (.map (eM1 Value.string (fun x=> .v (.bool x)) o1_0))]⟩) ?_ ?_
   ·have h:=ho
    clear ho
    refine ww ?_
    obtain⟨t4,ht4,h⟩:=bi h
    refine cN [] (F105_ok ht4) trivial (ww ?_)
    refine guardSBh h (fun g5 h=>?_) (fun g5 h=>?_)
    ·refine ww ?_
     cases h
     exact eM [some 0] rfl
    refine ww ?_
    refine t_mget1 (enc:=(fun x=> .v (.bool x))) (l:=o1_0) (z:=false) kkS rfl rfl rfl rfl (ww ?_)
    cases h
    exact eM [some 0] rfl
   rintro _ rfl
   clear ho
   refine ww ?_
   refine condBh h (fun c6 h=>?_) (fun c6 h=>?_)
   ·refine ww ?_
    obtain⟨fh0o1,hfh0o1,rfl⟩:=Option.map_eq_some_iff.1 h
    have h:=hfh0o1.trans h0o1
    cases h
    exact eF []
   refine ww ?_
   refine t_mset1 (enc:=(fun x=> .v (.bool x))) (l:=o1_0) (x:=true) kkS rfl rfl rfl rfl (ww ?_)
   rw[wrapN (by omega)]
   exact eL' (x0.length-(o1_1+1)) [some 0] ⟨o1_1+1,(putM xo1 true o1_0),⟨by omega,rfl⟩,rfl,h⟩ (by omega)
  rw[countN (show¬((o1_1:Int)<(x0.length:Int))from c2),F108_l1]at h
  refine ww ?_
  cases h
  exact eM [] ⟨_,rfl,rfl⟩
 rintro _ ⟨po1,rfl,rfl⟩
 clear ho
 dsimp only at h
 refine ww ?_
 cases h
 exact eF []
theorem a91_ok:afn Tryz.prog 91=some (insertA 23 352 [.v (.string ⟨#[]⟩),.v (.string ⟨#[]⟩),.v (.string ⟨#[]⟩),.v (.int .i64 0),.v (.int .i64 0),.v (.int .i64 0),.v (.int .i64 0),.v (.bool false),.v (.int .i64 0),.sl [],.sl [],.sl [],.sl [],.v (.int .i64 0),.v (.int .i64 0),.v (.string ⟨#[]⟩),.sl [],.sl [],.v (.int .i64 0),.v (.int .i64 0),.v (.string ⟨#[]⟩),.sl [],.sl []] 122 123):=by kernel_rfl
theorem F91_ok{x0 r:List Object}{i:Int}{x:Object}{e0 e1:Nat}(h:insI x0 i x=some r):CallD Tryz.prog 91 [.c (.own 0 e0 0 x0.length none),aI i,.c (.own 1 e1 0 [x].length none)] [some (.arr e0 23 (x0.map eObject)),some (.arr e1 23 ([x].map eObject))] (tupV [.c (.own 0 (e0+1) 0 r.length none)]) [some (.arr (e0+1) 23 (r.map eObject)),some (.arr e1 23 ([x].map eObject))]:=L_insert a91_ok ov122 (fun _=>rfl) h
def F113(x0:Int)(x1:Int):Option (Int):=(F135 x0).bind fun t1=>(F135 x1).bind fun t2=>(if¬(True)then(if¬(True)then some 0 else some ((-1)))else(if¬(True)then some 1 else(if x0<x1 then some ((-1))else(if x1<x0 then some 1 else some 0))))
def a113:AFn:=⟨20,[(.tmp 4)],
 (.seq (.reg [sq 4 (.mv (kI 0))])
 (.seq (.reg [sq 7 (.mv (.t 0)),
sq 8 (.call 135 [(.t 7)]),
sq 5 (.mv (.t 8))])
 (.seq (.reg [sq 9 (.mv (.t 1)),
sq 10 (.call 135 [(.t 9)]),
sq 6 (.mv (.t 10))])
 (.seq (.seq (.reg [sq 11 (.mv (.t 5))])
 (.cond (.t 11)
 (.seq (.seq (.reg [sq 12 (.mv (.t 6))])
 (.cond (.t 12)
 (.seq (.reg [sq 4 (.mv (kI 0))])
 .ret)
 .skip))
 (.seq (.reg [sq 4 (.mv (kI (-1)))])
 .ret))
 .skip))
 (.seq (.seq (.reg [sq 13 (.mv (.t 6))])
 (.cond (.t 13)
 (.seq (.reg [sq 4 (.mv (kI 1))])
 .ret)
 .skip))
 (.seq (.seq (.reg [sq 14 (.mv (.t 0)),
sq 15 (.mv (.t 1)),
sq 16 (.bin .lss (.t 14) (.t 15))])
 (.cond (.t 16)
 (.seq (.reg [sq 4 (.mv (kI (-1)))])
 .ret)
 .skip))
 (.seq (.seq (.reg [sq 17 (.mv (.t 0)),
sq 18 (.mv (.t 1)),
sq 19 (.bin .gtr (.t 17) (.t 18))])
 (.cond (.t 19)
 (.seq (.reg [sq 4 (.mv (kI 1))])
 .ret)
 .skip))
 (.seq (.reg [sq 4 (.mv (kI 0))])
 .ret))))))))⟩
theorem F113_ok{x0 x1 r}(h:F113 x0 x1=some r):CallD Tryz.prog 113 [.c (dI x0),.c (dI x1)] [] (tupV [.c (dI r)]) []:=by
 rw[F113]at h
 refine zc a113 (by kernel_rfl) rfl (ww ?_)
 obtain⟨t1,ht1,h⟩:=bi h
 refine cN [] (F135_ok ht1) trivial (ww ?_)
 obtain⟨t2,ht2,h⟩:=bi h
 refine cN [] (F135_ok ht2) trivial (ww ?_)
 refine condSh h (fun c3 h=>?_) (fun c3 h=>?_)
 ·refine ww ?_
  refine condSh h (fun c4 h=>?_) (fun c4 h=>?_)
  ·refine ww ?_
   cases h
   exact eF []
  refine ww ?_
  cases h
  exact eF []
 refine ww ?_
 refine condSh h (fun c5 h=>?_) (fun c5 h=>?_)
 ·refine ww ?_
  cases h
  exact eF []
 refine ww ?_
 refine condSh h (fun c6 h=>?_) (fun c6 h=>?_)
 ·refine ww ?_
  cases h
  exact eF []
 refine ww ?_
 refine condSh h (fun c7 h=>?_) (fun c7 h=>?_)
 ·refine ww ?_
  cases h
  exact eF []
 refine ww ?_
 cases h
 exact eF []
def F86_l11(o1_1:Nat)(x0:(List Owner))(xo1:Owner):Nat→Int→Option (((Bool) ⊕ (Int)) ⊕ (Unit))
 |0,_=>none
 |k+1,o11_0=>(if o11_0<(o1_1:Int)then(rdI x0 o11_0).bind fun y13=>(if y13.Uid=xo1.Uid then((some false).map Sum.inl).map Sum.inl else F86_l11 o1_1 x0 xo1 k ((IntKind.i64.wrap (o11_0+1))))else some (Sum.inr (())))
def F86_l1(x0:(List Owner)):List Owner→Nat→Int→Option ((Bool) ⊕ (Int))
 |[],o1_1,o1_0=>some (Sum.inr o1_0)
 |xo1::xs,o1_1,o1_0=>(((F83 xo1.Kind).bind fun t4=>(if(nb t4)=true then some true else(F84 xo1.Name).bind fun t6=>(if(nb t6)=true then some true else some (decide (xo1.Uid≤0))))).bind fun o3=>(if o3=true then(some false).map Sum.inl else(((if xo1.Controller=true then some ((IntKind.i64.wrap (o1_0+1)))else some o1_0)).bind fun o9=>((F86_l11 o1_1 x0 xo1 1099511627776 0:Option (((Bool) ⊕ (Int)) ⊕ (Unit))).bind fun o11=>match o11 with|Sum.inl f=>some f|Sum.inr po11=>F86_l1 x0 xs (o1_1+1) o9))))
def F86(x0:(List Owner)):Option (Bool):=(((ck (0≤x0.length∧x0.length≤4294967290)).bind fun u15=>F86_l1 x0 x0 0 0:Option ((Bool) ⊕ (Int))).bind fun o1=>match o1 with|Sum.inl f=>some f|Sum.inr po1=>(((if(x0.length:Int)≤16 then some (decide (po1≤1))else some false)).bind fun o16=>some o16))
def a86:AFn:=⟨66,[(.tmp 2)],
 (.seq (.reg [sq 2 (.mv (kB false))])
 (.seq (.reg [sq 3 (.mv (kI 0))])
 (.seq (.seq (.reg [sq 4 (.mv (kI 0))])
 (.sem (.block 0 (.loop (.seq (.seq (.reg [sq 6 (.mv (.t 4)),
sq 7 (.mv (.t 0)),
sq 8 (.len (.t 7)),
sq 9 (.bin .lss (.t 6) (.t 8))])
 (.cond (.t 9)
 .skip
 (.exit 0)))
 (.seq (.block 1 (.seq (.seq (.sem (.reg [sq 12 (.mv (.t 0)),
sq 13 (.mv (.t 4)),
sq 14 (.indexA 5 (.t 12) (.t 13)),
sq 15 (.fieldA 0 (.t 14)),
sq 16 (.load none (.t 15)),
sq 17 (.call 83 [(.t 16)]),
sq 18 (.not (.t 17)),
sq 19 (.mv (.t 18)),
zg 20 19 false (.mv (.t 0)),
zg 21 19 false (.mv (.t 4)),
zg 22 19 false (.indexA 5 (.t 20) (.t 21)),
zg 23 19 false (.fieldA 1 (.t 22)),
zg 24 19 false (.load none (.t 23)),
zg 25 19 false (.call 84 [(.t 24)]),
zg 26 19 false (.not (.t 25)),
sq 27 (.pick (.t 19) (kB true) (.t 26)),
sq 28 (.mv (.t 27)),
zg 29 28 false (.mv (.t 0)),
zg 30 28 false (.mv (.t 4)),
zg 31 28 false (.indexA 5 (.t 29) (.t 30)),
zg 32 28 false (.fieldA 2 (.t 31)),
zg 33 28 false (.load none (.t 32)),
zg 34 28 false (.bin .leq (.t 33) (kI 0)),
sq 35 (.pick (.t 28) (kB true) (.t 34))]))
 (.cond (.t 35)
 (.seq (.reg [sq 2 (.mv (kB false))])
 .ret)
 .skip))
 (.seq (.sem (.seq (.reg [sq 36 (.mv (.t 0)),
sq 37 (.mv (.t 4)),
sq 38 (.indexA 5 (.t 36) (.t 37)),
sq 39 (.fieldA 3 (.t 38)),
sq 40 (.load none (.t 39))])
 (.cond (.t 40)
 (.reg [sq 41 (.mv (.t 3)),
sq 42 (.bin .add (.t 41) (kI 1)),
sq 3 (.mv (.t 42))])
 .skip)))
 (.seq (.reg [sq 5 (.mv (kI 0))])
 (.sem (.block 2 (.loop (.seq (.seq (.reg [sq 43 (.mv (.t 5)),
sq 44 (.mv (.t 4)),
sq 45 (.bin .lss (.t 43) (.t 44))])
 (.cond (.t 45)
 .skip
 (.exit 2)))
 (.seq (.block 3 (.seq (.regd [sq 48 (.mv (.t 0)),
sq 49 (.mv (.t 5)),
sd 50 (.indexA 5 (.t 48) (.t 49)) [0,1],
sd 51 (.fieldA 2 (.t 50)) [0,1,2],
sd 52 (.load none (.t 51)) [0,1,2,3],
sq 53 (.mv (.t 0)),
sq 54 (.mv (.t 4)),
sd 55 (.indexA 5 (.t 53) (.t 54)) [5,6],
sd 56 (.fieldA 2 (.t 55)) [5,6,7],
sd 57 (.load none (.t 56)) [5,6,7,8],
sd 58 (.bin .eql (.t 52) (.t 57)) [0,1,2,3,4,5,6,7,8,9]])
 (.cond (.t 58)
 (.seq (.reg [sq 2 (.mv (kB false))])
 .ret)
 .skip)))
 (.reg [sq 46 (.mv (.t 5)),
sq 47 (.bin .add (.t 46) (kI 1)),
sq 5 (.mv (.t 47))]))))))))))
 (.reg [sq 10 (.mv (.t 4)),
sq 11 (.bin .add (.t 10) (kI 1)),
sq 4 (.mv (.t 11))])))))))
 (.seq (.sem (.reg [sq 59 (.mv (.t 0)),
sq 60 (.len (.t 59)),
sq 61 (.bin .leq (.t 60) (kI 16)),
sq 62 (.mv (.t 61)),
zg 63 62 true (.mv (.t 3)),
zg 64 62 true (.bin .leq (.t 63) (kI 1)),
sq 65 (.pick (.t 62) (.t 64) (kB false)),
sq 2 (.mv (.t 65))]))
 .ret))))⟩
theorem F86_ok{x0 r}(h:F86 x0=some r):CallD Tryz.prog 86 [.c (dM (x0.map eOwner))] [] (tupV [.c (dB r)]) []:=by
 rw[F86]at h
 refine zc a86 (by kernel_rfl) rfl (ww ?_)
 obtain⟨o1,ho,h⟩:=bi h
 refine cutS (fun s=>∃po1,o1=Sum.inr po1∧s=⟨[(0,.one (.c (dM (x0.map eOwner)))),(3,.one (.c (dI po1)))],[]⟩) ?_ ?_
 ·have h0o1:=h
  have h:=ho
  clear ho
  obtain⟨_,hk,h⟩:=bi h
  have hk:=ck_some hk
  refine ww ?_
  refine bL (fun j s=>∃(o1_1:Nat) (o1_0:Int),(o1_1≤x0.length∧j=x0.length-o1_1)∧s=⟨[(0,.one (.c (dM (x0.map eOwner)))),(3,.one (.c (dI o1_0))),(4,.one (.c (dI ((o1_1:Int)))))],[]⟩∧F86_l1 x0 (x0.drop o1_1) o1_1 o1_0=some o1) (x0.length-0) [] ⟨0,0,⟨hk.1,rfl⟩,rfl,h⟩ ?_
  rintro _ _ ⟨o1_1,o1_0,⟨hi,rfl⟩,rfl,h⟩
  refine ww ?_
  refine condS (fun c2=>?_) (fun c2=>?_)
  ·obtain⟨xo1,hxo1,hd⟩:=countY (show(o1_1:Int)<(x0.length:Int)from c2)
   rw[hd,F86_l1]at h
   refine ww ?_
   obtain⟨o3,ho,h⟩:=bi h
   refine cutS (fun s=>s=⟨[(0,.one (.c (dM (x0.map eOwner)))),(3,.one (.c (dI o1_0))),(4,.one (.c (dI ((o1_1:Int))))),(35,.one (.c (dB o3)))],[]⟩) ?_ ?_
   ·have h:=ho
    clear ho
    refine ww ?_
    refine t_idxF (enc:=eOwner) (xs:=x0) rfl rfl hxo1 rfl (ww ?_)
    obtain⟨t4,ht4,h⟩:=bi h
    refine cN [] (F83_ok ht4) trivial (ww ?_)
    refine guardSBh h (fun g5 h=>?_) (fun g5 h=>?_)
    ·refine ww ?_
     cases h
     exact eM [] rfl
    refine ww ?_
    refine t_idxF (enc:=eOwner) (xs:=x0) rfl rfl hxo1 rfl (ww ?_)
    obtain⟨t6,ht6,h⟩:=bi h
    refine cN [] (F84_ok ht6) trivial (ww ?_)
    refine guardSBh h (fun g7 h=>?_) (fun g7 h=>?_)
    ·refine ww ?_
     cases h
     exact eM [] rfl
    refine ww ?_
    refine t_idxF (enc:=eOwner) (xs:=x0) rfl rfl hxo1 rfl (ww ?_)
    cases h
    exact eM [] rfl
   rintro _ rfl
   clear ho
   refine ww ?_
   refine condBh h (fun c8 h=>?_) (fun c8 h=>?_)
   ·refine ww ?_
    obtain⟨fh0o1,hfh0o1,rfl⟩:=Option.map_eq_some_iff.1 h
    have h:=hfh0o1.trans h0o1
    cases h
    exact eF []
   refine ww ?_
   obtain⟨o9,ho,h⟩:=bi h
   refine cutS (fun s=>s=⟨[(0,.one (.c (dM (x0.map eOwner)))),(3,.one (.c (dI o9))),(4,.one (.c (dI ((o1_1:Int)))))],[]⟩) ?_ ?_
   ·have h:=ho
    clear ho
    refine ww ?_
    refine t_idxF (enc:=eOwner) (xs:=x0) rfl rfl hxo1 rfl (ww ?_)
    refine condBh h (fun c10 h=>?_) (fun c10 h=>?_)
    ·refine ww ?_
     cases h
     exact eM [] rfl
    refine ww ?_
    cases h
    exact eM [] rfl
   rintro _ rfl
   clear ho
   refine ww ?_
   obtain⟨o11,ho,h⟩:=bi h
   refine cutS (fun s=>∃po11,o11=Sum.inr po11∧s=⟨[(0,.one (.c (dM (x0.map eOwner)))),(3,.one (.c (dI o9))),(4,.one (.c (dI ((o1_1:Int)))))],[]⟩) ?_ ?_
   ·have h0o11:=h
    have h:=ho
    clear ho
    refine ww ?_
    refine bL (fun j s=>∃(o11_0:Int),s=⟨[(0,.one (.c (dM (x0.map eOwner)))),(3,.one (.c (dI o9))),(4,.one (.c (dI ((o1_1:Int))))),(5,.one (.c (dI o11_0)))],[]⟩∧F86_l11 o1_1 x0 xo1 j o11_0=some o11) 1099511627776 [] ⟨0,rfl,h⟩ ?_
    rintro j _ ⟨o11_0,rfl,h⟩
    cases j with
    |zero=>cases(show(none:Option _)=some _ from h)
    |succ j=>
     rw[F86_l11]at h
     refine ww ?_
     refine condSh h (fun c12 h=>?_) (fun c12 h=>?_)
     ·refine ww ?_
      obtain⟨y13,hy13,h⟩:=bi h
      refine t_idxF (enc:=eOwner) (xs:=x0) rfl rfl hy13 rfl (ww ?_)
      refine t_idxF (enc:=eOwner) (xs:=x0) rfl rfl hxo1 rfl (ww ?_)
      refine condSh h (fun c14 h=>?_) (fun c14 h=>?_)
      ·refine ww ?_
       obtain⟨fh0o11,hfh0o11,rfl⟩:=Option.map_eq_some_iff.1 h
       have h:=hfh0o11.trans h0o11
       obtain⟨fh0o1,hfh0o1,rfl⟩:=Option.map_eq_some_iff.1 h
       have h:=hfh0o1.trans h0o1
       cases h
       exact eF []
      ·refine ww ?_
       exact eL' j [] ⟨(IntKind.i64.wrap (o11_0+1)),rfl,h⟩ (Nat.lt_succ_self _)
     ·refine ww ?_
      cases h
      exact eM [] ⟨_,rfl,rfl⟩
   rintro _ ⟨po11,rfl,rfl⟩
   clear ho
   dsimp only at h
   refine ww ?_
   rw[wrapN (by omega)]
   exact eL' (x0.length-(o1_1+1)) [] ⟨o1_1+1,o9,⟨by omega,rfl⟩,rfl,h⟩ (by omega)
  rw[countN (show¬((o1_1:Int)<(x0.length:Int))from c2),F86_l1]at h
  refine ww ?_
  cases h
  exact eM [] ⟨_,rfl,rfl⟩
 rintro _ ⟨po1,rfl,rfl⟩
 clear ho
 dsimp only at h
 refine ww ?_
 obtain⟨o16,ho,h⟩:=bi h
 refine cutS (fun s=>s=⟨[(2,.one (.c (dB o16)))],[]⟩) ?_ ?_
 ·have h:=ho
  clear ho
  refine ww ?_
  refine guardSh h (fun g17 h=>?_) (fun g17 h=>?_)
  ·refine ww ?_
   cases h
   exact eM [] rfl
  refine ww ?_
  cases h
  exact eM [] rfl
 rintro _ rfl
 clear ho
 refine ww ?_
 cases h
 exact eF []
def F93(x0:Meta):Option (ByteArray):=(F124 x0.Kind x0.Namespace x0.Name).bind fun t1=>some t1
def a93:AFn:=⟨10,[(.tmp 2)],
 (.seq (.reg [sq 1 (.box (.t 0)),
sq 2 (.mv (kS ⟨#[]⟩))])
 (.seq (.reg [sq 3 (.fieldA 0 (.t 1)),
sq 4 (.load none (.t 3)),
sq 5 (.fieldA 1 (.t 1)),
sq 6 (.load none (.t 5)),
sq 7 (.fieldA 2 (.t 1)),
sq 8 (.load none (.t 7)),
sq 9 (.call 124 [(.t 4),(.t 6),(.t 8)]),
sq 2 (.mv (.t 9))])
 .ret))⟩
theorem F93_ok{x0 r}(h:F93 x0=some r):CallD Tryz.prog 93 [.agg [dS x0.Kind,dS x0.Namespace,dS x0.Name,dI x0.Uid,dI x0.Version,dI x0.Generation,dI x0.Created,dB x0.Deleting,dI x0.DeleteAt,dM (x0.Labels.map eLabel),dM (x0.Owners.map eOwner),dM (x0.Finalizers.map eS),dM (x0.Managers.map eManager)]] [] (tupV [.c (dS r)]) []:=by
 rw[F93]at h
 refine zc a93 (by kernel_rfl) rfl (ww ?_)
 obtain⟨t1,ht1,h⟩:=bi h
 refine cN [] (F124_ok ht1) trivial (ww ?_)
 cases h
 exact eF []
def F98_l8(rc98:TValue→TValue→Option (Int))(x0:TValue)(x1:TValue):Nat→Int→Int→Option (Int)
 |0,_,_=>none
 |k+1,o8_0,o8_1=>(((if o8_1<(x0.List_.length:Int)then(if o8_1<(x1.List_.length:Int)then some (decide (o8_0=0))else some false)else some false)).bind fun o9=>(if o9=true then(rdI x0.List_ o8_1).bind fun y13=>(rdI x1.List_ o8_1).bind fun y14=>(rc98 y13 y14).bind fun t15=>F98_l8 rc98 x0 x1 k t15 ((IntKind.i64.wrap (o8_1+1)))else some o8_0))
def F98_l19(rc98:TValue→TValue→Option (Int))(x0:TValue)(x1:TValue):Nat→Int→Int→Option (Int)
 |0,_,_=>none
 |k+1,o19_0,o19_1=>(((if o19_1<(x0.Fields.length:Int)then(if o19_1<(x1.Fields.length:Int)then some (decide (o19_0=0))else some false)else some false)).bind fun o20=>(if o20=true then(((rdI x0.Fields o19_1).bind fun y25=>(rdI x1.Fields o19_1).bind fun y26=>(F125 (Op.bytesLess y25.Name.toList y26.Name.toList) (nb (Op.bytesLess y25.Name.toList y26.Name.toList||decide (y25.Name=y26.Name)))).bind fun t27=>(if t27=0 then(rc98 y25.V y26.V).bind fun t29=>some t29 else some t27)).bind fun o24=>F98_l19 rc98 x0 x1 k o24 ((IntKind.i64.wrap (o19_1+1))))else some o19_0))
def F98(rc98:TValue→TValue→Option (Int))(x0:TValue)(x1:TValue):Option (Int):=(F125 (decide (x0.Kind<x1.Kind)) (decide (x1.Kind<x0.Kind))).bind fun t1=>(((if t1=0 then(F125 (decide (x0.N<x1.N)) (decide (x1.N<x0.N))).bind fun t4=>some t4 else some t1)).bind fun o2=>(((if o2=0 then(F125 (Op.bytesLess x0.S.toList x1.S.toList) (nb (Op.bytesLess x0.S.toList x1.S.toList||decide (x0.S=x1.S)))).bind fun t7=>some t7 else some o2)).bind fun o5=>((F98_l8 rc98 x0 x1 1099511627776 o5 0).bind fun o8=>(((if o8=0 then(F125 (decide ((x0.List_.length:Int)<(x1.List_.length:Int))) (decide ((x1.List_.length:Int)<(x0.List_.length:Int)))).bind fun t18=>some t18 else some o8)).bind fun o16=>((F98_l19 rc98 x0 x1 1099511627776 o16 0).bind fun o19=>(if o19=0 then(F125 (decide ((x0.Fields.length:Int)<(x1.Fields.length:Int))) (decide ((x1.Fields.length:Int)<(x0.Fields.length:Int)))).bind fun t31=>some t31 else some o19))))))
def a98:AFn:=⟨169,[(.tmp 4)],
 (.seq (.reg [sq 2 (.box (.t 0)),
sq 3 (.box (.t 1)),
sq 4 (.mv (kI 0))])
 (.seq (.reg [sq 8 (.fieldA 0 (.t 2)),
sq 9 (.load none (.t 8)),
sq 10 (.fieldA 0 (.t 3)),
sq 11 (.load none (.t 10)),
sq 12 (.bin .lss (.t 9) (.t 11)),
sq 13 (.fieldA 0 (.t 2)),
sq 14 (.load none (.t 13)),
sq 15 (.fieldA 0 (.t 3)),
sq 16 (.load none (.t 15)),
sq 17 (.bin .gtr (.t 14) (.t 16)),
sq 18 (.call 125 [(.t 12),(.t 17)]),
sq 5 (.mv (.t 18))])
 (.seq (.sem (.seq (.reg [sq 19 (.mv (.t 5)),
sq 20 (.bin .eql (.t 19) (kI 0))])
 (.cond (.t 20)
 (.reg [sq 21 (.fieldA 1 (.t 2)),
sq 22 (.load none (.t 21)),
sq 23 (.fieldA 1 (.t 3)),
sq 24 (.load none (.t 23)),
sq 25 (.bin .lss (.t 22) (.t 24)),
sq 26 (.fieldA 1 (.t 2)),
sq 27 (.load none (.t 26)),
sq 28 (.fieldA 1 (.t 3)),
sq 29 (.load none (.t 28)),
sq 30 (.bin .gtr (.t 27) (.t 29)),
sq 31 (.call 125 [(.t 25),(.t 30)]),
sq 5 (.mv (.t 31))])
 .skip)))
 (.seq (.sem (.seq (.reg [sq 32 (.mv (.t 5)),
sq 33 (.bin .eql (.t 32) (kI 0))])
 (.cond (.t 33)
 (.reg [sq 34 (.fieldA 2 (.t 2)),
sq 35 (.load none (.t 34)),
sq 36 (.fieldA 2 (.t 3)),
sq 37 (.load none (.t 36)),
sq 38 (.bin .lss (.t 35) (.t 37)),
sq 39 (.fieldA 2 (.t 2)),
sq 40 (.load none (.t 39)),
sq 41 (.fieldA 2 (.t 3)),
sq 42 (.load none (.t 41)),
sq 43 (.bin .gtr (.t 40) (.t 42)),
sq 44 (.call 125 [(.t 38),(.t 43)]),
sq 5 (.mv (.t 44))])
 .skip)))
 (.seq (.seq (.reg [sq 6 (.mv (kI 0))])
 (.sem (.block 0 (.loop (.seq (.seq (.sem (.reg [sq 45 (.mv (.t 6)),
sq 46 (.fieldA 3 (.t 2)),
sq 47 (.load none (.t 46)),
sq 48 (.len (.t 47)),
sq 49 (.bin .lss (.t 45) (.t 48)),
sq 50 (.mv (.t 49)),
zg 51 50 true (.mv (.t 6)),
zg 52 50 true (.fieldA 3 (.t 3)),
zg 53 50 true (.load none (.t 52)),
zg 54 50 true (.len (.t 53)),
zg 55 50 true (.bin .lss (.t 51) (.t 54)),
sq 56 (.pick (.t 50) (.t 55) (kB false)),
sq 57 (.mv (.t 56)),
zg 58 57 true (.mv (.t 5)),
zg 59 57 true (.bin .eql (.t 58) (kI 0)),
sq 60 (.pick (.t 57) (.t 59) (kB false))]))
 (.cond (.t 60)
 .skip
 (.exit 0)))
 (.seq (.block 1 (.regd [sq 63 (.fieldA 3 (.t 2)),
sd 64 (.load none (.t 63)) [0],
sq 65 (.mv (.t 6)),
sd 66 (.indexA 5 (.t 64) (.t 65)) [0,1,2],
sd 67 (.load (some 5) (.t 66)) [0,1,2,3],
sq 68 (.fieldA 3 (.t 3)),
sd 69 (.load none (.t 68)) [5],
sq 70 (.mv (.t 6)),
sd 71 (.indexA 5 (.t 69) (.t 70)) [5,6,7],
sd 72 (.load (some 5) (.t 71)) [5,6,7,8],
zl 73 (.call 98 [(.t 67),(.t 72)]) [0,1,2,3,4,5,6,7,8,9] [],
sd 5 (.mv (.t 73)) [0,1,2,3,4,5,6,7,8,9,10]]))
 (.reg [sq 61 (.mv (.t 6)),
sq 62 (.bin .add (.t 61) (kI 1)),
sq 6 (.mv (.t 62))])))))))
 (.seq (.sem (.seq (.reg [sq 74 (.mv (.t 5)),
sq 75 (.bin .eql (.t 74) (kI 0))])
 (.cond (.t 75)
 (.reg [sq 76 (.fieldA 3 (.t 2)),
sq 77 (.load none (.t 76)),
sq 78 (.len (.t 77)),
sq 79 (.fieldA 3 (.t 3)),
sq 80 (.load none (.t 79)),
sq 81 (.len (.t 80)),
sq 82 (.bin .lss (.t 78) (.t 81)),
sq 83 (.fieldA 3 (.t 2)),
sq 84 (.load none (.t 83)),
sq 85 (.len (.t 84)),
sq 86 (.fieldA 3 (.t 3)),
sq 87 (.load none (.t 86)),
sq 88 (.len (.t 87)),
sq 89 (.bin .gtr (.t 85) (.t 88)),
sq 90 (.call 125 [(.t 82),(.t 89)]),
sq 5 (.mv (.t 90))])
 .skip)))
 (.seq (.seq (.reg [sq 7 (.mv (kI 0))])
 (.sem (.block 2 (.loop (.seq (.seq (.sem (.reg [sq 91 (.mv (.t 7)),
sq 92 (.fieldA 4 (.t 2)),
sq 93 (.load none (.t 92)),
sq 94 (.len (.t 93)),
sq 95 (.bin .lss (.t 91) (.t 94)),
sq 96 (.mv (.t 95)),
zg 97 96 true (.mv (.t 7)),
zg 98 96 true (.fieldA 4 (.t 3)),
zg 99 96 true (.load none (.t 98)),
zg 100 96 true (.len (.t 99)),
zg 101 96 true (.bin .lss (.t 97) (.t 100)),
sq 102 (.pick (.t 96) (.t 101) (kB false)),
sq 103 (.mv (.t 102)),
zg 104 103 true (.mv (.t 5)),
zg 105 103 true (.bin .eql (.t 104) (kI 0)),
sq 106 (.pick (.t 103) (.t 105) (kB false))]))
 (.cond (.t 106)
 .skip
 (.exit 2)))
 (.seq (.sem (.block 3 (.seq (.regd [sq 109 (.fieldA 4 (.t 2)),
sd 110 (.load none (.t 109)) [0],
sq 111 (.mv (.t 7)),
sd 112 (.indexA 6 (.t 110) (.t 111)) [0,1,2],
sd 113 (.fieldA 0 (.t 112)) [0,1,2,3],
sd 114 (.load none (.t 113)) [0,1,2,3,4],
sq 115 (.fieldA 4 (.t 3)),
sd 116 (.load none (.t 115)) [6],
sq 117 (.mv (.t 7)),
sd 118 (.indexA 6 (.t 116) (.t 117)) [6,7,8],
sd 119 (.fieldA 0 (.t 118)) [6,7,8,9],
sd 120 (.load none (.t 119)) [6,7,8,9,10],
sd 121 (.bin .lss (.t 114) (.t 120)) [0,1,2,3,4,5,6,7,8,9,10,11],
sq 122 (.fieldA 4 (.t 2)),
sd 123 (.load none (.t 122)) [13],
sq 124 (.mv (.t 7)),
sd 125 (.indexA 6 (.t 123) (.t 124)) [13,14,15],
sd 126 (.fieldA 0 (.t 125)) [13,14,15,16],
sd 127 (.load none (.t 126)) [13,14,15,16,17],
sq 128 (.fieldA 4 (.t 3)),
sd 129 (.load none (.t 128)) [19],
sq 130 (.mv (.t 7)),
sd 131 (.indexA 6 (.t 129) (.t 130)) [19,20,21],
sd 132 (.fieldA 0 (.t 131)) [19,20,21,22],
sd 133 (.load none (.t 132)) [19,20,21,22,23],
sd 134 (.bin .gtr (.t 127) (.t 133)) [13,14,15,16,17,18,19,20,21,22,23,24],
zl 135 (.call 125 [(.t 121),(.t 134)]) [0,1,2,3,4,5,6,7,8,9,10,11,12,13,14,15,16,17,18,19,20,21,22,23,24,25] [],
sd 5 (.mv (.t 135)) [0,1,2,3,4,5,6,7,8,9,10,11,12,13,14,15,16,17,18,19,20,21,22,23,24,25,26]])
 (.seq (.reg [sq 136 (.mv (.t 5)),
sq 137 (.bin .eql (.t 136) (kI 0))])
 (.cond (.t 137)
 (.regd [sq 138 (.fieldA 4 (.t 2)),
sd 139 (.load none (.t 138)) [0],
sq 140 (.mv (.t 7)),
sd 141 (.indexA 6 (.t 139) (.t 140)) [0,1,2],
sd 142 (.fieldA 1 (.t 141)) [0,1,2,3],
sd 143 (.load (some 5) (.t 142)) [0,1,2,3,4],
sq 144 (.fieldA 4 (.t 3)),
sd 145 (.load none (.t 144)) [6],
sq 146 (.mv (.t 7)),
sd 147 (.indexA 6 (.t 145) (.t 146)) [6,7,8],
sd 148 (.fieldA 1 (.t 147)) [6,7,8,9],
sd 149 (.load (some 5) (.t 148)) [6,7,8,9,10],
zl 150 (.call 98 [(.t 143),(.t 149)]) [0,1,2,3,4,5,6,7,8,9,10,11] [],
sd 5 (.mv (.t 150)) [0,1,2,3,4,5,6,7,8,9,10,11,12]])
 .skip)))))
 (.reg [sq 107 (.mv (.t 7)),
sq 108 (.bin .add (.t 107) (kI 1)),
sq 7 (.mv (.t 108))])))))))
 (.seq (.seq (.reg [sq 151 (.mv (.t 5)),
sq 152 (.bin .eql (.t 151) (kI 0))])
 (.cond (.t 152)
 (.reg [sq 153 (.fieldA 4 (.t 2)),
sq 154 (.load none (.t 153)),
sq 155 (.len (.t 154)),
sq 156 (.fieldA 4 (.t 3)),
sq 157 (.load none (.t 156)),
sq 158 (.len (.t 157)),
sq 159 (.bin .lss (.t 155) (.t 158)),
sq 160 (.fieldA 4 (.t 2)),
sq 161 (.load none (.t 160)),
sq 162 (.len (.t 161)),
sq 163 (.fieldA 4 (.t 3)),
sq 164 (.load none (.t 163)),
sq 165 (.len (.t 164)),
sq 166 (.bin .gtr (.t 162) (.t 165)),
sq 167 (.call 125 [(.t 159),(.t 166)]),
sq 5 (.mv (.t 167))])
 .skip))
 (.seq (.reg [sq 168 (.mv (.t 5)),
sq 4 (.mv (.t 168))])
 .ret)))))))))⟩
theorem F98_ok{rc98:TValue→TValue→Option (Int)}(ih98:∀{x0:TValue} {x1:TValue} {r:Int} (h:rc98 x0 x1=some r),CallD Tryz.prog 98 [.agg [dI x0.Kind,dI x0.N,dS x0.S,dM (x0.List_.map eTValue),dM (x0.Fields.map eTField)],.agg [dI x1.Kind,dI x1.N,dS x1.S,dM (x1.List_.map eTValue),dM (x1.Fields.map eTField)]] [] (tupV [.c (dI r)]) []){x0:TValue}{x1:TValue}{r:Int}(h:F98 rc98 x0 x1=some r):CallD Tryz.prog 98 [.agg [dI x0.Kind,dI x0.N,dS x0.S,dM (x0.List_.map eTValue),dM (x0.Fields.map eTField)],.agg [dI x1.Kind,dI x1.N,dS x1.S,dM (x1.List_.map eTValue),dM (x1.Fields.map eTField)]] [] (tupV [.c (dI r)]) []:=by
 rw[F98]at h
 refine zc a98 (by kernel_rfl) rfl (ww ?_)
 obtain⟨t1,ht1,h⟩:=bi h
 refine cN [] (F125_ok ht1) trivial (ww ?_)
 obtain⟨o2,ho,h⟩:=bi h
 refine cutS (fun s=>s=⟨[(2,.one (.c (.pt 0 0))),(3,.one (.c (.pt 1 0))),(5,.one (.c (dI o2)))],[some (.box [dI x0.Kind,dI x0.N,dS x0.S,dM (x0.List_.map eTValue),dM (x0.Fields.map eTField)]),some (.box [dI x1.Kind,dI x1.N,dS x1.S,dM (x1.List_.map eTValue),dM (x1.Fields.map eTField)])]⟩) ?_ ?_
 ·have h:=ho
  clear ho
  refine ww ?_
  refine condSh h (fun c3 h=>?_) (fun c3 h=>?_)
  ·refine ww ?_
   obtain⟨t4,ht4,h⟩:=bi h
   refine cN [] (F125_ok ht4) trivial (ww ?_)
   cases h
   exact eM [some 0,some 1] rfl
  refine ww ?_
  cases h
  exact eM [some 0,some 1] rfl
 rintro _ rfl
 clear ho
 refine ww ?_
 obtain⟨o5,ho,h⟩:=bi h
 refine cutS (fun s=>s=⟨[(2,.one (.c (.pt 0 0))),(3,.one (.c (.pt 1 0))),(5,.one (.c (dI o5)))],[some (.box [dI x0.Kind,dI x0.N,dS x0.S,dM (x0.List_.map eTValue),dM (x0.Fields.map eTField)]),some (.box [dI x1.Kind,dI x1.N,dS x1.S,dM (x1.List_.map eTValue),dM (x1.Fields.map eTField)])]⟩) ?_ ?_
 ·have h:=ho
  clear ho
  refine ww ?_
  refine condSh h (fun c6 h=>?_) (fun c6 h=>?_)
  ·refine ww ?_
   obtain⟨t7,ht7,h⟩:=bi h
   refine cN [] (F125_ok ht7) trivial (ww ?_)
   cases h
   exact eM [some 0,some 1] rfl
  refine ww ?_
  cases h
  exact eM [some 0,some 1] rfl
 rintro _ rfl
 clear ho
 refine ww ?_
 obtain⟨o8,ho,h⟩:=bi h
 refine cutS (fun s=>s=⟨[(2,.one (.c (.pt 0 0))),(3,.one (.c (.pt 1 0))),(5,.one (.c (dI o8)))],[some (.box [dI x0.Kind,dI x0.N,dS x0.S,dM (x0.List_.map eTValue),dM (x0.Fields.map eTField)]),some (.box [dI x1.Kind,dI x1.N,dS x1.S,dM (x1.List_.map eTValue),dM (x1.Fields.map eTField)])]⟩) ?_ ?_
 ·have h:=ho
  clear ho
  refine ww ?_
  refine bL (fun j s=>∃(o8_0:Int) (o8_1:Int),s=⟨[(2,.one (.c (.pt 0 0))),(3,.one (.c (.pt 1 0))),(5,.one (.c (dI o8_0))),(6,.one (.c (dI o8_1)))],[some (.box [dI x0.Kind,dI x0.N,dS x0.S,dM (x0.List_.map eTValue),dM (x0.Fields.map eTField)]),some (.box [dI x1.Kind,dI x1.N,dS x1.S,dM (x1.List_.map eTValue),dM (x1.Fields.map eTField)])]⟩∧F98_l8 rc98 x0 x1 j o8_0 o8_1=some o8) 1099511627776 [some 0,some 1] ⟨o5,0,rfl,h⟩ ?_
  rintro j _ ⟨o8_0,o8_1,rfl,h⟩
  cases j with
  |zero=>cases(show(none:Option _)=some _ from h)
  |succ j=>
   rw[F98_l8]at h
   refine ww ?_
   obtain⟨o9,ho,h⟩:=bi h
   refine cutS (fun s=>s=⟨[(2,.one (.c (.pt 0 0))),(3,.one (.c (.pt 1 0))),(5,.one (.c (dI o8_0))),(6,.one (.c (dI o8_1))),(60,.one (.c (dB o9)))],[some (.box [dI x0.Kind,dI x0.N,dS x0.S,dM (x0.List_.map eTValue),dM (x0.Fields.map eTField)]),some (.box [dI x1.Kind,dI x1.N,dS x1.S,dM (x1.List_.map eTValue),dM (x1.Fields.map eTField)])]⟩) ?_ ?_
   ·have h:=ho
    clear ho
    refine ww ?_
    refine guardSh h (fun g10 h=>?_) (fun g10 h=>?_)
    ·refine ww ?_
     refine guardSh h (fun g11 h=>?_) (fun g11 h=>?_)
     ·refine ww ?_
      cases h
      exact eM [some 0,some 1] rfl
     ·refine ww ?_
      cases h
      exact eM [some 0,some 1] rfl
    ·refine ww ?_
     cases h
     exact eM [some 0,some 1] rfl
   ·rintro _ rfl
    clear ho
    refine ww ?_
    refine condBh h (fun c12 h=>?_) (fun c12 h=>?_)
    ·refine ww ?_
     obtain⟨y13,hy13,h⟩:=bi h
     refine t_idxF (enc:=eTValue) (xs:=x0.List_) rfl rfl hy13 (by rw[eTValue_u];rfl) (ww ?_)
     obtain⟨y14,hy14,h⟩:=bi h
     refine t_idxF (enc:=eTValue) (xs:=x1.List_) rfl rfl hy14 (by rw[eTValue_u];rfl) (ww ?_)
     obtain⟨t15,ht15,h⟩:=bi h
     refine cN [] (ih98 ht15) trivial (ww ?_)
     exact eL' j [some 0,some 1] ⟨t15,(IntKind.i64.wrap (o8_1+1)),rfl,h⟩ (Nat.lt_succ_self _)
    ·refine ww ?_
     cases h
     exact eM [some 0,some 1] rfl
 rintro _ rfl
 clear ho
 refine ww ?_
 obtain⟨o16,ho,h⟩:=bi h
 refine cutS (fun s=>s=⟨[(2,.one (.c (.pt 0 0))),(3,.one (.c (.pt 1 0))),(5,.one (.c (dI o16)))],[some (.box [dI x0.Kind,dI x0.N,dS x0.S,dM (x0.List_.map eTValue),dM (x0.Fields.map eTField)]),some (.box [dI x1.Kind,dI x1.N,dS x1.S,dM (x1.List_.map eTValue),dM (x1.Fields.map eTField)])]⟩) ?_ ?_
 ·have h:=ho
  clear ho
  refine ww ?_
  refine condSh h (fun c17 h=>?_) (fun c17 h=>?_)
  ·refine ww ?_
   obtain⟨t18,ht18,h⟩:=bi h
   refine cN [] (F125_ok ht18) trivial (ww ?_)
   cases h
   exact eM [some 0,some 1] rfl
  refine ww ?_
  cases h
  exact eM [some 0,some 1] rfl
 rintro _ rfl
 clear ho
 refine ww ?_
 obtain⟨o19,ho,h⟩:=bi h
 refine cutS (fun s=>s=⟨[(2,.one (.c (.pt 0 0))),(3,.one (.c (.pt 1 0))),(5,.one (.c (dI o19)))],[some (.box [dI x0.Kind,dI x0.N,dS x0.S,dM (x0.List_.map eTValue),dM (x0.Fields.map eTField)]),some (.box [dI x1.Kind,dI x1.N,dS x1.S,dM (x1.List_.map eTValue),dM (x1.Fields.map eTField)])]⟩) ?_ ?_
 ·have h:=ho
  clear ho
  refine ww ?_
  refine bL (fun j s=>∃(o19_0:Int) (o19_1:Int),s=⟨[(2,.one (.c (.pt 0 0))),(3,.one (.c (.pt 1 0))),(5,.one (.c (dI o19_0))),(7,.one (.c (dI o19_1)))],[some (.box [dI x0.Kind,dI x0.N,dS x0.S,dM (x0.List_.map eTValue),dM (x0.Fields.map eTField)]),some (.box [dI x1.Kind,dI x1.N,dS x1.S,dM (x1.List_.map eTValue),dM (x1.Fields.map eTField)])]⟩∧F98_l19 rc98 x0 x1 j o19_0 o19_1=some o19) 1099511627776 [some 0,some 1] ⟨o16,0,rfl,h⟩ ?_
  rintro j _ ⟨o19_0,o19_1,rfl,h⟩
  cases j with
  |zero=>cases(show(none:Option _)=some _ from h)
  |succ j=>
   rw[F98_l19]at h
   refine ww ?_
   obtain⟨o20,ho,h⟩:=bi h
   refine cutS (fun s=>s=⟨[(2,.one (.c (.pt 0 0))),(3,.one (.c (.pt 1 0))),(5,.one (.c (dI o19_0))),(7,.one (.c (dI o19_1))),(106,.one (.c (dB o20)))],[some (.box [dI x0.Kind,dI x0.N,dS x0.S,dM (x0.List_.map eTValue),dM (x0.Fields.map eTField)]),some (.box [dI x1.Kind,dI x1.N,dS x1.S,dM (x1.List_.map eTValue),dM (x1.Fields.map eTField)])]⟩) ?_ ?_
   ·have h:=ho
    clear ho
    refine ww ?_
    refine guardSh h (fun g21 h=>?_) (fun g21 h=>?_)
    ·refine ww ?_
     refine guardSh h (fun g22 h=>?_) (fun g22 h=>?_)
     ·refine ww ?_
      cases h
      exact eM [some 0,some 1] rfl
     ·refine ww ?_
      cases h
      exact eM [some 0,some 1] rfl
    ·refine ww ?_
     cases h
     exact eM [some 0,some 1] rfl
   ·rintro _ rfl
    clear ho
    refine ww ?_
    refine condBh h (fun c23 h=>?_) (fun c23 h=>?_)
    ·refine ww ?_
     obtain⟨o24,ho,h⟩:=bi h
     refine cutS (fun s=>s=⟨[(2,.one (.c (.pt 0 0))),(3,.one (.c (.pt 1 0))),(5,.one (.c (dI o24))),(7,.one (.c (dI o19_1)))],[some (.box [dI x0.Kind,dI x0.N,dS x0.S,dM (x0.List_.map eTValue),dM (x0.Fields.map eTField)]),some (.box [dI x1.Kind,dI x1.N,dS x1.S,dM (x1.List_.map eTValue),dM (x1.Fields.map eTField)])]⟩) ?_ ?_
     ·have h:=ho
      clear ho
      refine ww ?_
      obtain⟨y25,hy25,h⟩:=bi h
      refine t_idxF (enc:=eTField) (xs:=x0.Fields) rfl rfl hy25 (by rw[eTField_u];rfl) (ww ?_)
      obtain⟨y26,hy26,h⟩:=bi h
      refine t_idxF (enc:=eTField) (xs:=x1.Fields) rfl rfl hy26 (by rw[eTField_u];rfl) (ww ?_)
      refine t_idxF (enc:=eTField) (xs:=x0.Fields) rfl rfl hy25 (by rw[eTField_u];rfl) (ww ?_)
      refine t_idxF (enc:=eTField) (xs:=x1.Fields) rfl rfl hy26 (by rw[eTField_u];rfl) (ww ?_)
      obtain⟨t27,ht27,h⟩:=bi h
      refine cN [] (F125_ok ht27) trivial (ww ?_)
      refine condSh h (fun c28 h=>?_) (fun c28 h=>?_)
      ·refine ww ?_
       refine t_idxF (enc:=eTField) (xs:=x0.Fields) rfl rfl hy25 (by rw[eTField_u];rfl) (ww ?_)
       refine t_idxF (enc:=eTField) (xs:=x1.Fields) rfl rfl hy26 (by rw[eTField_u];rfl) (ww ?_)
       obtain⟨t29,ht29,h⟩:=bi h
       refine cN [] (ih98 ht29) trivial (ww ?_)
       cases h
       exact eM [some 0,some 1] rfl
      ·refine ww ?_
       cases h
       exact eM [some 0,some 1] rfl
     ·rintro _ rfl
      clear ho
      refine ww ?_
      exact eL' j [some 0,some 1] ⟨o24,(IntKind.i64.wrap (o19_1+1)),rfl,h⟩ (Nat.lt_succ_self _)
    ·refine ww ?_
     cases h
     exact eM [some 0,some 1] rfl
 rintro _ rfl
 clear ho
 refine ww ?_
 refine condSh h (fun c30 h=>?_) (fun c30 h=>?_)
 ·refine ww ?_
  obtain⟨t31,ht31,h⟩:=bi h
  refine cN [] (F125_ok ht31) trivial (ww ?_)
  cases h
  exact eF []
 refine ww ?_
 cases h
 exact eF []
def F98k:Nat→TValue→TValue→Option (Int)
 |0=>fun _ _=>none
 |k+1=>F98 (F98k k)
theorem F98k_ok(k:Nat){x0:TValue}{x1:TValue}{r:Int}(h:F98k k x0 x1=some r):CallD Tryz.prog 98 [.agg [dI x0.Kind,dI x0.N,dS x0.S,dM (x0.List_.map eTValue),dM (x0.Fields.map eTField)],.agg [dI x1.Kind,dI x1.N,dS x1.S,dM (x1.List_.map eTValue),dM (x1.Fields.map eTField)]] [] (tupV [.c (dI r)]) []:=by
 induction k generalizing x0 x1 r with
 |zero=>cases(show(none:Option (Int))=some _ from h)
 |succ k ih=>exact F98_ok (fun h=>ih h) h
end Go.Proofs.YtbopaemngpbdgaaGreat
