/- Each Go function as a function over typed data, and its walk. -/
import Derived.Test.YtdkmamiedcanfaaGreatW0
import Derived.Test.YtdkmamiedcanfaaGreatW1
import Derived.Test.YtdkmamiedcanfaaGreatW2
namespace Go.Proofs.YtdkmamiedcanfaaGreat
open Go Go.Fw Go.Shelf
set_option maxRecDepth 100000
set_option maxHeartbeats 4000000
set_option linter.unusedSimpArgs false
set_option linter.unusedVariables false
def F29_l1:List Manager→Nat→Int→Option (Int)
 |[],o1_1,o1_0=>some o1_0
 |xo1::xs,o1_1,o1_0=>F29_l1 xs (o1_1+1) ((IntKind.i64.wrap (o1_0+((xo1.Fields.length:Int)))))
def F29(x0:Object):Option (Int):=(((ck (0≤x0.Meta.Managers.length∧x0.Meta.Managers.length≤4294967290)).bind fun u3=>F29_l1 x0.Meta.Managers 0 ((IntKind.i64.wrap (((IntKind.i64.wrap (((IntKind.i64.wrap (((IntKind.i64.wrap (1+((x0.Meta.Labels.length:Int)))))+((x0.Meta.Owners.length:Int)))))+((x0.Meta.Finalizers.length:Int)))))+((x0.Meta.Managers.length:Int)))))).bind fun o1=>(F54k 1099511627776 x0.Spec).bind fun t4=>(F54k 1099511627776 x0.Status).bind fun t5=>some ((IntKind.i64.wrap (((IntKind.i64.wrap (o1+t4)))+t5))))
def a29:AFn:=⟨52,[(.tmp 2)],
 (.seq (.reg [sq 1 (.box (.t 0)),
sq 2 (.mv (kI 0))])
 (.seq (.reg [sq 5 (.fieldA 0 (.t 1)),
sq 6 (.fieldA 9 (.t 5)),
sq 7 (.load none (.t 6)),
sq 8 (.len (.t 7)),
sq 9 (.bin .add (kI 1) (.t 8)),
sq 10 (.fieldA 0 (.t 1)),
sq 11 (.fieldA 10 (.t 10)),
sq 12 (.load none (.t 11)),
sq 13 (.len (.t 12)),
sq 14 (.bin .add (.t 9) (.t 13)),
sq 15 (.fieldA 0 (.t 1)),
sq 16 (.fieldA 11 (.t 15)),
sq 17 (.load none (.t 16)),
sq 18 (.len (.t 17)),
sq 19 (.bin .add (.t 14) (.t 18)),
sq 20 (.fieldA 0 (.t 1)),
sq 21 (.fieldA 12 (.t 20)),
sq 22 (.load none (.t 21)),
sq 23 (.len (.t 22)),
sq 24 (.bin .add (.t 19) (.t 23)),
sq 3 (.mv (.t 24))])
 (.seq (.seq (.reg [sq 4 (.mv (kI 0))])
 (.sem (.block 0 (.loop (.seq (.seq (.reg [sq 25 (.mv (.t 4)),
sq 26 (.fieldA 0 (.t 1)),
sq 27 (.fieldA 12 (.t 26)),
sq 28 (.load none (.t 27)),
sq 29 (.len (.t 28)),
sq 30 (.bin .lss (.t 25) (.t 29))])
 (.cond (.t 30)
 .skip
 (.exit 0)))
 (.seq (.block 1 (.reg [sq 33 (.mv (.t 3)),
sq 34 (.fieldA 0 (.t 1)),
sq 35 (.fieldA 12 (.t 34)),
sq 36 (.load none (.t 35)),
sq 37 (.mv (.t 4)),
sq 38 (.indexA 2 (.t 36) (.t 37)),
sq 39 (.fieldA 1 (.t 38)),
sq 40 (.load none (.t 39)),
sq 41 (.len (.t 40)),
sq 42 (.bin .add (.t 33) (.t 41)),
sq 3 (.mv (.t 42))]))
 (.reg [sq 31 (.mv (.t 4)),
sq 32 (.bin .add (.t 31) (kI 1)),
sq 4 (.mv (.t 32))])))))))
 (.seq (.regd [sq 43 (.mv (.t 3)),
sq 44 (.fieldA 13 (.t 1)),
sd 45 (.load (some 5) (.t 44)) [1],
zn 46 (.call 54 [(.t 45)]) [1,2] [1,2],
sd 47 (.bin .add (.t 43) (.t 46)) [0,1,2,3],
sq 48 (.fieldA 18 (.t 1)),
sd 49 (.load (some 5) (.t 48)) [5],
zl 50 (.call 54 [(.t 49)]) [1,2,3,5,6] [],
sd 51 (.bin .add (.t 47) (.t 50)) [0,1,2,3,4,5,6,7],
sd 2 (.mv (.t 51)) [0,1,2,3,4,5,6,7,8]])
 .ret))))⟩
theorem F29_ok{x0 r}(h:F29 x0=some r):CallD Tryz.prog 29 [.agg [dS x0.Meta.Kind,dS x0.Meta.Namespace,dS x0.Meta.Name,dI x0.Meta.Uid,dI x0.Meta.Version,dI x0.Meta.Generation,dI x0.Meta.Created,dB x0.Meta.Deleting,dI x0.Meta.DeleteAt,dM (x0.Meta.Labels.map eLabel),dM (x0.Meta.Owners.map eOwner),dM (x0.Meta.Finalizers.map eS),dM (x0.Meta.Managers.map eManager),dI x0.Spec.Kind,dI x0.Spec.N,dS x0.Spec.S,dM (x0.Spec.List_.map eTValue),dM (x0.Spec.Fields.map eTField),dI x0.Status.Kind,dI x0.Status.N,dS x0.Status.S,dM (x0.Status.List_.map eTValue),dM (x0.Status.Fields.map eTField)]] [] (tupV [.c (dI r)]) []:=by
 rw[F29]at h
 refine zc a29 (by kernel_rfl) rfl (ww ?_)
 obtain⟨o1,ho,h⟩:=bi h
 refine cutS (fun s=>s=⟨[(1,.one (.c (.pt 0 0))),(3,.one (.c (dI o1)))],[some (.box [dS x0.Meta.Kind,dS x0.Meta.Namespace,dS x0.Meta.Name,dI x0.Meta.Uid,dI x0.Meta.Version,dI x0.Meta.Generation,dI x0.Meta.Created,dB x0.Meta.Deleting,dI x0.Meta.DeleteAt,dM (x0.Meta.Labels.map eLabel),dM (x0.Meta.Owners.map eOwner),dM (x0.Meta.Finalizers.map eS),dM (x0.Meta.Managers.map eManager),dI x0.Spec.Kind,dI x0.Spec.N,dS x0.Spec.S,dM (x0.Spec.List_.map eTValue),dM (x0.Spec.Fields.map eTField),dI x0.Status.Kind,dI x0.Status.N,dS x0.Status.S,dM (x0.Status.List_.map eTValue),dM (x0.Status.Fields.map eTField)])]⟩) ?_ ?_
 ·have h:=ho
  clear ho
  obtain⟨_,hk,h⟩:=bi h
  have hk:=ck_some hk
  refine ww ?_
  refine bL (fun j s=>∃(o1_1:Nat) (o1_0:Int),(o1_1≤x0.Meta.Managers.length∧j=x0.Meta.Managers.length-o1_1)∧s=⟨[(1,.one (.c (.pt 0 0))),(3,.one (.c (dI o1_0))),(4,.one (.c (dI ((o1_1:Int)))))],[some (.box [dS x0.Meta.Kind,dS x0.Meta.Namespace,dS x0.Meta.Name,dI x0.Meta.Uid,dI x0.Meta.Version,dI x0.Meta.Generation,dI x0.Meta.Created,dB x0.Meta.Deleting,dI x0.Meta.DeleteAt,dM (x0.Meta.Labels.map eLabel),dM (x0.Meta.Owners.map eOwner),dM (x0.Meta.Finalizers.map eS),dM (x0.Meta.Managers.map eManager),dI x0.Spec.Kind,dI x0.Spec.N,dS x0.Spec.S,dM (x0.Spec.List_.map eTValue),dM (x0.Spec.Fields.map eTField),dI x0.Status.Kind,dI x0.Status.N,dS x0.Status.S,dM (x0.Status.List_.map eTValue),dM (x0.Status.Fields.map eTField)])]⟩∧F29_l1 (x0.Meta.Managers.drop o1_1) o1_1 o1_0=some o1) (x0.Meta.Managers.length-0) [some 0] ⟨0,(IntKind.i64.wrap (((IntKind.i64.wrap (((IntKind.i64.wrap (((IntKind.i64.wrap (1+((x0.Meta.Labels.length:Int)))))+((x0.Meta.Owners.length:Int)))))+((x0.Meta.Finalizers.length:Int)))))+((x0.Meta.Managers.length:Int)))),⟨hk.1,rfl⟩,rfl,h⟩ ?_
  rintro _ _ ⟨o1_1,o1_0,⟨hi,rfl⟩,rfl,h⟩
  refine ww ?_
  refine condS (fun c2=>?_) (fun c2=>?_)
  ·obtain⟨xo1,hxo1,hd⟩:=countY (show(o1_1:Int)<(x0.Meta.Managers.length:Int)from c2)
   rw[hd,F29_l1]at h
   refine ww ?_
   refine t_idxF (enc:=eManager) (xs:=x0.Meta.Managers) rfl rfl hxo1 rfl (ww ?_)
   rw[wrapN (by omega)]
   exact eL' (x0.Meta.Managers.length-(o1_1+1)) [some 0] ⟨o1_1+1,(IntKind.i64.wrap (o1_0+((xo1.Fields.length:Int)))),⟨by omega,rfl⟩,rfl,h⟩ (by omega)
  rw[countN (show¬((o1_1:Int)<(x0.Meta.Managers.length:Int))from c2),F29_l1]at h
  refine ww ?_
  cases h
  exact eM [some 0] rfl
 rintro _ rfl
 clear ho
 refine ww ?_
 obtain⟨t4,ht4,h⟩:=bi h
 refine cN [] (F54k_ok 1099511627776 ht4) trivial (ww ?_)
 obtain⟨t5,ht5,h⟩:=bi h
 refine cN [] (F54k_ok 1099511627776 ht5) trivial (ww ?_)
 cases h
 exact eF []
def F121_l2(x0:ByteArray):Nat→Int→Option ((Bool) ⊕ (Unit))
 |0,_=>none
 |k+1,o2_0=>(if o2_0<(x0.size:Int)then(((byI x0 o2_0).bind fun y5=>(F159 y5).bind fun t6=>(if(nb t6)=true then some true else(byI x0 o2_0).bind fun y8=>some (decide (y8=47)))).bind fun o4=>(if o4=true then(some false).map Sum.inl else F121_l2 x0 k ((IntKind.i64.wrap (o2_0+1)))))else some (Sum.inr (())))
def F121(x0:ByteArray):Option (Bool):=(if 40<(x0.size:Int)then some false else((F121_l2 x0 1099511627776 0:Option ((Bool) ⊕ (Unit))).bind fun o2=>match o2 with|Sum.inl f=>some f|Sum.inr po2=>some true))
def a121:AFn:=⟨24,[(.tmp 2)],
 (.seq (.reg [sq 2 (.mv (kB false))])
 (.seq (.seq (.reg [sq 4 (.mv (.t 0)),
sq 5 (.slen (.t 4)),
sq 6 (.bin .gtr (.t 5) (kI 40))])
 (.cond (.t 6)
 (.seq (.reg [sq 2 (.mv (kB false))])
 .ret)
 .skip))
 (.seq (.seq (.reg [sq 3 (.mv (kI 0))])
 (.sem (.block 0 (.loop (.seq (.seq (.reg [sq 7 (.mv (.t 3)),
sq 8 (.mv (.t 0)),
sq 9 (.slen (.t 8)),
sq 10 (.bin .lss (.t 7) (.t 9))])
 (.cond (.t 10)
 .skip
 (.exit 0)))
 (.seq (.block 1 (.seq (.sem (.reg [sq 13 (.mv (.t 0)),
sq 14 (.mv (.t 3)),
sq 15 (.sidx (.t 13) (.t 14)),
sq 16 (.call 159 [(.t 15)]),
sq 17 (.not (.t 16)),
sq 18 (.mv (.t 17)),
zg 19 18 false (.mv (.t 0)),
zg 20 18 false (.mv (.t 3)),
zg 21 18 false (.sidx (.t 19) (.t 20)),
zg 22 18 false (.bin .eql (.t 21) (.k (.c (.d (.v (.int .u8 47)))))),
sq 23 (.pick (.t 18) (kB true) (.t 22))]))
 (.cond (.t 23)
 (.seq (.reg [sq 2 (.mv (kB false))])
 .ret)
 .skip)))
 (.reg [sq 11 (.mv (.t 3)),
sq 12 (.bin .add (.t 11) (kI 1)),
sq 3 (.mv (.t 12))])))))))
 (.seq (.reg [sq 2 (.mv (kB true))])
 .ret))))⟩
theorem F121_ok{x0 r}(h:F121 x0=some r):CallD Tryz.prog 121 [.c (dS x0)] [] (tupV [.c (dB r)]) []:=by
 rw[F121]at h
 refine zc a121 (by kernel_rfl) rfl (ww ?_)
 refine condSh h (fun c1 h=>?_) (fun c1 h=>?_)
 ·refine ww ?_
  cases h
  exact eF []
 refine ww ?_
 obtain⟨o2,ho,h⟩:=bi h
 refine cutS (fun s=>∃po2,o2=Sum.inr po2∧s=⟨[],[]⟩) ?_ ?_
 ·have h0o2:=h
  have h:=ho
  clear ho
  refine ww ?_
  refine bL (fun j s=>∃(o2_0:Int),s=⟨[(0,.one (.c (dS x0))),(3,.one (.c (dI o2_0)))],[]⟩∧F121_l2 x0 j o2_0=some o2) 1099511627776 [] ⟨0,rfl,h⟩ ?_
  rintro j _ ⟨o2_0,rfl,h⟩
  cases j with
  |zero=>cases(show(none:Option _)=some _ from h)
  |succ j=>
   rw[F121_l2]at h
   refine ww ?_
   refine condSh h (fun c3 h=>?_) (fun c3 h=>?_)
   ·refine ww ?_
    obtain⟨o4,ho,h⟩:=bi h
    refine cutS (fun s=>s=⟨[(0,.one (.c (dS x0))),(3,.one (.c (dI o2_0))),(23,.one (.c (dB o4)))],[]⟩) ?_ ?_
    ·have h:=ho
     clear ho
     refine ww ?_
     obtain⟨y5,hy5,h⟩:=bi h
     refine t_sidx rfl rfl hy5 (ww ?_)
     obtain⟨t6,ht6,h⟩:=bi h
     refine cN [] (F159_ok ht6) trivial (ww ?_)
     refine guardSBh h (fun g7 h=>?_) (fun g7 h=>?_)
     ·refine ww ?_
      cases h
      exact eM [] rfl
     ·refine ww ?_
      obtain⟨y8,hy8,h⟩:=bi h
      refine t_sidx rfl rfl hy8 (ww ?_)
      cases h
      exact eM [] rfl
    ·rintro _ rfl
     clear ho
     refine ww ?_
     refine condBh h (fun c9 h=>?_) (fun c9 h=>?_)
     ·refine ww ?_
      obtain⟨fh0o2,hfh0o2,rfl⟩:=Option.map_eq_some_iff.1 h
      have h:=hfh0o2.trans h0o2
      cases h
      exact eF []
     ·refine ww ?_
      exact eL' j [] ⟨(IntKind.i64.wrap (o2_0+1)),rfl,h⟩ (Nat.lt_succ_self _)
   ·refine ww ?_
    cases h
    exact eM [] ⟨_,rfl,rfl⟩
 rintro _ ⟨po2,rfl,rfl⟩
 clear ho
 dsimp only at h
 refine ww ?_
 cases h
 exact eF []
def F165_l1(x0:(List Manager)):List Manager→Nat→Option ((Bool) ⊕ (Unit))
 |[],o1_0=>some (Sum.inr (()))
 |xo1::xs,o1_0=>(((F161 xo1.Name).bind fun t4=>(if(nb t4)=true then some true else(if 0<(o1_0:Int)then(rdI x0 ((IntKind.i64.wrap (((o1_0:Int))-1)))).bind fun y7=>some ((Op.bytesLess xo1.Name.toList y7.Name.toList||decide (xo1.Name=y7.Name)))else some false))).bind fun o3=>(if o3=true then(some false).map Sum.inl else(((if(xo1.Fields.length:Int)<1 then some true else(if 600<(xo1.Fields.length:Int)then some true else(F192 xo1.Fields).bind fun t12=>some (nb t12)))).bind fun o9=>(if o9=true then(some false).map Sum.inl else F165_l1 x0 xs (o1_0+1)))))
def F165(x0:(List Manager)):Option (Bool):=(((ck (0≤x0.length∧x0.length≤4294967290)).bind fun u14=>F165_l1 x0 x0 0:Option ((Bool) ⊕ (Unit))).bind fun o1=>match o1 with|Sum.inl f=>some f|Sum.inr po1=>some (decide ((x0.length:Int)≤16)))
def a165:AFn:=⟨63,[(.tmp 2)],
 (.seq (.reg [sq 2 (.mv (kB false))])
 (.seq (.seq (.reg [sq 3 (.mv (kI 0))])
 (.sem (.block 0 (.loop (.seq (.seq (.reg [sq 4 (.mv (.t 3)),
sq 5 (.mv (.t 0)),
sq 6 (.len (.t 5)),
sq 7 (.bin .lss (.t 4) (.t 6))])
 (.cond (.t 7)
 .skip
 (.exit 0)))
 (.seq (.block 1 (.seq (.seq (.sem (.regd [sq 10 (.mv (.t 0)),
sq 11 (.mv (.t 3)),
sd 12 (.indexA 2 (.t 10) (.t 11)) [0,1],
sd 13 (.fieldA 0 (.t 12)) [0,1,2],
sd 14 (.load none (.t 13)) [0,1,2,3],
zl 15 (.call 161 [(.t 14)]) [0,1,2,3,4] [],
sd 16 (.not (.t 15)) [0,1,2,3,4,5],
sd 17 (.mv (.t 16)) [0,1,2,3,4,5,6],
⟨(some 18),(some (17,false)),.mv (.t 3),[0,1,2,3,4,5,6,7],(.new [])⟩,
⟨(some 19),(some (17,false)),.bin .gtr (.t 18) (kI 0),[0,1,2,3,4,5,6,7,8],(.new [])⟩,
⟨(some 20),(some (17,false)),.mv (.t 19),[0,1,2,3,4,5,6,7,8,9],(.new [])⟩,
⟨(some 21),(some (20,true)),.mv (.t 0),[0,1,2,3,4,5,6,7,8,9,10],(.new [])⟩,
⟨(some 22),(some (20,true)),.mv (.t 3),[0,1,2,3,4,5,6,7,8,9,10],(.new [])⟩,
⟨(some 23),(some (20,true)),.indexA 2 (.t 21) (.t 22),[0,1,2,3,4,5,6,7,8,9,10,11,12],(.new [])⟩,
⟨(some 24),(some (20,true)),.fieldA 0 (.t 23),[0,1,2,3,4,5,6,7,8,9,10,11,12,13],(.new [])⟩,
⟨(some 25),(some (20,true)),.load none (.t 24),[0,1,2,3,4,5,6,7,8,9,10,11,12,13,14],(.new [])⟩,
⟨(some 26),(some (20,true)),.mv (.t 0),[0,1,2,3,4,5,6,7,8,9,10],(.new [])⟩,
⟨(some 27),(some (20,true)),.mv (.t 3),[0,1,2,3,4,5,6,7,8,9,10],(.new [])⟩,
⟨(some 28),(some (20,true)),.bin .sub (.t 27) (kI 1),[0,1,2,3,4,5,6,7,8,9,10,17],(.new [])⟩,
⟨(some 29),(some (20,true)),.indexA 2 (.t 26) (.t 28),[0,1,2,3,4,5,6,7,8,9,10,16,17,18],(.new [])⟩,
⟨(some 30),(some (20,true)),.fieldA 0 (.t 29),[0,1,2,3,4,5,6,7,8,9,10,16,17,18,19],(.new [])⟩,
⟨(some 31),(some (20,true)),.load none (.t 30),[0,1,2,3,4,5,6,7,8,9,10,16,17,18,19,20],(.new [])⟩,
⟨(some 32),(some (20,true)),.bin .leq (.t 25) (.t 31),[0,1,2,3,4,5,6,7,8,9,10,11,12,13,14,15,16,17,18,19,20,21],(.new [])⟩,
⟨(some 33),(some (17,false)),.pick (.t 20) (.t 32) (kB false),[0,1,2,3,4,5,6,7,8,9,10,11,12,13,14,15,16,17,18,19,20,21,22],(.lone [])⟩,
zl 34 (.pick (.t 17) (kB true) (.t 33)) [0,1,2,3,4,5,6,7,8,9,10,11,12,13,14,15,16,17,18,19,20,21,22,23] []]))
 (.cond (.t 34)
 (.seq (.reg [sq 2 (.mv (kB false))])
 .ret)
 .skip))
 (.seq (.sem (.reg [sq 35 (.mv (.t 0)),
sq 36 (.mv (.t 3)),
sq 37 (.indexA 2 (.t 35) (.t 36)),
sq 38 (.fieldA 1 (.t 37)),
sq 39 (.load none (.t 38)),
sq 40 (.len (.t 39)),
sq 41 (.bin .lss (.t 40) (kI 1)),
sq 42 (.mv (.t 41)),
zg 43 42 false (.mv (.t 0)),
zg 44 42 false (.mv (.t 3)),
zg 45 42 false (.indexA 2 (.t 43) (.t 44)),
zg 46 42 false (.fieldA 1 (.t 45)),
zg 47 42 false (.load none (.t 46)),
zg 48 42 false (.len (.t 47)),
zg 49 42 false (.bin .gtr (.t 48) (kI 600)),
sq 50 (.pick (.t 42) (kB true) (.t 49)),
sq 51 (.mv (.t 50)),
zg 52 51 false (.mv (.t 0)),
zg 53 51 false (.mv (.t 3)),
zg 54 51 false (.indexA 2 (.t 52) (.t 53)),
zg 55 51 false (.fieldA 1 (.t 54)),
zg 56 51 false (.load none (.t 55)),
zg 57 51 false (.call 192 [(.t 56)]),
zg 58 51 false (.not (.t 57)),
sq 59 (.pick (.t 51) (kB true) (.t 58))]))
 (.cond (.t 59)
 (.seq (.reg [sq 2 (.mv (kB false))])
 .ret)
 .skip))))
 (.reg [sq 8 (.mv (.t 3)),
sq 9 (.bin .add (.t 8) (kI 1)),
sq 3 (.mv (.t 9))])))))))
 (.seq (.reg [sq 60 (.mv (.t 0)),
sq 61 (.len (.t 60)),
sq 62 (.bin .leq (.t 61) (kI 16)),
sq 2 (.mv (.t 62))])
 .ret)))⟩
theorem F165_ok{x0 r}(h:F165 x0=some r):CallD Tryz.prog 165 [.c (dM (x0.map eManager))] [] (tupV [.c (dB r)]) []:=by
 rw[F165]at h
 refine zc a165 (by kernel_rfl) rfl (ww ?_)
 obtain⟨o1,ho,h⟩:=bi h
 refine cutS (fun s=>∃po1,o1=Sum.inr po1∧s=⟨[(0,.one (.c (dM (x0.map eManager))))],[]⟩) ?_ ?_
 ·have h0o1:=h
  have h:=ho
  clear ho
  obtain⟨_,hk,h⟩:=bi h
  have hk:=ck_some hk
  refine ww ?_
  refine bL (fun j s=>∃(o1_0:Nat),(o1_0≤x0.length∧j=x0.length-o1_0)∧s=⟨[(0,.one (.c (dM (x0.map eManager)))),(3,.one (.c (dI ((o1_0:Int)))))],[]⟩∧F165_l1 x0 (x0.drop o1_0) o1_0=some o1) (x0.length-0) [] ⟨0,⟨hk.1,rfl⟩,rfl,h⟩ ?_
  rintro _ _ ⟨o1_0,⟨hi,rfl⟩,rfl,h⟩
  refine ww ?_
  refine condS (fun c2=>?_) (fun c2=>?_)
  ·obtain⟨xo1,hxo1,hd⟩:=countY (show(o1_0:Int)<(x0.length:Int)from c2)
   rw[hd,F165_l1]at h
   refine ww ?_
   obtain⟨o3,ho,h⟩:=bi h
   refine cutS (fun s=>s=⟨[(0,.one (.c (dM (x0.map eManager)))),(3,.one (.c (dI ((o1_0:Int))))),(34,.one (.c (dB o3)))],[]⟩) ?_ ?_
   ·have h:=ho
    clear ho
    refine ww ?_
    refine t_idxF (enc:=eManager) (xs:=x0) rfl rfl hxo1 rfl (ww ?_)
    obtain⟨t4,ht4,h⟩:=bi h
    refine cN [] (F161_ok ht4) trivial (ww ?_)
    refine guardDBh h (fun g5 h=>?_) (fun g5 h=>?_)
    ·refine ww ?_
     cases h
     exact eM [] rfl
    refine ww ?_
    refine guardDh h (fun g6 h=>?_) (fun g6 h=>?_)
    ·refine ww ?_
     refine t_idxF (enc:=eManager) (xs:=x0) rfl rfl hxo1 rfl (ww ?_)
     obtain⟨y7,hy7,h⟩:=bi h
     refine t_idxF (enc:=eManager) (xs:=x0) rfl rfl hy7 rfl (ww ?_)
     cases h
     exact eM [] rfl
    refine ww ?_
    cases h
    exact eM [] rfl
   rintro _ rfl
   clear ho
   refine ww ?_
   refine condBh h (fun c8 h=>?_) (fun c8 h=>?_)
   ·refine ww ?_
    obtain⟨fh0o1,hfh0o1,rfl⟩:=Option.map_eq_some_iff.1 h
    have h:=hfh0o1.trans h0o1
    cases h
    exact eF []
   refine ww ?_
   obtain⟨o9,ho,h⟩:=bi h
   refine cutS (fun s=>s=⟨[(0,.one (.c (dM (x0.map eManager)))),(3,.one (.c (dI ((o1_0:Int))))),(59,.one (.c (dB o9)))],[]⟩) ?_ ?_
   ·have h:=ho
    clear ho
    refine ww ?_
    refine t_idxF (enc:=eManager) (xs:=x0) rfl rfl hxo1 rfl (ww ?_)
    refine guardSh h (fun g10 h=>?_) (fun g10 h=>?_)
    ·refine ww ?_
     cases h
     exact eM [] rfl
    refine ww ?_
    refine t_idxF (enc:=eManager) (xs:=x0) rfl rfl hxo1 rfl (ww ?_)
    refine guardSh h (fun g11 h=>?_) (fun g11 h=>?_)
    ·refine ww ?_
     cases h
     exact eM [] rfl
    refine ww ?_
    refine t_idxF (enc:=eManager) (xs:=x0) rfl rfl hxo1 rfl (ww ?_)
    obtain⟨t12,ht12,h⟩:=bi h
    refine cN [] (F192_ok ht12) trivial (ww ?_)
    cases h
    exact eM [] rfl
   rintro _ rfl
   clear ho
   refine ww ?_
   refine condBh h (fun c13 h=>?_) (fun c13 h=>?_)
   ·refine ww ?_
    obtain⟨fh0o1,hfh0o1,rfl⟩:=Option.map_eq_some_iff.1 h
    have h:=hfh0o1.trans h0o1
    cases h
    exact eF []
   refine ww ?_
   rw[wrapN (by omega)]
   exact eL' (x0.length-(o1_0+1)) [] ⟨o1_0+1,⟨by omega,rfl⟩,rfl,h⟩ (by omega)
  rw[countN (show¬((o1_0:Int)<(x0.length:Int))from c2),F165_l1]at h
  refine ww ?_
  cases h
  exact eM [] ⟨_,rfl,rfl⟩
 rintro _ ⟨po1,rfl,rfl⟩
 clear ho
 dsimp only at h
 refine ww ?_
 cases h
 exact eF []
def F34_l2:List Requirement→Nat→(List Requirement)→Option ((List Requirement))
 |[],o2_1,o2_0=>some o2_0
 |xo2::xs,o2_1,o2_0=>(rdI o2_0 ((o2_1:Int))).bind fun y4=>(cloneI y4.Values).bind fun t5=>(rdI o2_0 ((o2_1:Int))).bind fun y6=>F34_l2 xs (o2_1+1) ((o2_0.set ((o2_1:Int)).toNat ((⟨y6.Key,y6.Op,t5⟩:Requirement))))
def F34(x0:Filter):Option ((List Requirement)):=(cloneI x0.Selector).bind fun t1=>(((ck (0≤t1.length∧t1.length≤4294967290)).bind fun u7=>F34_l2 t1 0 t1).bind fun o2=>some o2)
def a34:AFn:=⟨28,[(.cell 2 (some 3))],
 (.seq (.reg [sq 1 (.box (.t 0)),
sq 2 (.zbox [dS ⟨#[]⟩,dS ⟨#[]⟩,dN])])
 (.seq (.reg [sq 4 (.fieldA 2 (.t 1)),
sq 5 (.load none (.t 4)),
sq 6 (.call 60 [(.t 5)]),
sq 7 (.fieldA 2 (.t 1)),
su (.store 1 (.t 7) (.t 6))])
 (.seq (.seq (.reg [sq 8 (.fieldA 2 (.t 1)),
sq 9 (.load none (.t 8)),
sq 10 (.len (.t 9)),
sq 11 (.mv (kI 0))])
 (.sem (.block 0 (.loop (.seq (.reg [sq 12 (.bin .lss (.t 11) (.t 10))])
 (.seq (.cond (.t 12)
 .skip
 (.exit 0))
 (.seq (.block 1 (.seq (.reg [sq 13 (.mv (.t 11)),
sq 3 (.mv (.t 13))])
 (.regd [sq 14 (.fieldA 2 (.t 1)),
sd 15 (.load none (.t 14)) [0],
sq 16 (.mv (.t 3)),
sq 17 (.fieldA 2 (.t 1)),
sd 18 (.load none (.t 17)) [3],
sq 19 (.mv (.t 3)),
sd 20 (.indexA 3 (.t 18) (.t 19)) [3,4,5],
sd 21 (.fieldA 2 (.t 20)) [3,4,5,6],
sd 22 (.load none (.t 21)) [3,4,5,6,7],
zl 23 (.call 61 [(.t 22)]) [3,4,5,6,7,8] [1,14],
sd 24 (.indexA 3 (.t 15) (.t 16)) [0,1,2,3,4,5,6,7,8,9],
sd 25 (.fieldA 2 (.t 24)) [0,1,2,3,4,5,6,7,8,9,10],
⟨none,none,.store 1 (.t 25) (.t 23),[0,1,2,3,4,5,6,7,8,9,10,11],(.lone [])⟩])))
 (.reg [sq 26 (.bin .add (.t 11) (kI 1)),
sq 11 (.mv (.t 26))]))))))))
 (.seq (.reg [sq 27 (.load (some 3) (.t 1)),
⟨none,none,.store 3 (.t 2) (.t 27),[],(.lone [1])⟩])
 .ret))))⟩
theorem F34_ok{x0 r}(h:F34 x0=some r):CallD Tryz.prog 34 [.agg [dS x0.Kind,dS x0.Namespace,dM (x0.Selector.map eRequirement)]] [] (tupV [.agg [dS x0.Kind,dS x0.Namespace,.own 0 0 0 (r.length) none]]) [some (.arr 0 3 (r.map eRequirement))]:=by
 rw[F34]at h
 refine zc a34 (by kernel_rfl) rfl (ww ?_)
 obtain⟨t1,ht1,h⟩:=bi h
 refine cN [] (F60_ok ht1) trivial (ww ?_)
 obtain⟨o2,ho,h⟩:=bi h
 refine cutS (fun s=>s=⟨[(1,.one (.c (.pt 0 0))),(2,.one (.c (.pt 2 0)))],[some (.box [dS x0.Kind,dS x0.Namespace,.own 1 0 0 (o2.length) none]),some (.arr 0 3 (o2.map eRequirement)),some (.box [dS ((⟨#[]⟩:ByteArray)),dS ((⟨#[]⟩:ByteArray)),dN])]⟩) ?_ ?_
 ·have h:=ho
  clear ho
  obtain⟨_,hk,h⟩:=bi h
  have hk:=ck_some hk
  refine ww ?_
  refine bL (fun j s=>∃(o2_1:Nat) (o2_0:List Requirement),(o2_1≤t1.length∧j=t1.length-o2_1)∧s=⟨[(1,.one (.c (.pt 0 0))),(2,.one (.c (.pt 2 0))),(10,.one (.c (dI ((t1.length:Int))))),(11,.one (.c (dI ((o2_1:Int)))))],[some (.box [dS x0.Kind,dS x0.Namespace,.own 1 0 0 (o2_0.length) none]),some (.arr 0 3 (o2_0.map eRequirement)),some (.box [dS ((⟨#[]⟩:ByteArray)),dS ((⟨#[]⟩:ByteArray)),dN])]⟩∧F34_l2 (t1.drop o2_1) o2_1 o2_0=some o2) (t1.length-0) [some 0,some 2,some 1] ⟨0,t1,⟨hk.1,rfl⟩,rfl,h⟩ ?_
  rintro _ _ ⟨o2_1,o2_0,⟨hi,rfl⟩,rfl,h⟩
  refine ww ?_
  refine condS (fun c3=>?_) (fun c3=>?_)
  ·obtain⟨xo2,hxo2,hd⟩:=countY (show(o2_1:Int)<(t1.length:Int)from c3)
   rw[hd,F34_l2]at h
   refine ww ?_
   obtain⟨y4,hy4,h⟩:=bi h
   refine t_idxO (enc:=eRequirement) (xs:=o2_0) rfl rfl rfl (by first|rfl|simp only[List.length_set]|exact(clrL_len (slI_len (by assumption))).symm) hy4 (ww ?_)
   refine LdRow.rd (rdI_some hy4).2.1 (ww ?_)
   obtain⟨t5,ht5,h⟩:=bi h
   refine cN [] (F61_ok ht5) trivial (ww ?_)
   obtain⟨y6,hy6,h⟩:=bi h
   refine t_idxO (enc:=eRequirement) (xs:=o2_0) rfl rfl rfl (by first|rfl|simp only[List.length_set]|exact(clrL_len (slI_len (by assumption))).symm) hy6 (ww ?_)
   refine StRow.rd (y':=(⟨y6.Key,y6.Op,t5⟩:Requirement)) (rdI_some hy6).2.1 (by simp[EE.down]) (by first|rfl|(simp only[bor_full'];rfl)) (ww ?_)
   rw[wrapN (by omega)]
   exact eL' (t1.length-(o2_1+1)) [some 0,some 1,some 2] ⟨o2_1+1,(o2_0.set ((o2_1:Int)).toNat ((⟨y6.Key,y6.Op,t5⟩:Requirement))),⟨by omega,rfl⟩,rfl,h⟩ (by omega)
  rw[countN (show¬((o2_1:Int)<(t1.length:Int))from c3),F34_l2]at h
  refine ww ?_
  cases h
  exact eM [some 0,some 1,some 2] rfl
 rintro _ rfl
 clear ho
 refine ww ?_
 cases h
 exact eF [some 1]
def F112_l8(x0:ByteArray):Nat→Int→Option ((Bool) ⊕ (Unit))
 |0,_=>none
 |k+1,o8_0=>(if o8_0<(x0.size:Int)then(byI x0 o8_0).bind fun y10=>(F155 y10).bind fun t11=>(if(nb t11)=true then(some false).map Sum.inl else F112_l8 x0 k ((IntKind.i64.wrap (o8_0+1))))else some (Sum.inr (())))
def F112(x0:ByteArray):Option (Bool):=(((if x0=(⟨#[]⟩:ByteArray)then some true else(if 40<(x0.size:Int)then some true else(byI x0 0).bind fun y4=>(if y4<97 then some true else(byI x0 0).bind fun y6=>some (decide (122<y6)))))).bind fun o1=>(if o1=true then some false else((F112_l8 x0 1099511627776 0:Option ((Bool) ⊕ (Unit))).bind fun o8=>match o8 with|Sum.inl f=>some f|Sum.inr po8=>some true)))
def a112:AFn:=⟨32,[(.tmp 2)],
 (.seq (.reg [sq 2 (.mv (kB false))])
 (.seq (.seq (.sem (.reg [sq 4 (.mv (.t 0)),
sq 5 (.bin .eql (.t 4) (kS ⟨#[]⟩)),
sq 6 (.mv (.t 5)),
zg 7 6 false (.mv (.t 0)),
zg 8 6 false (.slen (.t 7)),
zg 9 6 false (.bin .gtr (.t 8) (kI 40)),
sq 10 (.pick (.t 6) (kB true) (.t 9)),
sq 11 (.mv (.t 10)),
zg 12 11 false (.mv (.t 0)),
zg 13 11 false (.sidx (.t 12) (kI 0)),
zg 14 11 false (.bin .lss (.t 13) (.k (.c (.d (.v (.int .u8 97)))))),
sq 15 (.pick (.t 11) (kB true) (.t 14)),
sq 16 (.mv (.t 15)),
zg 17 16 false (.mv (.t 0)),
zg 18 16 false (.sidx (.t 17) (kI 0)),
zg 19 16 false (.bin .gtr (.t 18) (.k (.c (.d (.v (.int .u8 122)))))),
sq 20 (.pick (.t 16) (kB true) (.t 19))]))
 (.cond (.t 20)
 (.seq (.reg [sq 2 (.mv (kB false))])
 .ret)
 .skip))
 (.seq (.seq (.reg [sq 21 (.mv (.t 0)),
sq 22 (.slen (.t 21)),
sq 23 (.mv (kI 0))])
 (.sem (.block 0 (.loop (.seq (.reg [sq 24 (.bin .lss (.t 23) (.t 22))])
 (.seq (.cond (.t 24)
 .skip
 (.exit 0))
 (.seq (.block 1 (.seq (.reg [sq 25 (.mv (.t 23)),
sq 3 (.mv (.t 25))])
 (.seq (.reg [sq 26 (.mv (.t 0)),
sq 27 (.mv (.t 3)),
sq 28 (.sidx (.t 26) (.t 27)),
sq 29 (.call 155 [(.t 28)]),
sq 30 (.not (.t 29))])
 (.cond (.t 30)
 (.seq (.reg [sq 2 (.mv (kB false))])
 .ret)
 .skip))))
 (.reg [sq 31 (.bin .add (.t 23) (kI 1)),
sq 23 (.mv (.t 31))]))))))))
 (.seq (.reg [sq 2 (.mv (kB true))])
 .ret))))⟩
theorem F112_ok{x0 r}(h:F112 x0=some r):CallD Tryz.prog 112 [.c (dS x0)] [] (tupV [.c (dB r)]) []:=by
 rw[F112]at h
 refine zc a112 (by kernel_rfl) rfl (ww ?_)
 obtain⟨o1,ho,h⟩:=bi h
 refine cutS (fun s=>s=⟨[(0,.one (.c (dS x0))),(20,.one (.c (dB o1)))],[]⟩) ?_ ?_
 ·have h:=ho
  clear ho
  refine ww ?_
  refine guardSh h (fun g2 h=>?_) (fun g2 h=>?_)
  ·refine ww ?_
   cases h
   exact eM [] rfl
  refine ww ?_
  refine guardSh h (fun g3 h=>?_) (fun g3 h=>?_)
  ·refine ww ?_
   cases h
   exact eM [] rfl
  refine ww ?_
  obtain⟨y4,hy4,h⟩:=bi h
  refine t_sidx rfl rfl hy4 (ww ?_)
  refine guardSh h (fun g5 h=>?_) (fun g5 h=>?_)
  ·refine ww ?_
   cases h
   exact eM [] rfl
  refine ww ?_
  obtain⟨y6,hy6,h⟩:=bi h
  refine t_sidx rfl rfl hy6 (ww ?_)
  cases h
  exact eM [] rfl
 rintro _ rfl
 clear ho
 refine ww ?_
 refine condBh h (fun c7 h=>?_) (fun c7 h=>?_)
 ·refine ww ?_
  cases h
  exact eF []
 refine ww ?_
 obtain⟨o8,ho,h⟩:=bi h
 refine cutS (fun s=>∃po8,o8=Sum.inr po8∧s=⟨[],[]⟩) ?_ ?_
 ·have h0o8:=h
  have h:=ho
  clear ho
  refine ww ?_
  refine bL (fun j s=>∃(o8_0:Int),s=⟨[(0,.one (.c (dS x0))),(22,.one (.c (dI ((x0.size:Int))))),(23,.one (.c (dI o8_0)))],[]⟩∧F112_l8 x0 j o8_0=some o8) 1099511627776 [] ⟨0,rfl,h⟩ ?_
  rintro j _ ⟨o8_0,rfl,h⟩
  cases j with
  |zero=>cases(show(none:Option _)=some _ from h)
  |succ j=>
   rw[F112_l8]at h
   refine ww ?_
   refine condSh h (fun c9 h=>?_) (fun c9 h=>?_)
   ·refine ww ?_
    obtain⟨y10,hy10,h⟩:=bi h
    refine t_sidx rfl rfl hy10 (ww ?_)
    obtain⟨t11,ht11,h⟩:=bi h
    refine cN [] (F155_ok ht11) trivial (ww ?_)
    refine condBh h (fun c12 h=>?_) (fun c12 h=>?_)
    ·refine ww ?_
     obtain⟨fh0o8,hfh0o8,rfl⟩:=Option.map_eq_some_iff.1 h
     have h:=hfh0o8.trans h0o8
     cases h
     exact eF []
    ·refine ww ?_
     exact eL' j [] ⟨(IntKind.i64.wrap (o8_0+1)),rfl,h⟩ (Nat.lt_succ_self _)
   ·refine ww ?_
    cases h
    exact eM [] ⟨_,rfl,rfl⟩
 rintro _ ⟨po8,rfl,rfl⟩
 clear ho
 dsimp only at h
 refine ww ?_
 cases h
 exact eF []
def F114_l2(x0:ByteArray):Nat→Int→Option ((Bool) ⊕ (Unit))
 |0,_=>none
 |k+1,o2_0=>(if o2_0<(x0.size:Int)then(((byI x0 o2_0).bind fun y5=>(F155 y5).bind fun t6=>(if(nb t6)=true then some true else(byI x0 o2_0).bind fun y8=>some (decide (y8=47)))).bind fun o4=>(if o4=true then(some false).map Sum.inl else F114_l2 x0 k ((IntKind.i64.wrap (o2_0+1)))))else some (Sum.inr (())))
def F114(x0:ByteArray):Option (Bool):=(if 40<(x0.size:Int)then some false else((F114_l2 x0 1099511627776 0:Option ((Bool) ⊕ (Unit))).bind fun o2=>match o2 with|Sum.inl f=>some f|Sum.inr po2=>some true))
def a114:AFn:=⟨24,[(.tmp 2)],
 (.seq (.reg [sq 2 (.mv (kB false))])
 (.seq (.seq (.reg [sq 4 (.mv (.t 0)),
sq 5 (.slen (.t 4)),
sq 6 (.bin .gtr (.t 5) (kI 40))])
 (.cond (.t 6)
 (.seq (.reg [sq 2 (.mv (kB false))])
 .ret)
 .skip))
 (.seq (.seq (.reg [sq 7 (.mv (.t 0)),
sq 8 (.slen (.t 7)),
sq 9 (.mv (kI 0))])
 (.sem (.block 0 (.loop (.seq (.reg [sq 10 (.bin .lss (.t 9) (.t 8))])
 (.seq (.cond (.t 10)
 .skip
 (.exit 0))
 (.seq (.block 1 (.seq (.reg [sq 11 (.mv (.t 9)),
sq 3 (.mv (.t 11))])
 (.seq (.sem (.reg [sq 12 (.mv (.t 0)),
sq 13 (.mv (.t 3)),
sq 14 (.sidx (.t 12) (.t 13)),
sq 15 (.call 155 [(.t 14)]),
sq 16 (.not (.t 15)),
sq 17 (.mv (.t 16)),
zg 18 17 false (.mv (.t 0)),
zg 19 17 false (.mv (.t 3)),
zg 20 17 false (.sidx (.t 18) (.t 19)),
zg 21 17 false (.bin .eql (.t 20) (.k (.c (.d (.v (.int .u8 47)))))),
sq 22 (.pick (.t 17) (kB true) (.t 21))]))
 (.cond (.t 22)
 (.seq (.reg [sq 2 (.mv (kB false))])
 .ret)
 .skip))))
 (.reg [sq 23 (.bin .add (.t 9) (kI 1)),
sq 9 (.mv (.t 23))]))))))))
 (.seq (.reg [sq 2 (.mv (kB true))])
 .ret))))⟩
theorem F114_ok{x0 r}(h:F114 x0=some r):CallD Tryz.prog 114 [.c (dS x0)] [] (tupV [.c (dB r)]) []:=by
 rw[F114]at h
 refine zc a114 (by kernel_rfl) rfl (ww ?_)
 refine condSh h (fun c1 h=>?_) (fun c1 h=>?_)
 ·refine ww ?_
  cases h
  exact eF []
 refine ww ?_
 obtain⟨o2,ho,h⟩:=bi h
 refine cutS (fun s=>∃po2,o2=Sum.inr po2∧s=⟨[],[]⟩) ?_ ?_
 ·have h0o2:=h
  have h:=ho
  clear ho
  refine ww ?_
  refine bL (fun j s=>∃(o2_0:Int),s=⟨[(0,.one (.c (dS x0))),(8,.one (.c (dI ((x0.size:Int))))),(9,.one (.c (dI o2_0)))],[]⟩∧F114_l2 x0 j o2_0=some o2) 1099511627776 [] ⟨0,rfl,h⟩ ?_
  rintro j _ ⟨o2_0,rfl,h⟩
  cases j with
  |zero=>cases(show(none:Option _)=some _ from h)
  |succ j=>
   rw[F114_l2]at h
   refine ww ?_
   refine condSh h (fun c3 h=>?_) (fun c3 h=>?_)
   ·refine ww ?_
    obtain⟨o4,ho,h⟩:=bi h
    refine cutS (fun s=>s=⟨[(0,.one (.c (dS x0))),(8,.one (.c (dI ((x0.size:Int))))),(9,.one (.c (dI o2_0))),(22,.one (.c (dB o4)))],[]⟩) ?_ ?_
    ·have h:=ho
     clear ho
     refine ww ?_
     obtain⟨y5,hy5,h⟩:=bi h
     refine t_sidx rfl rfl hy5 (ww ?_)
     obtain⟨t6,ht6,h⟩:=bi h
     refine cN [] (F155_ok ht6) trivial (ww ?_)
     refine guardSBh h (fun g7 h=>?_) (fun g7 h=>?_)
     ·refine ww ?_
      cases h
      exact eM [] rfl
     ·refine ww ?_
      obtain⟨y8,hy8,h⟩:=bi h
      refine t_sidx rfl rfl hy8 (ww ?_)
      cases h
      exact eM [] rfl
    ·rintro _ rfl
     clear ho
     refine ww ?_
     refine condBh h (fun c9 h=>?_) (fun c9 h=>?_)
     ·refine ww ?_
      obtain⟨fh0o2,hfh0o2,rfl⟩:=Option.map_eq_some_iff.1 h
      have h:=hfh0o2.trans h0o2
      cases h
      exact eF []
     ·refine ww ?_
      exact eL' j [] ⟨(IntKind.i64.wrap (o2_0+1)),rfl,h⟩ (Nat.lt_succ_self _)
   ·refine ww ?_
    cases h
    exact eM [] ⟨_,rfl,rfl⟩
 rintro _ ⟨po2,rfl,rfl⟩
 clear ho
 dsimp only at h
 refine ww ?_
 cases h
 exact eF []
def F68_l3(rc52:TValue→Option ((List TValue)×(List TField))):List TValue→Nat→(List TValue)→Option ((List TValue))
 |[],o3_1,o3_0=>some o3_0
 |xo3::xs,o3_1,o3_0=>(rdI o3_0 ((o3_1:Int))).bind fun y5=>(rc52 y5).bind fun t6=>(rdI o3_0 ((o3_1:Int))).bind fun y7=>F68_l3 rc52 xs (o3_1+1) ((o3_0.set ((o3_1:Int)).toNat ((⟨y5.Kind,y5.N,y5.S,t6.1,t6.2⟩:TValue))))
def F68_l9(rc52:TValue→Option ((List TValue)×(List TField))):List TField→Nat→(List TField)→Option ((List TField))
 |[],o9_1,o9_0=>some o9_0
 |xo9::xs,o9_1,o9_0=>(rdI o9_0 ((o9_1:Int))).bind fun y11=>(rc52 y11.V).bind fun t12=>(rdI o9_0 ((o9_1:Int))).bind fun y13=>F68_l9 rc52 xs (o9_1+1) ((o9_0.set ((o9_1:Int)).toNat ((⟨y13.Name,(⟨y11.V.Kind,y11.V.N,y11.V.S,t12.1,t12.2⟩:TValue)⟩:TField))))
def F68(rc52:TValue→Option ((List TValue)×(List TField)))(x0:TValue):Option ((List TValue)×(List TField)):=(cloneI x0.List_).bind fun t1=>(cloneI x0.Fields).bind fun t2=>(((ck (0≤t1.length∧t1.length≤4294967290)).bind fun u8=>F68_l3 rc52 t1 0 t1).bind fun o3=>(((ck (0≤t2.length∧t2.length≤4294967290)).bind fun u14=>F68_l9 rc52 t2 0 t2).bind fun o9=>some ((o3,o9))))
def a68:AFn:=⟨50,[(.cell 2 (some 5))],
 (.seq (.reg [sq 1 (.box (.t 0)),
sq 2 (.zbox [dI 0,dI 0,dS ⟨#[]⟩,dN,dN])])
 (.seq (.regd [sq 5 (.fieldA 3 (.t 1)),
sd 6 (.load none (.t 5)) [0],
zn 7 (.call 99 [(.t 6)]) [0,1] [0,1],
sq 8 (.fieldA 4 (.t 1)),
sd 9 (.load none (.t 8)) [3],
sd 10 (.call 100 [(.t 9)]) [0,1,2,3,4],
sd 11 (.fieldA 3 (.t 1)) [0,1,2,3,4],
⟨none,none,.store 1 (.t 11) (.t 7),[0,1,2,3,4,5,6],(.lone [])⟩,
sd 12 (.fieldA 4 (.t 1)) [0,1,2,3,4,5,6,7],
⟨none,none,.store 1 (.t 12) (.t 10),[0,1,2,3,4,5,6,7,8],(.lone [])⟩])
 (.seq (.seq (.reg [sq 13 (.fieldA 3 (.t 1)),
sq 14 (.load none (.t 13)),
sq 15 (.len (.t 14)),
sq 16 (.mv (kI 0))])
 (.sem (.block 0 (.loop (.seq (.reg [sq 17 (.bin .lss (.t 16) (.t 15))])
 (.seq (.cond (.t 17)
 .skip
 (.exit 0))
 (.seq (.block 1 (.seq (.reg [sq 18 (.mv (.t 16)),
sq 3 (.mv (.t 18))])
 (.regd [sq 19 (.fieldA 3 (.t 1)),
sd 20 (.load none (.t 19)) [0],
sq 21 (.mv (.t 3)),
sq 22 (.fieldA 3 (.t 1)),
sd 23 (.load none (.t 22)) [3],
sq 24 (.mv (.t 3)),
sd 25 (.indexA 5 (.t 23) (.t 24)) [3,4,5],
sd 26 (.load (some 5) (.t 25)) [3,4,5,6],
zl 27 (.call 68 [(.t 26)]) [3,4,5,6,7] [1,19],
sd 28 (.indexA 5 (.t 20) (.t 21)) [0,1,2,3,4,5,6,7,8],
⟨none,none,.store 5 (.t 28) (.t 27),[0,1,2,3,4,5,6,7,8,9],(.lone [])⟩])))
 (.reg [sq 29 (.bin .add (.t 16) (kI 1)),
sq 16 (.mv (.t 29))]))))))))
 (.seq (.seq (.reg [sq 30 (.fieldA 4 (.t 1)),
sq 31 (.load none (.t 30)),
sq 32 (.len (.t 31)),
sq 33 (.mv (kI 0))])
 (.sem (.block 2 (.loop (.seq (.reg [sq 34 (.bin .lss (.t 33) (.t 32))])
 (.seq (.cond (.t 34)
 .skip
 (.exit 2))
 (.seq (.block 3 (.seq (.reg [sq 35 (.mv (.t 33)),
sq 4 (.mv (.t 35))])
 (.regd [sq 36 (.fieldA 4 (.t 1)),
sd 37 (.load none (.t 36)) [0],
sq 38 (.mv (.t 4)),
sq 39 (.fieldA 4 (.t 1)),
sd 40 (.load none (.t 39)) [3],
sq 41 (.mv (.t 4)),
sd 42 (.indexA 6 (.t 40) (.t 41)) [3,4,5],
sd 43 (.fieldA 1 (.t 42)) [3,4,5,6],
sd 44 (.load (some 5) (.t 43)) [3,4,5,6,7],
zl 45 (.call 68 [(.t 44)]) [3,4,5,6,7,8] [1,36],
sd 46 (.indexA 6 (.t 37) (.t 38)) [0,1,2,3,4,5,6,7,8,9],
sd 47 (.fieldA 1 (.t 46)) [0,1,2,3,4,5,6,7,8,9,10],
⟨none,none,.store 5 (.t 47) (.t 45),[0,1,2,3,4,5,6,7,8,9,10,11],(.lone [])⟩])))
 (.reg [sq 48 (.bin .add (.t 33) (kI 1)),
sq 33 (.mv (.t 48))]))))))))
 (.seq (.reg [sq 49 (.load (some 5) (.t 1)),
⟨none,none,.store 5 (.t 2) (.t 49),[],(.lone [1])⟩])
 .ret)))))⟩
theorem F68_ok{rc52:TValue→Option ((List TValue)×(List TField))}(ih52:∀{x0:TValue} {r:(List TValue)×(List TField)} (h:rc52 x0=some r),CallD Tryz.prog 68 [.agg [dI x0.Kind,dI x0.N,dS x0.S,dM (x0.List_.map eTValue),dM (x0.Fields.map eTField)]] [] (tupV [.agg [dI x0.Kind,dI x0.N,dS x0.S,.own 0 0 0 (r.1.length) none,.own 1 0 0 (r.2.length) none]]) [some (.arr 0 5 (r.1.map eTValue)),some (.arr 0 6 (r.2.map eTField))]){x0:TValue}{r:(List TValue)×(List TField)}(h:F68 rc52 x0=some r):CallD Tryz.prog 68 [.agg [dI x0.Kind,dI x0.N,dS x0.S,dM (x0.List_.map eTValue),dM (x0.Fields.map eTField)]] [] (tupV [.agg [dI x0.Kind,dI x0.N,dS x0.S,.own 0 0 0 (r.1.length) none,.own 1 0 0 (r.2.length) none]]) [some (.arr 0 5 (r.1.map eTValue)),some (.arr 0 6 (r.2.map eTField))]:=by
 rw[F68]at h
 refine zc a68 (by kernel_rfl) rfl (ww ?_)
 obtain⟨t1,ht1,h⟩:=bi h
 refine cN [] (F99_ok ht1) trivial (ww ?_)
 refine kD_new (by simp[wrs,allW,hset]) (ww ?_)
 obtain⟨t2,ht2,h⟩:=bi h
 refine cN [] (F100_ok ht2) trivial (ww ?_)
 refine kD_new (by simp[wrs,allW,hset]) (ww ?_)
 obtain⟨o3,ho,h⟩:=bi h
 refine cutS (fun s=>s=⟨[(1,.one (.c (.pt 0 0))),(2,.one (.c (.pt 3 0)))],[some (.box [dI x0.Kind,dI x0.N,dS x0.S,.own 1 0 0 (o3.length) none,.own 2 0 0 (t2.length) none]),some (.arr 0 5 (o3.map eTValue)),some (.arr 0 6 (t2.map eTField)),some (.box [dI 0,dI 0,dS ((⟨#[]⟩:ByteArray)),dN,dN])]⟩) ?_ ?_
 ·have h:=ho
  clear ho
  obtain⟨_,hk,h⟩:=bi h
  have hk:=ck_some hk
  refine ww ?_
  refine bL (fun j s=>∃(o3_1:Nat) (o3_0:List TValue),(o3_1≤t1.length∧j=t1.length-o3_1)∧s=⟨[(1,.one (.c (.pt 0 0))),(2,.one (.c (.pt 3 0))),(15,.one (.c (dI ((t1.length:Int))))),(16,.one (.c (dI ((o3_1:Int)))))],[some (.box [dI x0.Kind,dI x0.N,dS x0.S,.own 1 0 0 (o3_0.length) none,.own 2 0 0 (t2.length) none]),some (.arr 0 5 (o3_0.map eTValue)),some (.arr 0 6 (t2.map eTField)),some (.box [dI 0,dI 0,dS ((⟨#[]⟩:ByteArray)),dN,dN])]⟩∧F68_l3 rc52 (t1.drop o3_1) o3_1 o3_0=some o3) (t1.length-0) [some 0,some 2,some 3,some 1] ⟨0,t1,⟨hk.1,rfl⟩,rfl,h⟩ ?_
  rintro _ _ ⟨o3_1,o3_0,⟨hi,rfl⟩,rfl,h⟩
  refine ww ?_
  refine condS (fun c4=>?_) (fun c4=>?_)
  ·obtain⟨xo3,hxo3,hd⟩:=countY (show(o3_1:Int)<(t1.length:Int)from c4)
   rw[hd,F68_l3]at h
   refine ww ?_
   obtain⟨y5,hy5,h⟩:=bi h
   refine t_idxO (enc:=eTValue) (xs:=o3_0) rfl rfl rfl (by first|rfl|simp only[List.length_set]|exact(clrL_len (slI_len (by assumption))).symm) hy5 (ww ?_)
   refine LdRow.rd (rdI_some hy5).2.1 (ww ?_)
   obtain⟨t6,ht6,h⟩:=bi h
   refine cN [] (ih52 ht6) trivial (ww ?_)
   obtain⟨y7,hy7,h⟩:=bi h
   refine t_idxO (enc:=eTValue) (xs:=o3_0) rfl rfl rfl (by first|rfl|simp only[List.length_set]|exact(clrL_len (slI_len (by assumption))).symm) hy7 (ww ?_)
   refine StRow.rd (y':=(⟨y5.Kind,y5.N,y5.S,t6.1,t6.2⟩:TValue)) (rdI_some hy7).2.1 (by simp[EE.down]) (by first|rfl|(simp only[bor_full'];rfl)|(simp only[eTValue_u,bor_full'];rfl)) (ww ?_)
   rw[wrapN (by omega)]
   exact eL' (t1.length-(o3_1+1)) [some 0,some 1,some 2,some 3] ⟨o3_1+1,(o3_0.set ((o3_1:Int)).toNat ((⟨y5.Kind,y5.N,y5.S,t6.1,t6.2⟩:TValue))),⟨by omega,rfl⟩,rfl,h⟩ (by omega)
  rw[countN (show¬((o3_1:Int)<(t1.length:Int))from c4),F68_l3]at h
  refine ww ?_
  cases h
  exact eM [some 0,some 1,some 2,some 3] rfl
 rintro _ rfl
 clear ho
 refine ww ?_
 obtain⟨o9,ho,h⟩:=bi h
 refine cutS (fun s=>s=⟨[(1,.one (.c (.pt 0 0))),(2,.one (.c (.pt 3 0)))],[some (.box [dI x0.Kind,dI x0.N,dS x0.S,.own 1 0 0 (o3.length) none,.own 2 0 0 (o9.length) none]),some (.arr 0 5 (o3.map eTValue)),some (.arr 0 6 (o9.map eTField)),some (.box [dI 0,dI 0,dS ((⟨#[]⟩:ByteArray)),dN,dN])]⟩) ?_ ?_
 ·have h:=ho
  clear ho
  obtain⟨_,hk,h⟩:=bi h
  have hk:=ck_some hk
  refine ww ?_
  refine bL (fun j s=>∃(o9_1:Nat) (o9_0:List TField),(o9_1≤t2.length∧j=t2.length-o9_1)∧s=⟨[(1,.one (.c (.pt 0 0))),(2,.one (.c (.pt 3 0))),(32,.one (.c (dI ((t2.length:Int))))),(33,.one (.c (dI ((o9_1:Int)))))],[some (.box [dI x0.Kind,dI x0.N,dS x0.S,.own 1 0 0 (o3.length) none,.own 2 0 0 (o9_0.length) none]),some (.arr 0 5 (o3.map eTValue)),some (.arr 0 6 (o9_0.map eTField)),some (.box [dI 0,dI 0,dS ((⟨#[]⟩:ByteArray)),dN,dN])]⟩∧F68_l9 rc52 (t2.drop o9_1) o9_1 o9_0=some o9) (t2.length-0) [some 0,some 1,some 2,some 3] ⟨0,t2,⟨hk.1,rfl⟩,rfl,h⟩ ?_
  rintro _ _ ⟨o9_1,o9_0,⟨hi,rfl⟩,rfl,h⟩
  refine ww ?_
  refine condS (fun c10=>?_) (fun c10=>?_)
  ·obtain⟨xo9,hxo9,hd⟩:=countY (show(o9_1:Int)<(t2.length:Int)from c10)
   rw[hd,F68_l9]at h
   refine ww ?_
   obtain⟨y11,hy11,h⟩:=bi h
   refine t_idxO (enc:=eTField) (xs:=o9_0) rfl rfl rfl (by first|rfl|simp only[List.length_set]|exact(clrL_len (slI_len (by assumption))).symm) hy11 (ww ?_)
   refine LdRow.rd (rdI_some hy11).2.1 (ww ?_)
   obtain⟨t12,ht12,h⟩:=bi h
   refine cN [] (ih52 ht12) trivial (ww ?_)
   obtain⟨y13,hy13,h⟩:=bi h
   refine t_idxO (enc:=eTField) (xs:=o9_0) rfl rfl rfl (by first|rfl|simp only[List.length_set]|exact(clrL_len (slI_len (by assumption))).symm) hy13 (ww ?_)
   refine StRow.rd (y':=(⟨y13.Name,(⟨y11.V.Kind,y11.V.N,y11.V.S,t12.1,t12.2⟩:TValue)⟩:TField)) (rdI_some hy13).2.1 (by simp[EE.down]) (by first|rfl|(simp only[bor_full'];rfl)|(simp only[eTField_u,bor_full'];rfl)) (ww ?_)
   rw[wrapN (by omega)]
   exact eL' (t2.length-(o9_1+1)) [some 0,some 1,some 2,some 3] ⟨o9_1+1,(o9_0.set ((o9_1:Int)).toNat ((⟨y13.Name,(⟨y11.V.Kind,y11.V.N,y11.V.S,t12.1,t12.2⟩:TValue)⟩:TField))),⟨by omega,rfl⟩,rfl,h⟩ (by omega)
  rw[countN (show¬((o9_1:Int)<(t2.length:Int))from c10),F68_l9]at h
  refine ww ?_
  cases h
  exact eM [some 0,some 1,some 2,some 3] rfl
 rintro _ rfl
 clear ho
 refine ww ?_
 cases h
 exact eF [some 1,some 2]
def F68k:Nat→TValue→Option ((List TValue)×(List TField))
 |0=>fun _=>none
 |k+1=>F68 (F68k k)
theorem F68k_ok(k:Nat){x0:TValue}{r:(List TValue)×(List TField)}(h:F68k k x0=some r):CallD Tryz.prog 68 [.agg [dI x0.Kind,dI x0.N,dS x0.S,dM (x0.List_.map eTValue),dM (x0.Fields.map eTField)]] [] (tupV [.agg [dI x0.Kind,dI x0.N,dS x0.S,.own 0 0 0 (r.1.length) none,.own 1 0 0 (r.2.length) none]]) [some (.arr 0 5 (r.1.map eTValue)),some (.arr 0 6 (r.2.map eTField))]:=by
 induction k generalizing x0 r with
 |zero=>cases(show(none:Option ((List TValue)×(List TField)))=some _ from h)
 |succ k ih=>exact F68_ok (fun h=>ih h) h
def F173(x0:ByteArray)(x1:ByteArray):Option (Int):=(cmpS x0 x1).bind fun t1=>some t1
def a173:AFn:=⟨8,[(.tmp 4)],
 (.seq (.reg [sq 4 (.mv (kI 0))])
 (.seq (.reg [sq 5 (.mv (.t 0)),
sq 6 (.mv (.t 1)),
sq 7 (.call 196 [(.t 5),(.t 6)]),
sq 4 (.mv (.t 7))])
 .ret))⟩
theorem F173_ok{x0 x1 r}(h:F173 x0 x1=some r):CallD Tryz.prog 173 [.c (dS x0),.c (dS x1)] [] (tupV [.c (dI r)]) []:=by
 rw[F173]at h
 refine zc a173 (by kernel_rfl) rfl (ww ?_)
 obtain⟨t1,ht1,h⟩:=bi h
 refine cN [] (F196_ok ht1) trivial (ww ?_)
 cases h
 exact eF []
def F158_l2(rc66:TValue→Option ((List TValue)×(List TField))):List TValue→Nat→(List TValue)→Option ((List TValue))
 |[],o2_1,o2_0=>some o2_0
 |xo2::xs,o2_1,o2_0=>(rdI o2_0 ((o2_1:Int))).bind fun y4=>(rc66 y4).bind fun t5=>(rdI o2_0 ((o2_1:Int))).bind fun y6=>F158_l2 rc66 xs (o2_1+1) ((o2_0.set ((o2_1:Int)).toNat ((⟨y4.Kind,y4.N,y4.S,t5.1,t5.2⟩:TValue))))
def F158_l9(rc66:TValue→Option ((List TValue)×(List TField))):List TField→Nat→(List TField)→Option ((List TField))
 |[],o9_1,o9_0=>some o9_0
 |xo9::xs,o9_1,o9_0=>(rdI o9_0 ((o9_1:Int))).bind fun y11=>(rc66 y11.V).bind fun t12=>(rdI o9_0 ((o9_1:Int))).bind fun y13=>F158_l9 rc66 xs (o9_1+1) ((o9_0.set ((o9_1:Int)).toNat ((⟨y13.Name,(⟨y11.V.Kind,y11.V.N,y11.V.S,t12.1,t12.2⟩:TValue)⟩:TField))))
def F158(rc66:TValue→Option ((List TValue)×(List TField)))(x0:TValue):Option ((List TValue)×(List TField)):=(cloneI x0.List_).bind fun t1=>(((ck (0≤t1.length∧t1.length≤4294967290)).bind fun u7=>F158_l2 rc66 t1 0 t1).bind fun o2=>(cloneI x0.Fields).bind fun t8=>(((ck (0≤t8.length∧t8.length≤4294967290)).bind fun u14=>F158_l9 rc66 t8 0 t8).bind fun o9=>some ((o2,o9))))
def a158:AFn:=⟨48,[(.cell 2 (some 5))],
 (.seq (.reg [sq 1 (.box (.t 0)),
sq 2 (.zbox [dI 0,dI 0,dS ⟨#[]⟩,dN,dN])])
 (.seq (.reg [sq 7 (.fieldA 3 (.t 1)),
sq 8 (.load none (.t 7)),
sq 9 (.call 99 [(.t 8)]),
sq 10 (.fieldA 3 (.t 1)),
su (.store 1 (.t 10) (.t 9))])
 (.seq (.seq (.reg [sq 11 (.fieldA 3 (.t 1)),
sq 12 (.load none (.t 11)),
sq 13 (.len (.t 12)),
sq 14 (.mv (kI 0))])
 (.sem (.block 0 (.loop (.seq (.reg [sq 15 (.bin .lss (.t 14) (.t 13))])
 (.seq (.cond (.t 15)
 .skip
 (.exit 0))
 (.seq (.block 1 (.seq (.reg [sq 16 (.mv (.t 14)),
sq 17 (.indexA 5 (.t 12) (.t 14)),
sq 18 (.load (some 5) (.t 17)),
sq 4 (.zbox [dI 0,dI 0,dS ⟨#[]⟩,dN,dN]),
sq 3 (.mv (.t 16)),
su (.store 5 (.t 4) (.t 18))])
 (.regd [sq 19 (.fieldA 3 (.t 1)),
sd 20 (.load none (.t 19)) [0],
sq 21 (.mv (.t 3)),
sq 22 (.load (some 5) (.t 4)),
zl 23 (.call 158 [(.t 22)]) [3] [1,19],
sd 24 (.indexA 5 (.t 20) (.t 21)) [0,1,2,3,4],
⟨none,none,.store 5 (.t 24) (.t 23),[0,1,2,3,4,5],(.lone [])⟩])))
 (.reg [sq 25 (.bin .add (.t 14) (kI 1)),
sq 14 (.mv (.t 25))]))))))))
 (.seq (.reg [sq 26 (.fieldA 4 (.t 1)),
sq 27 (.load none (.t 26)),
sq 28 (.call 100 [(.t 27)]),
sq 29 (.fieldA 4 (.t 1)),
su (.store 1 (.t 29) (.t 28))])
 (.seq (.seq (.reg [sq 30 (.fieldA 4 (.t 1)),
sq 31 (.load none (.t 30)),
sq 32 (.len (.t 31)),
sq 33 (.mv (kI 0))])
 (.sem (.block 2 (.loop (.seq (.reg [sq 34 (.bin .lss (.t 33) (.t 32))])
 (.seq (.cond (.t 34)
 .skip
 (.exit 2))
 (.seq (.block 3 (.seq (.reg [sq 35 (.mv (.t 33)),
sq 36 (.indexA 6 (.t 31) (.t 33)),
sq 37 (.load (some 6) (.t 36)),
sq 6 (.zbox [dS ⟨#[]⟩,dI 0,dI 0,dS ⟨#[]⟩,dN,dN]),
sq 5 (.mv (.t 35)),
su (.store 6 (.t 6) (.t 37))])
 (.regd [sq 38 (.fieldA 4 (.t 1)),
sd 39 (.load none (.t 38)) [0],
sq 40 (.mv (.t 5)),
sq 41 (.fieldA 1 (.t 6)),
sd 42 (.load (some 5) (.t 41)) [3],
zl 43 (.call 158 [(.t 42)]) [3,4] [1,38],
sd 44 (.indexA 6 (.t 39) (.t 40)) [0,1,2,3,4,5],
sd 45 (.fieldA 1 (.t 44)) [0,1,2,3,4,5,6],
⟨none,none,.store 5 (.t 45) (.t 43),[0,1,2,3,4,5,6,7],(.lone [])⟩])))
 (.reg [sq 46 (.bin .add (.t 33) (kI 1)),
sq 33 (.mv (.t 46))]))))))))
 (.seq (.reg [sq 47 (.load (some 5) (.t 1)),
⟨none,none,.store 5 (.t 2) (.t 47),[],(.lone [1])⟩])
 .ret))))))⟩
theorem F158_ok{rc66:TValue→Option ((List TValue)×(List TField))}(ih66:∀{x0:TValue} {r:(List TValue)×(List TField)} (h:rc66 x0=some r),CallD Tryz.prog 158 [.agg [dI x0.Kind,dI x0.N,dS x0.S,dM (x0.List_.map eTValue),dM (x0.Fields.map eTField)]] [] (tupV [.agg [dI x0.Kind,dI x0.N,dS x0.S,.own 0 0 0 (r.1.length) none,.own 1 0 0 (r.2.length) none]]) [some (.arr 0 5 (r.1.map eTValue)),some (.arr 0 6 (r.2.map eTField))]){x0:TValue}{r:(List TValue)×(List TField)}(h:F158 rc66 x0=some r):CallD Tryz.prog 158 [.agg [dI x0.Kind,dI x0.N,dS x0.S,dM (x0.List_.map eTValue),dM (x0.Fields.map eTField)]] [] (tupV [.agg [dI x0.Kind,dI x0.N,dS x0.S,.own 0 0 0 (r.1.length) none,.own 1 0 0 (r.2.length) none]]) [some (.arr 0 5 (r.1.map eTValue)),some (.arr 0 6 (r.2.map eTField))]:=by
 rw[F158]at h
 refine zc a158 (by kernel_rfl) rfl (ww ?_)
 obtain⟨t1,ht1,h⟩:=bi h
 refine cN [] (F99_ok ht1) trivial (ww ?_)
 obtain⟨o2,ho,h⟩:=bi h
 refine cutS (fun s=>s=⟨[(1,.one (.c (.pt 0 0))),(2,.one (.c (.pt 2 0)))],[some (.box [dI x0.Kind,dI x0.N,dS x0.S,.own 1 0 0 (o2.length) none,dM (x0.Fields.map eTField)]),some (.arr 0 5 (o2.map eTValue)),some (.box [dI 0,dI 0,dS ((⟨#[]⟩:ByteArray)),dN,dN])]⟩) ?_ ?_
 ·have h:=ho
  clear ho
  obtain⟨_,hk,h⟩:=bi h
  have hk:=ck_some hk
  refine ww ?_
  refine bL (fun j s=>∃(o2_1:Nat) (o2_0:List TValue),(o2_1≤t1.length∧j=t1.length-o2_1)∧s=⟨[(1,.one (.c (.pt 0 0))),(2,.one (.c (.pt 2 0))),(12,.one (.c (.own 1 0 0 (o2_0.length) none))),(13,.one (.c (dI ((t1.length:Int))))),(14,.one (.c (dI ((o2_1:Int)))))],[some (.box [dI x0.Kind,dI x0.N,dS x0.S,.own 1 0 0 (o2_0.length) none,dM (x0.Fields.map eTField)]),some (.arr 0 5 (o2_0.map eTValue)),some (.box [dI 0,dI 0,dS ((⟨#[]⟩:ByteArray)),dN,dN])]⟩∧F158_l2 rc66 (t1.drop o2_1) o2_1 o2_0=some o2) (t1.length-0) [some 0,some 2,some 1] ⟨0,t1,⟨hk.1,rfl⟩,rfl,h⟩ ?_
  rintro _ _ ⟨o2_1,o2_0,⟨hi,rfl⟩,rfl,h⟩
  refine ww ?_
  refine condS (fun c3=>?_) (fun c3=>?_)
  ·obtain⟨xo2,hxo2,hd⟩:=countY (show(o2_1:Int)<(t1.length:Int)from c3)
   rw[hd,F158_l2]at h
   refine ww ?_
   obtain⟨y4,hy4,h⟩:=bi h
   refine t_idxO (enc:=eTValue) (xs:=o2_0) rfl rfl rfl (by first|rfl|simp only[List.length_set]|exact(clrL_len (slI_len (by assumption))).symm) hy4 (ww ?_)
   refine LdRow.rd (rdI_some hy4).2.1 (ww ?_)
   obtain⟨t5,ht5,h⟩:=bi h
   refine cN [] (ih66 ht5) trivial (ww ?_)
   obtain⟨y6,hy6,h⟩:=bi h
   refine t_idxO (enc:=eTValue) (xs:=o2_0) rfl rfl rfl (by first|rfl|simp only[List.length_set]|exact(clrL_len (slI_len (by assumption))).symm) hy6 (ww ?_)
   refine StRow.rd (y':=(⟨y4.Kind,y4.N,y4.S,t5.1,t5.2⟩:TValue)) (rdI_some hy6).2.1 (by simp[EE.down]) (by first|rfl|(simp only[bor_full'];rfl)|(simp only[eTValue_u,bor_full'];rfl)) (ww ?_)
   rw[wrapN (by omega)]
   exact eL' (t1.length-(o2_1+1)) [some 0,some 1,some 2] ⟨o2_1+1,(o2_0.set ((o2_1:Int)).toNat ((⟨y4.Kind,y4.N,y4.S,t5.1,t5.2⟩:TValue))),⟨by omega,rfl⟩,rfl,h⟩ (by omega)
  rw[countN (show¬((o2_1:Int)<(t1.length:Int))from c3),F158_l2]at h
  refine ww ?_
  cases h
  exact eM [some 0,some 1,some 2] rfl
 rintro _ rfl
 clear ho
 refine ww ?_
 obtain⟨t8,ht8,h⟩:=bi h
 refine cN [] (F100_ok ht8) trivial (ww ?_)
 obtain⟨o9,ho,h⟩:=bi h
 refine cutS (fun s=>s=⟨[(1,.one (.c (.pt 0 0))),(2,.one (.c (.pt 3 0)))],[some (.box [dI x0.Kind,dI x0.N,dS x0.S,.own 1 0 0 (o2.length) none,.own 2 0 0 (o9.length) none]),some (.arr 0 5 (o2.map eTValue)),some (.arr 0 6 (o9.map eTField)),some (.box [dI 0,dI 0,dS ((⟨#[]⟩:ByteArray)),dN,dN])]⟩) ?_ ?_
 ·have h:=ho
  clear ho
  obtain⟨_,hk,h⟩:=bi h
  have hk:=ck_some hk
  refine ww ?_
  refine bL (fun j s=>∃(o9_1:Nat) (o9_0:List TField),(o9_1≤t8.length∧j=t8.length-o9_1)∧s=⟨[(1,.one (.c (.pt 0 0))),(2,.one (.c (.pt 3 0))),(31,.one (.c (.own 2 0 0 (o9_0.length) none))),(32,.one (.c (dI ((t8.length:Int))))),(33,.one (.c (dI ((o9_1:Int)))))],[some (.box [dI x0.Kind,dI x0.N,dS x0.S,.own 1 0 0 (o2.length) none,.own 2 0 0 (o9_0.length) none]),some (.arr 0 5 (o2.map eTValue)),some (.arr 0 6 (o9_0.map eTField)),some (.box [dI 0,dI 0,dS ((⟨#[]⟩:ByteArray)),dN,dN])]⟩∧F158_l9 rc66 (t8.drop o9_1) o9_1 o9_0=some o9) (t8.length-0) [some 0,some 1,some 3,some 2] ⟨0,t8,⟨hk.1,rfl⟩,rfl,h⟩ ?_
  rintro _ _ ⟨o9_1,o9_0,⟨hi,rfl⟩,rfl,h⟩
  refine ww ?_
  refine condS (fun c10=>?_) (fun c10=>?_)
  ·obtain⟨xo9,hxo9,hd⟩:=countY (show(o9_1:Int)<(t8.length:Int)from c10)
   rw[hd,F158_l9]at h
   refine ww ?_
   obtain⟨y11,hy11,h⟩:=bi h
   refine t_idxO (enc:=eTField) (xs:=o9_0) rfl rfl rfl (by first|rfl|simp only[List.length_set]|exact(clrL_len (slI_len (by assumption))).symm) hy11 (ww ?_)
   refine LdRow.rd (rdI_some hy11).2.1 (ww ?_)
   obtain⟨t12,ht12,h⟩:=bi h
   refine cN [] (ih66 ht12) trivial (ww ?_)
   obtain⟨y13,hy13,h⟩:=bi h
   refine t_idxO (enc:=eTField) (xs:=o9_0) rfl rfl rfl (by first|rfl|simp only[List.length_set]|exact(clrL_len (slI_len (by assumption))).symm) hy13 (ww ?_)
   refine StRow.rd (y':=(⟨y13.Name,(⟨y11.V.Kind,y11.V.N,y11.V.S,t12.1,t12.2⟩:TValue)⟩:TField)) (rdI_some hy13).2.1 (by simp[EE.down]) (by first|rfl|(simp only[bor_full'];rfl)|(simp only[eTField_u,bor_full'];rfl)) (ww ?_)
   rw[wrapN (by omega)]
   exact eL' (t8.length-(o9_1+1)) [some 0,some 1,some 2,some 3] ⟨o9_1+1,(o9_0.set ((o9_1:Int)).toNat ((⟨y13.Name,(⟨y11.V.Kind,y11.V.N,y11.V.S,t12.1,t12.2⟩:TValue)⟩:TField))),⟨by omega,rfl⟩,rfl,h⟩ (by omega)
  rw[countN (show¬((o9_1:Int)<(t8.length:Int))from c10),F158_l9]at h
  refine ww ?_
  cases h
  exact eM [some 0,some 1,some 2,some 3] rfl
 rintro _ rfl
 clear ho
 refine ww ?_
 cases h
 exact eF [some 1,some 2]
def F158k:Nat→TValue→Option ((List TValue)×(List TField))
 |0=>fun _=>none
 |k+1=>F158 (F158k k)
theorem F158k_ok(k:Nat){x0:TValue}{r:(List TValue)×(List TField)}(h:F158k k x0=some r):CallD Tryz.prog 158 [.agg [dI x0.Kind,dI x0.N,dS x0.S,dM (x0.List_.map eTValue),dM (x0.Fields.map eTField)]] [] (tupV [.agg [dI x0.Kind,dI x0.N,dS x0.S,.own 0 0 0 (r.1.length) none,.own 1 0 0 (r.2.length) none]]) [some (.arr 0 5 (r.1.map eTValue)),some (.arr 0 6 (r.2.map eTField))]:=by
 induction k generalizing x0 r with
 |zero=>cases(show(none:Option ((List TValue)×(List TField)))=some _ from h)
 |succ k ih=>exact F158_ok (fun h=>ih h) h
def F191(x0:(List ByteArray))(x1:ByteArray):Option (Bool):=(F203 x0 x1).bind fun t1=>some (decide (0≤t1))
def a191:AFn:=⟨9,[(.tmp 4)],
 (.seq (.reg [sq 4 (.mv (kB false))])
 (.seq (.reg [sq 5 (.mv (.t 0)),
sq 6 (.mv (.t 1)),
sq 7 (.call 203 [(.t 5),(.t 6)]),
sq 8 (.bin .geq (.t 7) (kI 0)),
sq 4 (.mv (.t 8))])
 .ret))⟩
theorem F191_ok{x0 x1 r}(h:F191 x0 x1=some r):CallD Tryz.prog 191 [.c (dM (x0.map eS)),.c (dS x1)] [] (tupV [.c (dB r)]) []:=by
 rw[F191]at h
 refine zc a191 (by kernel_rfl) rfl (ww ?_)
 obtain⟨t1,ht1,h⟩:=bi h
 refine cN [] (F203_ok ht1) trivial (ww ?_)
 cases h
 exact eF []
end Go.Proofs.YtdkmamiedcanfaaGreat
