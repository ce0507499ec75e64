/- Each Go function as a function over typed data, and its walk. -/
import Derived.Test.YtondgcmdhkhkkaaGreatAX
import Derived.Test.YtondgcmdhkhkkaaGreatAX2
import Derived.Test.YtondgcmdhkhkkaaGreatAX4
import Derived.Test.YtondgcmdhkhkkaaGreatAX5
namespace Go.Proofs.YtondgcmdhkhkkaaGreat
open Go Go.Fw Go.Shelf
set_option maxRecDepth 100000
set_option maxHeartbeats 4000000
set_option linter.unusedSimpArgs false
set_option linter.unusedVariables false
def F29_l1:List Manager→Nat→Int→Option (Int)
 |[],o1_1,o1_0=>some o1_0
 |xo1::xs,o1_1,o1_0=>F29_l1 xs (o1_1+1) ((IntKind.i64.wrap (o1_0+((xo1.Fields.length:Int)))))
def F29(x0:Object):Option (Int):=(((ck (0≤x0.Meta.Managers.length∧x0.Meta.Managers.length≤4294967290)).bind fun u3=>F29_l1 x0.Meta.Managers 0 ((IntKind.i64.wrap (((IntKind.i64.wrap (((IntKind.i64.wrap (((IntKind.i64.wrap (1+((x0.Meta.Labels.length:Int)))))+((x0.Meta.Owners.length:Int)))))+((x0.Meta.Finalizers.length:Int)))))+((x0.Meta.Managers.length:Int)))))).bind fun o1=>(F62k 1099511627776 x0.Spec).bind fun t4=>(F62k 1099511627776 x0.Status).bind fun t5=>some ((IntKind.i64.wrap (((IntKind.i64.wrap (o1+t4)))+t5))))
def a29:AFn:=⟨52,[(.tmp 2)],
 (.seq (.reg [sq 1 (.box (.t 0)),
sq 2 (.mv (kI 0))])
 (.seq (.reg [sq 5 (.fieldA 0 (.t 1)),
sq 6 (.fieldA 9 (.t 5)),
sq 7 (.load none (.t 6)),
sq 8 (.len (.t 7)),
sq 9 (.bin .add (kI 1) (.t 8)),
sq 10 (.fieldA 0 (.t 1)),
sq 11 (.fieldA 10 (.t 10)),
sq 12 (.load none (.t 11)),
sq 13 (.len (.t 12)),
sq 14 (.bin .add (.t 9) (.t 13)),
sq 15 (.fieldA 0 (.t 1)),
sq 16 (.fieldA 11 (.t 15)),
sq 17 (.load none (.t 16)),
sq 18 (.len (.t 17)),
sq 19 (.bin .add (.t 14) (.t 18)),
sq 20 (.fieldA 0 (.t 1)),
sq 21 (.fieldA 12 (.t 20)),
sq 22 (.load none (.t 21)),
sq 23 (.len (.t 22)),
sq 24 (.bin .add (.t 19) (.t 23)),
sq 3 (.mv (.t 24))])
 (.seq (.seq (.reg [sq 4 (.mv (kI 0))])
 (.sem (.block 0 (.loop (.seq (.seq (.reg [sq 25 (.mv (.t 4)),
sq 26 (.fieldA 0 (.t 1)),
sq 27 (.fieldA 12 (.t 26)),
sq 28 (.load none (.t 27)),
sq 29 (.len (.t 28)),
sq 30 (.bin .lss (.t 25) (.t 29))])
 (.cond (.t 30)
 .skip
 (.exit 0)))
 (.seq (.block 1 (.reg [sq 33 (.mv (.t 3)),
sq 34 (.fieldA 0 (.t 1)),
sq 35 (.fieldA 12 (.t 34)),
sq 36 (.load none (.t 35)),
sq 37 (.mv (.t 4)),
sq 38 (.indexA 2 (.t 36) (.t 37)),
sq 39 (.fieldA 1 (.t 38)),
sq 40 (.load none (.t 39)),
sq 41 (.len (.t 40)),
sq 42 (.bin .add (.t 33) (.t 41)),
sq 3 (.mv (.t 42))]))
 (.reg [sq 31 (.mv (.t 4)),
sq 32 (.bin .add (.t 31) (kI 1)),
sq 4 (.mv (.t 32))])))))))
 (.seq (.regd [sq 43 (.mv (.t 3)),
sq 44 (.fieldA 13 (.t 1)),
sd 45 (.load (some 5) (.t 44)) [1],
zn 46 (.call 62 [(.t 45)]) [1,2] [1,2],
sd 47 (.bin .add (.t 43) (.t 46)) [0,1,2,3],
sq 48 (.fieldA 18 (.t 1)),
sd 49 (.load (some 5) (.t 48)) [5],
zl 50 (.call 62 [(.t 49)]) [1,2,3,5,6] [],
sd 51 (.bin .add (.t 47) (.t 50)) [0,1,2,3,4,5,6,7],
sd 2 (.mv (.t 51)) [0,1,2,3,4,5,6,7,8]])
 .ret))))⟩
theorem a29_ok:afn Tryz.prog 29=some a29.er:=by kernel_rfl
theorem F29_ok{x0 r}(h:F29 x0=some r):CallD Tryz.prog 29 [.agg [dS x0.Meta.Kind,dS x0.Meta.Namespace,dS x0.Meta.Name,dI x0.Meta.Uid,dI x0.Meta.Version,dI x0.Meta.Generation,dI x0.Meta.Created,dB x0.Meta.Deleting,dI x0.Meta.DeleteAt,dM (x0.Meta.Labels.map eLabel),dM (x0.Meta.Owners.map eOwner),dM (x0.Meta.Finalizers.map eS),dM (x0.Meta.Managers.map eManager),dI x0.Spec.Kind,dI x0.Spec.N,dS x0.Spec.S,dM (x0.Spec.List_.map eTValue),dM (x0.Spec.Fields.map eTField),dI x0.Status.Kind,dI x0.Status.N,dS x0.Status.S,dM (x0.Status.List_.map eTValue),dM (x0.Status.Fields.map eTField)]] [] (tupV [.c (dI r)]) []:=by
 refine callS a29_ok (by simp[a29]) ?_
 rw[F29]at h
 simp only[a29,VW.down,Nat.reduceEqDiff,reduceCtorEq,Nat.reduceAdd,Nat.reduceLeDiff,Nat.reduceLT,Nat.reduceBEq,Nat.reduceSub,EE.down]
 obtain⟨o1,ho,h⟩:=bi h
 refine cutS (fun s=>s=⟨[(1,.one (.c (.pt 0 0))),(3,.one (.c (dI o1)))],[some (.box [dS x0.Meta.Kind,dS x0.Meta.Namespace,dS x0.Meta.Name,dI x0.Meta.Uid,dI x0.Meta.Version,dI x0.Meta.Generation,dI x0.Meta.Created,dB x0.Meta.Deleting,dI x0.Meta.DeleteAt,dM (x0.Meta.Labels.map eLabel),dM (x0.Meta.Owners.map eOwner),dM (x0.Meta.Finalizers.map eS),dM (x0.Meta.Managers.map eManager),dI x0.Spec.Kind,dI x0.Spec.N,dS x0.Spec.S,dM (x0.Spec.List_.map eTValue),dM (x0.Spec.Fields.map eTField),dI x0.Status.Kind,dI x0.Status.N,dS x0.Status.S,dM (x0.Status.List_.map eTValue),dM (x0.Status.Fields.map eTField)])]⟩) ?_ ?_
 ·have h:=ho
  clear ho
  obtain⟨_,hk,h⟩:=bi h
  have hk:=ck_some hk
  refine ww ?_
  refine bL (fun j s=>∃(o1_1:Nat) (o1_0:Int),(o1_1≤x0.Meta.Managers.length∧j=x0.Meta.Managers.length-o1_1)∧s=⟨[(1,.one (.c (.pt 0 0))),(3,.one (.c (dI o1_0))),(4,.one (.c (dI ((o1_1:Int)))))],[some (.box [dS x0.Meta.Kind,dS x0.Meta.Namespace,dS x0.Meta.Name,dI x0.Meta.Uid,dI x0.Meta.Version,dI x0.Meta.Generation,dI x0.Meta.Created,dB x0.Meta.Deleting,dI x0.Meta.DeleteAt,dM (x0.Meta.Labels.map eLabel),dM (x0.Meta.Owners.map eOwner),dM (x0.Meta.Finalizers.map eS),dM (x0.Meta.Managers.map eManager),dI x0.Spec.Kind,dI x0.Spec.N,dS x0.Spec.S,dM (x0.Spec.List_.map eTValue),dM (x0.Spec.Fields.map eTField),dI x0.Status.Kind,dI x0.Status.N,dS x0.Status.S,dM (x0.Status.List_.map eTValue),dM (x0.Status.Fields.map eTField)])]⟩∧F29_l1 (x0.Meta.Managers.drop o1_1) o1_1 o1_0=some o1) (x0.Meta.Managers.length-0) [some 0] ⟨0,(IntKind.i64.wrap (((IntKind.i64.wrap (((IntKind.i64.wrap (((IntKind.i64.wrap (1+((x0.Meta.Labels.length:Int)))))+((x0.Meta.Owners.length:Int)))))+((x0.Meta.Finalizers.length:Int)))))+((x0.Meta.Managers.length:Int)))),⟨hk.1,rfl⟩,rfl,h⟩ ?_
  rintro _ _ ⟨o1_1,o1_0,⟨hi,rfl⟩,rfl,h⟩
  refine ww ?_
  refine condS (fun c2=>?_) (fun c2=>?_)
  ·obtain⟨xo1,hxo1,hd⟩:=countY (show(o1_1:Int)<(x0.Meta.Managers.length:Int)from c2)
   rw[hd,F29_l1]at h
   refine ww ?_
   refine t_idxF (enc:=eManager) (xs:=x0.Meta.Managers) rfl rfl hxo1 rfl (ww ?_)
   rw[wrapN (by omega)]
   exact eL' (x0.Meta.Managers.length-(o1_1+1)) [some 0] ⟨o1_1+1,(IntKind.i64.wrap (o1_0+((xo1.Fields.length:Int)))),⟨by omega,rfl⟩,rfl,h⟩ (by omega)
  rw[countN (show¬((o1_1:Int)<(x0.Meta.Managers.length:Int))from c2),F29_l1]at h
  refine ww ?_
  cases h
  exact eM [some 0] rfl
 rintro _ rfl
 clear ho
 refine ww ?_
 obtain⟨t4,ht4,h⟩:=bi h
 refine cN [] (F62k_ok 1099511627776 ht4) trivial (ww ?_)
 obtain⟨t5,ht5,h⟩:=bi h
 refine cN [] (F62k_ok 1099511627776 ht5) trivial (ww ?_)
 cases h
 exact eF []
def F24(x0:Meta):Option (ByteArray):=(F56 x0.Kind x0.Namespace x0.Name).bind fun t1=>some t1
def a24:AFn:=⟨10,[(.tmp 2)],
 (.seq (.reg [sq 1 (.box (.t 0)),
sq 2 (.mv (kS ⟨#[]⟩))])
 (.seq (.reg [sq 3 (.fieldA 0 (.t 1)),
sq 4 (.load none (.t 3)),
sq 5 (.fieldA 1 (.t 1)),
sq 6 (.load none (.t 5)),
sq 7 (.fieldA 2 (.t 1)),
sq 8 (.load none (.t 7)),
sq 9 (.call 56 [(.t 4),(.t 6),(.t 8)]),
sq 2 (.mv (.t 9))])
 .ret))⟩
theorem a24_ok:afn Tryz.prog 24=some a24.er:=by kernel_rfl
theorem F24_ok{x0 r}(h:F24 x0=some r):CallD Tryz.prog 24 [.agg [dS x0.Kind,dS x0.Namespace,dS x0.Name,dI x0.Uid,dI x0.Version,dI x0.Generation,dI x0.Created,dB x0.Deleting,dI x0.DeleteAt,dM (x0.Labels.map eLabel),dM (x0.Owners.map eOwner),dM (x0.Finalizers.map eS),dM (x0.Managers.map eManager)]] [] (tupV [.c (dS r)]) []:=by
 refine callS a24_ok (by simp[a24]) ?_
 rw[F24]at h
 simp only[a24,VW.down,Nat.reduceEqDiff,reduceCtorEq,Nat.reduceAdd,Nat.reduceLeDiff,Nat.reduceLT,Nat.reduceBEq,Nat.reduceSub,EE.down]
 obtain⟨t1,ht1,h⟩:=bi h
 refine cN [] (F56_ok ht1) trivial (ww ?_)
 cases h
 exact eF []
def F87_l8(x0:ByteArray):Nat→Int→Option ((Bool) ⊕ (Unit))
 |0,_=>none
 |k+1,o8_0=>(if o8_0<(x0.size:Int)then(byI x0 o8_0).bind fun y10=>(F113 y10).bind fun t11=>(if(nb t11)=true then(some false).map Sum.inl else F87_l8 x0 k ((IntKind.i64.wrap (o8_0+1))))else some (Sum.inr (())))
def F87(x0:ByteArray):Option (Bool):=(((if x0=(⟨#[]⟩:ByteArray)then some true else(if 40<(x0.size:Int)then some true else(byI x0 0).bind fun y4=>(if y4<97 then some true else(byI x0 0).bind fun y6=>some (decide (122<y6)))))).bind fun o1=>(if o1=true then some false else((F87_l8 x0 1099511627776 0:Option ((Bool) ⊕ (Unit))).bind fun o8=>match o8 with|Sum.inl f=>some f|Sum.inr po8=>some true)))
def a87:AFn:=⟨32,[(.tmp 2)],
 (.seq (.reg [sq 2 (.mv (kB false))])
 (.seq (.seq (.sem (.reg [sq 4 (.mv (.t 0)),
sq 5 (.bin .eql (.t 4) (kS ⟨#[]⟩)),
sq 6 (.mv (.t 5)),
zg 7 6 false (.mv (.t 0)),
zg 8 6 false (.slen (.t 7)),
zg 9 6 false (.bin .gtr (.t 8) (kI 40)),
sq 10 (.pick (.t 6) (kB true) (.t 9)),
sq 11 (.mv (.t 10)),
zg 12 11 false (.mv (.t 0)),
zg 13 11 false (.sidx (.t 12) (kI 0)),
zg 14 11 false (.bin .lss (.t 13) (.k (.c (.d (.v (.int .u8 97)))))),
sq 15 (.pick (.t 11) (kB true) (.t 14)),
sq 16 (.mv (.t 15)),
zg 17 16 false (.mv (.t 0)),
zg 18 16 false (.sidx (.t 17) (kI 0)),
zg 19 16 false (.bin .gtr (.t 18) (.k (.c (.d (.v (.int .u8 122)))))),
sq 20 (.pick (.t 16) (kB true) (.t 19))]))
 (.cond (.t 20)
 (.seq (.reg [sq 2 (.mv (kB false))])
 .ret)
 .skip))
 (.seq (.seq (.reg [sq 21 (.mv (.t 0)),
sq 22 (.slen (.t 21)),
sq 23 (.mv (kI 0))])
 (.sem (.block 0 (.loop (.seq (.reg [sq 24 (.bin .lss (.t 23) (.t 22))])
 (.seq (.cond (.t 24)
 .skip
 (.exit 0))
 (.seq (.block 1 (.seq (.reg [sq 25 (.mv (.t 23)),
sq 3 (.mv (.t 25))])
 (.seq (.reg [sq 26 (.mv (.t 0)),
sq 27 (.mv (.t 3)),
sq 28 (.sidx (.t 26) (.t 27)),
sq 29 (.call 113 [(.t 28)]),
sq 30 (.not (.t 29))])
 (.cond (.t 30)
 (.seq (.reg [sq 2 (.mv (kB false))])
 .ret)
 .skip))))
 (.reg [sq 31 (.bin .add (.t 23) (kI 1)),
sq 23 (.mv (.t 31))]))))))))
 (.seq (.reg [sq 2 (.mv (kB true))])
 .ret))))⟩
theorem a87_ok:afn Tryz.prog 87=some a87.er:=by kernel_rfl
theorem F87_ok{x0 r}(h:F87 x0=some r):CallD Tryz.prog 87 [.c (dS x0)] [] (tupV [.c (dB r)]) []:=by
 refine callS a87_ok (by simp[a87]) ?_
 rw[F87]at h
 simp only[a87,VW.down,Nat.reduceEqDiff,reduceCtorEq,Nat.reduceAdd,Nat.reduceLeDiff,Nat.reduceLT,Nat.reduceBEq,Nat.reduceSub,EE.down]
 obtain⟨o1,ho,h⟩:=bi h
 refine cutS (fun s=>s=⟨[(0,.one (.c (dS x0))),(20,.one (.c (dB o1)))],[]⟩) ?_ ?_
 ·have h:=ho
  clear ho
  refine ww ?_
  refine guardSh h (fun g2 h=>?_) (fun g2 h=>?_)
  ·refine ww ?_
   cases h
   exact eM [] rfl
  refine ww ?_
  refine guardSh h (fun g3 h=>?_) (fun g3 h=>?_)
  ·refine ww ?_
   cases h
   exact eM [] rfl
  refine ww ?_
  obtain⟨y4,hy4,h⟩:=bi h
  refine t_sidx rfl rfl hy4 (ww ?_)
  refine guardSh h (fun g5 h=>?_) (fun g5 h=>?_)
  ·refine ww ?_
   cases h
   exact eM [] rfl
  refine ww ?_
  obtain⟨y6,hy6,h⟩:=bi h
  refine t_sidx rfl rfl hy6 (ww ?_)
  cases h
  exact eM [] rfl
 rintro _ rfl
 clear ho
 refine ww ?_
 refine condBh h (fun c7 h=>?_) (fun c7 h=>?_)
 ·refine ww ?_
  cases h
  exact eF []
 refine ww ?_
 obtain⟨o8,ho,h⟩:=bi h
 refine cutS (fun s=>∃po8,o8=Sum.inr po8∧s=⟨[],[]⟩) ?_ ?_
 ·have h0o8:=h
  have h:=ho
  clear ho
  refine ww ?_
  refine bL (fun j s=>∃(o8_0:Int),s=⟨[(0,.one (.c (dS x0))),(22,.one (.c (dI ((x0.size:Int))))),(23,.one (.c (dI o8_0)))],[]⟩∧F87_l8 x0 j o8_0=some o8) 1099511627776 [] ⟨0,rfl,h⟩ ?_
  rintro j _ ⟨o8_0,rfl,h⟩
  cases j with
  |zero=>cases(show(none:Option _)=some _ from h)
  |succ j=>
   rw[F87_l8]at h
   refine ww ?_
   refine condSh h (fun c9 h=>?_) (fun c9 h=>?_)
   ·refine ww ?_
    obtain⟨y10,hy10,h⟩:=bi h
    refine t_sidx rfl rfl hy10 (ww ?_)
    obtain⟨t11,ht11,h⟩:=bi h
    refine cN [] (F113_ok ht11) trivial (ww ?_)
    refine condBh h (fun c12 h=>?_) (fun c12 h=>?_)
    ·refine ww ?_
     obtain⟨fh0o8,hfh0o8,rfl⟩:=Option.map_eq_some_iff.1 h
     have h:=hfh0o8.trans h0o8
     cases h
     exact eF []
    ·refine ww ?_
     exact eL' j [] ⟨(IntKind.i64.wrap (o8_0+1)),rfl,h⟩ (Nat.lt_succ_self _)
   ·refine ww ?_
    cases h
    exact eM [] ⟨_,rfl,rfl⟩
 rintro _ ⟨po8,rfl,rfl⟩
 clear ho
 dsimp only at h
 refine ww ?_
 cases h
 exact eF []
def F136_l1(x0:(List Manager)):List Manager→Nat→Option ((Bool) ⊕ (Unit))
 |[],o1_0=>some (Sum.inr (()))
 |xo1::xs,o1_0=>(((F132 xo1.Name).bind fun t4=>(if(nb t4)=true then some true else(if 0<(o1_0:Int)then(rdI x0 ((IntKind.i64.wrap (((o1_0:Int))-1)))).bind fun y7=>(if(nb (Op.bytesLess y7.Name.toList xo1.Name.toList))=true then some true else(if(xo1.Fields.length:Int)<1 then some true else(if 600<(xo1.Fields.length:Int)then some true else(F142 xo1.Fields).bind fun t11=>some (nb t11))))else(if(xo1.Fields.length:Int)<1 then some true else(if 600<(xo1.Fields.length:Int)then some true else(F142 xo1.Fields).bind fun t14=>some (nb t14)))))).bind fun o3=>(if o3=true then(some false).map Sum.inl else F136_l1 x0 xs (o1_0+1)))
def F136(x0:(List Manager)):Option (Bool):=(((ck (0≤x0.length∧x0.length≤4294967290)).bind fun u16=>F136_l1 x0 x0 0:Option ((Bool) ⊕ (Unit))).bind fun o1=>match o1 with|Sum.inl f=>some f|Sum.inr po1=>some (decide ((x0.length:Int)≤16)))
def a136:AFn:=⟨53,[(.tmp 2)],
 (.seq (.reg [sq 2 (.mv (kB false))])
 (.seq (.seq (.reg [sq 5 (.mv (.t 0)),
sq 6 (.len (.t 5)),
sq 7 (.mv (kI 0))])
 (.sem (.block 0 (.loop (.seq (.reg [sq 8 (.bin .lss (.t 7) (.t 6))])
 (.seq (.cond (.t 8)
 .skip
 (.exit 0))
 (.seq (.block 1 (.seq (.reg [sq 9 (.mv (.t 7)),
sq 10 (.indexA 2 (.t 5) (.t 7)),
sq 11 (.load (some 2) (.t 10)),
sq 4 (.zbox [dS ⟨#[]⟩,dN]),
sq 3 (.mv (.t 9)),
su (.store 2 (.t 4) (.t 11))])
 (.seq (.sem (.regd [sq 12 (.fieldA 0 (.t 4)),
sd 13 (.load none (.t 12)) [0],
zl 14 (.call 132 [(.t 13)]) [0,1] [],
sd 15 (.not (.t 14)) [0,1,2],
sd 16 (.mv (.t 15)) [0,1,2,3],
⟨(some 17),(some (16,false)),.mv (.t 3),[0,1,2,3,4],(.new [])⟩,
⟨(some 18),(some (16,false)),.bin .gtr (.t 17) (kI 0),[0,1,2,3,4,5],(.new [])⟩,
⟨(some 19),(some (16,false)),.mv (.t 18),[0,1,2,3,4,5,6],(.new [])⟩,
⟨(some 20),(some (19,true)),.mv (.t 0),[0,1,2,3,4,5,6,7],(.new [])⟩,
⟨(some 21),(some (19,true)),.mv (.t 3),[0,1,2,3,4,5,6,7],(.new [])⟩,
⟨(some 22),(some (19,true)),.bin .sub (.t 21) (kI 1),[0,1,2,3,4,5,6,7,9],(.new [])⟩,
⟨(some 23),(some (19,true)),.indexA 2 (.t 20) (.t 22),[0,1,2,3,4,5,6,7,8,9,10],(.new [])⟩,
⟨(some 24),(some (19,true)),.fieldA 0 (.t 23),[0,1,2,3,4,5,6,7,8,9,10,11],(.new [])⟩,
⟨(some 25),(some (19,true)),.load none (.t 24),[0,1,2,3,4,5,6,7,8,9,10,11,12],(.new [])⟩,
⟨(some 26),(some (19,true)),.fieldA 0 (.t 4),[0,1,2,3,4,5,6,7],(.new [])⟩,
⟨(some 27),(some (19,true)),.load none (.t 26),[0,1,2,3,4,5,6,7,14],(.new [])⟩,
⟨(some 28),(some (19,true)),.bin .geq (.t 25) (.t 27),[0,1,2,3,4,5,6,7,8,9,10,11,12,13,14,15],(.new [])⟩,
⟨(some 29),(some (16,false)),.pick (.t 19) (.t 28) (kB false),[0,1,2,3,4,5,6,7,8,9,10,11,12,13,14,15,16],(.lone [])⟩,
zl 30 (.pick (.t 16) (kB true) (.t 29)) [0,1,2,3,4,5,6,7,8,9,10,11,12,13,14,15,16,17] [],
sd 31 (.mv (.t 30)) [0,1,2,3,4,5,6,7,8,9,10,11,12,13,14,15,16,17,18],
⟨(some 32),(some (31,false)),.fieldA 1 (.t 4),[0,1,2,3,4,5,6,7,8,9,10,11,12,13,14,15,16,17,18,19],(.new [])⟩,
⟨(some 33),(some (31,false)),.load none (.t 32),[0,1,2,3,4,5,6,7,8,9,10,11,12,13,14,15,16,17,18,19,20],(.new [])⟩,
⟨(some 34),(some (31,false)),.len (.t 33),[0,1,2,3,4,5,6,7,8,9,10,11,12,13,14,15,16,17,18,19,20,21],(.new [])⟩,
⟨(some 35),(some (31,false)),.bin .lss (.t 34) (kI 1),[0,1,2,3,4,5,6,7,8,9,10,11,12,13,14,15,16,17,18,19,20,21,22],(.new [])⟩,
zl 36 (.pick (.t 31) (kB true) (.t 35)) [0,1,2,3,4,5,6,7,8,9,10,11,12,13,14,15,16,17,18,19,20,21,22,23] [],
sd 37 (.mv (.t 36)) [0,1,2,3,4,5,6,7,8,9,10,11,12,13,14,15,16,17,18,19,20,21,22,23,24],
⟨(some 38),(some (37,false)),.fieldA 1 (.t 4),[0,1,2,3,4,5,6,7,8,9,10,11,12,13,14,15,16,17,18,19,20,21,22,23,24,25],(.new [])⟩,
⟨(some 39),(some (37,false)),.load none (.t 38),[0,1,2,3,4,5,6,7,8,9,10,11,12,13,14,15,16,17,18,19,20,21,22,23,24,25,26],(.new [])⟩,
⟨(some 40),(some (37,false)),.len (.t 39),[0,1,2,3,4,5,6,7,8,9,10,11,12,13,14,15,16,17,18,19,20,21,22,23,24,25,26,27],(.new [])⟩,
⟨(some 41),(some (37,false)),.bin .gtr (.t 40) (kI 600),[0,1,2,3,4,5,6,7,8,9,10,11,12,13,14,15,16,17,18,19,20,21,22,23,24,25,26,27,28],(.new [])⟩,
zl 42 (.pick (.t 37) (kB true) (.t 41)) [0,1,2,3,4,5,6,7,8,9,10,11,12,13,14,15,16,17,18,19,20,21,22,23,24,25,26,27,28,29] [],
sd 43 (.mv (.t 42)) [0,1,2,3,4,5,6,7,8,9,10,11,12,13,14,15,16,17,18,19,20,21,22,23,24,25,26,27,28,29,30],
⟨(some 44),(some (43,false)),.fieldA 1 (.t 4),[0,1,2,3,4,5,6,7,8,9,10,11,12,13,14,15,16,17,18,19,20,21,22,23,24,25,26,27,28,29,30,31],(.new [])⟩,
⟨(some 45),(some (43,false)),.load none (.t 44),[0,1,2,3,4,5,6,7,8,9,10,11,12,13,14,15,16,17,18,19,20,21,22,23,24,25,26,27,28,29,30,31,32],(.new [])⟩,
⟨(some 46),(some (43,false)),.call 142 [(.t 45)],[0,1,2,3,4,5,6,7,8,9,10,11,12,13,14,15,16,17,18,19,20,21,22,23,24,25,26,27,28,29,30,31,32,33],(.lone [])⟩,
⟨(some 47),(some (43,false)),.not (.t 46),[0,1,2,3,4,5,6,7,8,9,10,11,12,13,14,15,16,17,18,19,20,21,22,23,24,25,26,27,28,29,30,31,32,33,34],(.new [])⟩,
zl 48 (.pick (.t 43) (kB true) (.t 47)) [0,1,2,3,4,5,6,7,8,9,10,11,12,13,14,15,16,17,18,19,20,21,22,23,24,25,26,27,28,29,30,31,32,33,34,35] []]))
 (.cond (.t 48)
 (.seq (.reg [sq 2 (.mv (kB false))])
 .ret)
 .skip))))
 (.reg [sq 49 (.bin .add (.t 7) (kI 1)),
sq 7 (.mv (.t 49))]))))))))
 (.seq (.reg [sq 50 (.mv (.t 0)),
sq 51 (.len (.t 50)),
sq 52 (.bin .leq (.t 51) (kI 16)),
sq 2 (.mv (.t 52))])
 .ret)))⟩
theorem a136_ok:afn Tryz.prog 136=some a136.er:=by kernel_rfl
theorem F136_ok{x0 r}(h:F136 x0=some r):CallD Tryz.prog 136 [.c (dM (x0.map eManager))] [] (tupV [.c (dB r)]) []:=by
 refine callS a136_ok (by simp[a136]) ?_
 rw[F136]at h
 simp only[a136,VW.down,Nat.reduceEqDiff,reduceCtorEq,Nat.reduceAdd,Nat.reduceLeDiff,Nat.reduceLT,Nat.reduceBEq,Nat.reduceSub,EE.down]
 obtain⟨o1,ho,h⟩:=bi h
 refine cutS (fun s=>∃po1,o1=Sum.inr po1∧s=⟨[(0,.one (.c (dM (x0.map eManager))))],[]⟩) ?_ ?_
 ·have h0o1:=h
  have h:=ho
  clear ho
  obtain⟨_,hk,h⟩:=bi h
  have hk:=ck_some hk
  refine ww ?_
  refine bL (fun j s=>∃(o1_0:Nat),(o1_0≤x0.length∧j=x0.length-o1_0)∧s=⟨[(0,.one (.c (dM (x0.map eManager)))),(5,.one (.c (dM (x0.map eManager)))),(6,.one (.c (dI ((x0.length:Int))))),(7,.one (.c (dI ((o1_0:Int)))))],[]⟩∧F136_l1 x0 (x0.drop o1_0) o1_0=some o1) (x0.length-0) [] ⟨0,⟨hk.1,rfl⟩,rfl,h⟩ ?_
  rintro _ _ ⟨o1_0,⟨hi,rfl⟩,rfl,h⟩
  refine ww ?_
  refine condS (fun c2=>?_) (fun c2=>?_)
  ·obtain⟨xo1,hxo1,hd⟩:=countY (show(o1_0:Int)<(x0.length:Int)from c2)
   rw[hd,F136_l1]at h
   refine ww ?_
   refine t_idxF (enc:=eManager) (xs:=x0) rfl rfl hxo1 rfl (ww ?_)
   obtain⟨o3,ho,h⟩:=bi h
   refine cutS (fun s=>s=⟨[(0,.one (.c (dM (x0.map eManager)))),(5,.one (.c (dM (x0.map eManager)))),(6,.one (.c (dI ((x0.length:Int))))),(7,.one (.c (dI ((o1_0:Int))))),(48,.one (.c (dB o3)))],[]⟩) ?_ ?_
   ·have h:=ho
    clear ho
    refine ww ?_
    obtain⟨t4,ht4,h⟩:=bi h
    refine cN [] (F132_ok ht4) trivial (ww ?_)
    refine guardDBh h (fun g5 h=>?_) (fun g5 h=>?_)
    ·refine ww ?_
     cases h
     exact eM [] rfl
    refine ww ?_
    refine guardDh h (fun g6 h=>?_) (fun g6 h=>?_)
    ·refine ww ?_
     obtain⟨y7,hy7,h⟩:=bi h
     refine t_idxF (enc:=eManager) (xs:=x0) rfl rfl hy7 rfl (ww ?_)
     refine guardDBh h (fun g8 h=>?_) (fun g8 h=>?_)
     ·refine ww ?_
      cases h
      exact eM [] rfl
     refine ww ?_
     refine guardDh h (fun g9 h=>?_) (fun g9 h=>?_)
     ·refine ww ?_
      cases h
      exact eM [] rfl
     refine ww ?_
     refine guardDh h (fun g10 h=>?_) (fun g10 h=>?_)
     ·refine ww ?_
      cases h
      exact eM [] rfl
     refine ww ?_
     obtain⟨t11,ht11,h⟩:=bi h
     refine cN [] (F142_ok ht11) trivial (ww ?_)
     cases h
     exact eM [] rfl
    refine ww ?_
    refine guardDh h (fun g12 h=>?_) (fun g12 h=>?_)
    ·refine ww ?_
     cases h
     exact eM [] rfl
    refine ww ?_
    refine guardDh h (fun g13 h=>?_) (fun g13 h=>?_)
    ·refine ww ?_
     cases h
     exact eM [] rfl
    refine ww ?_
    obtain⟨t14,ht14,h⟩:=bi h
    refine cN [] (F142_ok ht14) trivial (ww ?_)
    cases h
    exact eM [] rfl
   rintro _ rfl
   clear ho
   refine ww ?_
   refine condBh h (fun c15 h=>?_) (fun c15 h=>?_)
   ·refine ww ?_
    obtain⟨fh0o1,hfh0o1,rfl⟩:=Option.map_eq_some_iff.1 h
    have h:=hfh0o1.trans h0o1
    cases h
    exact eF []
   refine ww ?_
   rw[wrapN (by omega)]
   exact eL' (x0.length-(o1_0+1)) [] ⟨o1_0+1,⟨by omega,rfl⟩,rfl,h⟩ (by omega)
  rw[countN (show¬((o1_0:Int)<(x0.length:Int))from c2),F136_l1]at h
  refine ww ?_
  cases h
  exact eM [] ⟨_,rfl,rfl⟩
 rintro _ ⟨po1,rfl,rfl⟩
 clear ho
 dsimp only at h
 refine ww ?_
 cases h
 exact eF []
def F105(x0:Int)(x1:Int):Option (Int):=(F126 x0).bind fun t1=>(F126 x1).bind fun t2=>(if¬(True)then(if¬(True)then some 0 else some ((-1)))else(if¬(True)then some 1 else(if x0<x1 then some ((-1))else(if x1<x0 then some 1 else some 0))))
def a105:AFn:=⟨20,[(.tmp 4)],
 (.seq (.reg [sq 4 (.mv (kI 0))])
 (.seq (.reg [sq 7 (.mv (.t 0)),
sq 8 (.call 126 [(.t 7)]),
sq 5 (.mv (.t 8))])
 (.seq (.reg [sq 9 (.mv (.t 1)),
sq 10 (.call 126 [(.t 9)]),
sq 6 (.mv (.t 10))])
 (.seq (.seq (.reg [sq 11 (.mv (.t 5))])
 (.cond (.t 11)
 (.seq (.seq (.reg [sq 12 (.mv (.t 6))])
 (.cond (.t 12)
 (.seq (.reg [sq 4 (.mv (kI 0))])
 .ret)
 .skip))
 (.seq (.reg [sq 4 (.mv (kI (-1)))])
 .ret))
 .skip))
 (.seq (.seq (.reg [sq 13 (.mv (.t 6))])
 (.cond (.t 13)
 (.seq (.reg [sq 4 (.mv (kI 1))])
 .ret)
 .skip))
 (.seq (.seq (.reg [sq 14 (.mv (.t 0)),
sq 15 (.mv (.t 1)),
sq 16 (.bin .lss (.t 14) (.t 15))])
 (.cond (.t 16)
 (.seq (.reg [sq 4 (.mv (kI (-1)))])
 .ret)
 .skip))
 (.seq (.seq (.reg [sq 17 (.mv (.t 0)),
sq 18 (.mv (.t 1)),
sq 19 (.bin .gtr (.t 17) (.t 18))])
 (.cond (.t 19)
 (.seq (.reg [sq 4 (.mv (kI 1))])
 .ret)
 .skip))
 (.seq (.reg [sq 4 (.mv (kI 0))])
 .ret))))))))⟩
theorem a105_ok:afn Tryz.prog 105=some a105.er:=by kernel_rfl
theorem F105_ok{x0 x1 r}(h:F105 x0 x1=some r):CallD Tryz.prog 105 [.c (dI x0),.c (dI x1)] [] (tupV [.c (dI r)]) []:=by
 refine callS a105_ok (by simp[a105]) ?_
 rw[F105]at h
 simp only[a105,VW.down,Nat.reduceEqDiff,reduceCtorEq,Nat.reduceAdd,Nat.reduceLeDiff,Nat.reduceLT,Nat.reduceBEq,Nat.reduceSub,EE.down]
 obtain⟨t1,ht1,h⟩:=bi h
 refine cN [] (F126_ok ht1) trivial (ww ?_)
 obtain⟨t2,ht2,h⟩:=bi h
 refine cN [] (F126_ok ht2) trivial (ww ?_)
 refine condSh h (fun c3 h=>?_) (fun c3 h=>?_)
 ·refine ww ?_
  refine condSh h (fun c4 h=>?_) (fun c4 h=>?_)
  ·refine ww ?_
   cases h
   exact eF []
  refine ww ?_
  cases h
  exact eF []
 refine ww ?_
 refine condSh h (fun c5 h=>?_) (fun c5 h=>?_)
 ·refine ww ?_
  cases h
  exact eF []
 refine ww ?_
 refine condSh h (fun c6 h=>?_) (fun c6 h=>?_)
 ·refine ww ?_
  cases h
  exact eF []
 refine ww ?_
 refine condSh h (fun c7 h=>?_) (fun c7 h=>?_)
 ·refine ww ?_
  cases h
  exact eF []
 refine ww ?_
 cases h
 exact eF []
def F18(x0:Watcher)(x1:Watcher):Option (Bool):=(((if x0.Rev=x1.Rev then(F44 x0.Filter x1.Filter).bind fun t3=>some t3 else some false)).bind fun o1=>some o1)
def a18:AFn:=⟨17,[(.tmp 4)],
 (.seq (.reg [sq 2 (.box (.t 0)),
sq 3 (.box (.t 1)),
sq 4 (.mv (kB false))])
 (.seq (.sem (.reg [sq 5 (.fieldA 3 (.t 2)),
sq 6 (.load none (.t 5)),
sq 7 (.fieldA 3 (.t 3)),
sq 8 (.load none (.t 7)),
sq 9 (.bin .eql (.t 6) (.t 8)),
sq 10 (.mv (.t 9)),
zg 11 10 true (.fieldA 0 (.t 2)),
zg 12 10 true (.load (some 3) (.t 11)),
zg 13 10 true (.fieldA 0 (.t 3)),
zg 14 10 true (.load (some 3) (.t 13)),
zg 15 10 true (.call 44 [(.t 12),(.t 14)]),
sq 16 (.pick (.t 10) (.t 15) (kB false)),
sq 4 (.mv (.t 16))]))
 .ret))⟩
theorem a18_ok:afn Tryz.prog 18=some a18.er:=by kernel_rfl
theorem F18_ok{x0 x1 r}(h:F18 x0 x1=some r):CallD Tryz.prog 18 [.agg [dS x0.Filter.Kind,dS x0.Filter.Namespace,dM (x0.Filter.Selector.map eRequirement),dI x0.Rev],.agg [dS x1.Filter.Kind,dS x1.Filter.Namespace,dM (x1.Filter.Selector.map eRequirement),dI x1.Rev]] [] (tupV [.c (dB r)]) []:=by
 refine callS a18_ok (by simp[a18]) ?_
 rw[F18]at h
 simp only[a18,VW.down,Nat.reduceEqDiff,reduceCtorEq,Nat.reduceAdd,Nat.reduceLeDiff,Nat.reduceLT,Nat.reduceBEq,Nat.reduceSub,EE.down]
 obtain⟨o1,ho,h⟩:=bi h
 refine cutS (fun s=>s=⟨[(4,.one (.c (dB o1)))],[]⟩) ?_ ?_
 ·have h:=ho
  clear ho
  refine ww ?_
  refine guardSh h (fun g2 h=>?_) (fun g2 h=>?_)
  ·refine ww ?_
   obtain⟨t3,ht3,h⟩:=bi h
   refine cN [] (F44_ok ht3) trivial (ww ?_)
   cases h
   exact eM [] rfl
  refine ww ?_
  cases h
  exact eM [] rfl
 rintro _ rfl
 clear ho
 refine ww ?_
 cases h
 exact eF []
end Go.Proofs.YtondgcmdhkhkkaaGreat
