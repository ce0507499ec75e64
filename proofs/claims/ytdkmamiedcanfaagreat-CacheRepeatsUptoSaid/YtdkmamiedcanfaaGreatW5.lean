/- Each Go function as a function over typed data, and its walk. -/
import Derived.Test.YtdkmamiedcanfaaGreatW0
import Derived.Test.YtdkmamiedcanfaaGreatW1
import Derived.Test.YtdkmamiedcanfaaGreatW3
import Derived.Test.YtdkmamiedcanfaaGreatW4
namespace Go.Proofs.YtdkmamiedcanfaaGreat
open Go Go.Fw Go.Shelf
set_option maxRecDepth 100000
set_option maxHeartbeats 4000000
set_option linter.unusedSimpArgs false
set_option linter.unusedVariables false
def F92(x0:Object):Option (ByteArray):=(F39 x0.Meta).bind fun t1=>some t1
def a92:AFn:=⟨6,[(.tmp 2)],
 (.seq (.reg [sq 1 (.box (.t 0)),
sq 2 (.mv (kS ⟨#[]⟩))])
 (.seq (.reg [sq 3 (.fieldA 0 (.t 1)),
sq 4 (.load (some 13) (.t 3)),
sq 5 (.call 39 [(.t 4)]),
sq 2 (.mv (.t 5))])
 .ret))⟩
theorem F92_ok{x0 r}(h:F92 x0=some r):CallD Tryz.prog 92 [.agg [dS x0.Meta.Kind,dS x0.Meta.Namespace,dS x0.Meta.Name,dI x0.Meta.Uid,dI x0.Meta.Version,dI x0.Meta.Generation,dI x0.Meta.Created,dB x0.Meta.Deleting,dI x0.Meta.DeleteAt,dM (x0.Meta.Labels.map eLabel),dM (x0.Meta.Owners.map eOwner),dM (x0.Meta.Finalizers.map eS),dM (x0.Meta.Managers.map eManager),dI x0.Spec.Kind,dI x0.Spec.N,dS x0.Spec.S,dM (x0.Spec.List_.map eTValue),dM (x0.Spec.Fields.map eTField),dI x0.Status.Kind,dI x0.Status.N,dS x0.Status.S,dM (x0.Status.List_.map eTValue),dM (x0.Status.Fields.map eTField)]] [] (tupV [.c (dS r)]) []:=by
 rw[F92]at h
 refine zc a92 (by kernel_rfl) rfl (ww ?_)
 obtain⟨t1,ht1,h⟩:=bi h
 refine cN [] (F39_ok ht1) trivial (ww ?_)
 cases h
 exact eF []
def F80_l11(x0:Requirement):List ByteArray→Nat→Option ((Bool) ⊕ (Unit))
 |[],o11_0=>some (Sum.inr (()))
 |xo11::xs,o11_0=>(((F114 xo11).bind fun t14=>(if(nb t14)=true then some true else(if 0<(o11_0:Int)then(rdI x0.Values ((IntKind.i64.wrap (((o11_0:Int))-1)))).bind fun y17=>some ((Op.bytesLess xo11.toList y17.toList||decide (xo11=y17)))else some false))).bind fun o13=>(if o13=true then(some false).map Sum.inl else F80_l11 x0 xs (o11_0+1)))
def F80(x0:Requirement):Option (Bool):=(F112 x0.Key).bind fun t1=>(if(nb t1)=true then some false else(F113 x0.Op).bind fun t3=>(if(nb t3)=true then(((if x0.Op=3 then some (decide ((x0.Values.length:Int)=0))else(if x0.Op=4 then some (decide ((x0.Values.length:Int)=0))else some false))).bind fun o5=>some o5)else(((if(x0.Values.length:Int)<1 then some true else some (decide (64<(x0.Values.length:Int))))).bind fun o8=>(if o8=true then some false else(((ck (0≤x0.Values.length∧x0.Values.length≤4294967290)).bind fun u19=>F80_l11 x0 x0.Values 0:Option ((Bool) ⊕ (Unit))).bind fun o11=>match o11 with|Sum.inl f=>some f|Sum.inr po11=>some true)))))
def a80:AFn:=⟨63,[(.tmp 2)],
 (.seq (.reg [sq 1 (.box (.t 0)),
sq 2 (.mv (kB false))])
 (.seq (.seq (.reg [sq 5 (.fieldA 0 (.t 1)),
sq 6 (.load none (.t 5)),
sq 7 (.call 112 [(.t 6)]),
sq 8 (.not (.t 7))])
 (.cond (.t 8)
 (.seq (.reg [sq 2 (.mv (kB false))])
 .ret)
 .skip))
 (.seq (.seq (.reg [sq 9 (.fieldA 1 (.t 1)),
sq 10 (.load none (.t 9)),
sq 11 (.call 113 [(.t 10)]),
sq 12 (.not (.t 11))])
 (.cond (.t 12)
 (.seq (.sem (.reg [sq 13 (.fieldA 1 (.t 1)),
sq 14 (.load none (.t 13)),
sq 15 (.bin .eql (.t 14) (kI 3)),
sq 16 (.mv (.t 15)),
zg 17 16 false (.fieldA 1 (.t 1)),
zg 18 16 false (.load none (.t 17)),
zg 19 16 false (.bin .eql (.t 18) (kI 4)),
sq 20 (.pick (.t 16) (kB true) (.t 19)),
sq 21 (.mv (.t 20)),
zg 22 21 true (.fieldA 2 (.t 1)),
zg 23 21 true (.load none (.t 22)),
zg 24 21 true (.len (.t 23)),
zg 25 21 true (.bin .eql (.t 24) (kI 0)),
sq 26 (.pick (.t 21) (.t 25) (kB false)),
sq 2 (.mv (.t 26))]))
 .ret)
 .skip))
 (.seq (.seq (.sem (.reg [sq 27 (.fieldA 2 (.t 1)),
sq 28 (.load none (.t 27)),
sq 29 (.len (.t 28)),
sq 30 (.bin .lss (.t 29) (kI 1)),
sq 31 (.mv (.t 30)),
zg 32 31 false (.fieldA 2 (.t 1)),
zg 33 31 false (.load none (.t 32)),
zg 34 31 false (.len (.t 33)),
zg 35 31 false (.bin .gtr (.t 34) (kI 64)),
zl 36 (.pick (.t 31) (kB true) (.t 35)) [] [1,27,28,1,32,33]]))
 (.cond (.t 36)
 (.seq (.reg [sq 2 (.mv (kB false))])
 .ret)
 .skip))
 (.seq (.seq (.reg [sq 37 (.fieldA 2 (.t 1)),
sq 38 (.load none (.t 37)),
sq 39 (.len (.t 38)),
sq 40 (.mv (kI 0))])
 (.sem (.block 0 (.loop (.seq (.reg [sq 41 (.bin .lss (.t 40) (.t 39))])
 (.seq (.cond (.t 41)
 .skip
 (.exit 0))
 (.seq (.block 1 (.seq (.reg [sq 42 (.mv (.t 40)),
sq 43 (.indexA 1 (.t 38) (.t 40)),
sq 44 (.load none (.t 43)),
sq 3 (.mv (.t 42)),
sq 4 (.mv (.t 44))])
 (.seq (.sem (.reg [sq 45 (.mv (.t 4)),
sq 46 (.call 114 [(.t 45)]),
sq 47 (.not (.t 46)),
sq 48 (.mv (.t 47)),
zg 49 48 false (.mv (.t 3)),
zg 50 48 false (.bin .gtr (.t 49) (kI 0)),
zg 51 48 false (.mv (.t 50)),
zg 52 51 true (.mv (.t 4)),
zg 53 51 true (.fieldA 2 (.t 1)),
zg 54 51 true (.load none (.t 53)),
zg 55 51 true (.mv (.t 3)),
zg 56 51 true (.bin .sub (.t 55) (kI 1)),
zg 57 51 true (.indexA 1 (.t 54) (.t 56)),
zg 58 51 true (.load none (.t 57)),
zg 59 51 true (.bin .leq (.t 52) (.t 58)),
zg 60 48 false (.pick (.t 51) (.t 59) (kB false)),
sq 61 (.pick (.t 48) (kB true) (.t 60))]))
 (.cond (.t 61)
 (.seq (.reg [sq 2 (.mv (kB false))])
 .ret)
 .skip))))
 (.reg [sq 62 (.bin .add (.t 40) (kI 1)),
sq 40 (.mv (.t 62))]))))))))
 (.seq (.reg [sq 2 (.mv (kB true))])
 .ret))))))⟩
theorem F80_ok{x0 r}(h:F80 x0=some r):CallD Tryz.prog 80 [.agg [dS x0.Key,dI x0.Op,dM (x0.Values.map eS)]] [] (tupV [.c (dB r)]) []:=by
 rw[F80]at h
 refine zc a80 (by kernel_rfl) rfl (ww ?_)
 obtain⟨t1,ht1,h⟩:=bi h
 refine cN [] (F112_ok ht1) trivial (ww ?_)
 refine condBh h (fun c2 h=>?_) (fun c2 h=>?_)
 ·refine ww ?_
  cases h
  exact eF []
 refine ww ?_
 obtain⟨t3,ht3,h⟩:=bi h
 refine cN [] (F113_ok ht3) trivial (ww ?_)
 refine condBh h (fun c4 h=>?_) (fun c4 h=>?_)
 ·refine ww ?_
  obtain⟨o5,ho,h⟩:=bi h
  refine cutS (fun s=>s=⟨[(2,.one (.c (dB o5)))],[]⟩) ?_ ?_
  ·have h:=ho
   clear ho
   refine ww ?_
   refine guardSh h (fun g6 h=>?_) (fun g6 h=>?_)
   ·refine ww ?_
    cases h
    exact eM [] rfl
   refine ww ?_
   refine guardSh h (fun g7 h=>?_) (fun g7 h=>?_)
   ·refine ww ?_
    cases h
    exact eM [] rfl
   refine ww ?_
   cases h
   exact eM [] rfl
  rintro _ rfl
  clear ho
  refine ww ?_
  cases h
  exact eF []
 refine ww ?_
 obtain⟨o8,ho,h⟩:=bi h
 refine cutS (fun s=>s=⟨[(1,.one (.c (.pt 0 0))),(36,.one (.c (dB o8)))],[some (.box [dS x0.Key,dI x0.Op,dM (x0.Values.map eS)])]⟩) ?_ ?_
 ·have h:=ho
  clear ho
  refine ww ?_
  refine guardSh h (fun g9 h=>?_) (fun g9 h=>?_)
  ·refine ww ?_
   cases h
   exact eM [some 0] rfl
  refine ww ?_
  cases h
  exact eM [some 0] rfl
 rintro _ rfl
 clear ho
 refine ww ?_
 refine condBh h (fun c10 h=>?_) (fun c10 h=>?_)
 ·refine ww ?_
  cases h
  exact eF []
 refine ww ?_
 obtain⟨o11,ho,h⟩:=bi h
 refine cutS (fun s=>∃po11,o11=Sum.inr po11∧s=⟨[],[]⟩) ?_ ?_
 ·have h0o11:=h
  have h:=ho
  clear ho
  obtain⟨_,hk,h⟩:=bi h
  have hk:=ck_some hk
  refine ww ?_
  refine bL (fun j s=>∃(o11_0:Nat),(o11_0≤x0.Values.length∧j=x0.Values.length-o11_0)∧s=⟨[(1,.one (.c (.pt 0 0))),(38,.one (.c (dM (x0.Values.map eS)))),(39,.one (.c (dI ((x0.Values.length:Int))))),(40,.one (.c (dI ((o11_0:Int)))))],[some (.box [dS x0.Key,dI x0.Op,dM (x0.Values.map eS)])]⟩∧F80_l11 x0 (x0.Values.drop o11_0) o11_0=some o11) (x0.Values.length-0) [some 0] ⟨0,⟨hk.1,rfl⟩,rfl,h⟩ ?_
  rintro _ _ ⟨o11_0,⟨hi,rfl⟩,rfl,h⟩
  refine ww ?_
  refine condS (fun c12=>?_) (fun c12=>?_)
  ·obtain⟨xo11,hxo11,hd⟩:=countY (show(o11_0:Int)<(x0.Values.length:Int)from c12)
   rw[hd,F80_l11]at h
   refine ww ?_
   refine t_idxF (enc:=eS) (xs:=x0.Values) rfl rfl hxo11 rfl (ww ?_)
   obtain⟨o13,ho,h⟩:=bi h
   refine cutS (fun s=>s=⟨[(1,.one (.c (.pt 0 0))),(38,.one (.c (dM (x0.Values.map eS)))),(39,.one (.c (dI ((x0.Values.length:Int))))),(40,.one (.c (dI ((o11_0:Int))))),(61,.one (.c (dB o13)))],[some (.box [dS x0.Key,dI x0.Op,dM (x0.Values.map eS)])]⟩) ?_ ?_
   ·have h:=ho
    clear ho
    refine ww ?_
    obtain⟨t14,ht14,h⟩:=bi h
    refine cN [] (F114_ok ht14) trivial (ww ?_)
    refine guardSBh h (fun g15 h=>?_) (fun g15 h=>?_)
    ·refine ww ?_
     cases h
     exact eM [some 0] rfl
    refine ww ?_
    refine guardSh h (fun g16 h=>?_) (fun g16 h=>?_)
    ·refine ww ?_
     obtain⟨y17,hy17,h⟩:=bi h
     refine t_idxF (enc:=eS) (xs:=x0.Values) rfl rfl hy17 rfl (ww ?_)
     cases h
     exact eM [some 0] rfl
    refine ww ?_
    cases h
    exact eM [some 0] rfl
   rintro _ rfl
   clear ho
   refine ww ?_
   refine condBh h (fun c18 h=>?_) (fun c18 h=>?_)
   ·refine ww ?_
    obtain⟨fh0o11,hfh0o11,rfl⟩:=Option.map_eq_some_iff.1 h
    have h:=hfh0o11.trans h0o11
    cases h
    exact eF []
   refine ww ?_
   rw[wrapN (by omega)]
   exact eL' (x0.Values.length-(o11_0+1)) [some 0] ⟨o11_0+1,⟨by omega,rfl⟩,rfl,h⟩ (by omega)
  rw[countN (show¬((o11_0:Int)<(x0.Values.length:Int))from c12),F80_l11]at h
  refine ww ?_
  cases h
  exact eM [] ⟨_,rfl,rfl⟩
 rintro _ ⟨po11,rfl,rfl⟩
 clear ho
 dsimp only at h
 refine ww ?_
 cases h
 exact eF []
def F118(x0:(List TValue)):Option ((List TValue)×(List TField)):=(F158k 1099511627776 ((⟨4,0,(⟨#[]⟩:ByteArray),x0,[]⟩:TValue))).bind fun t1=>some ((t1.1,t1.2))
def a118:AFn:=⟨6,[(.cell 2 (some 5))],
 (.seq (.reg [zl 2 (.zbox [dI 0,dI 0,dS ⟨#[]⟩,dN,dN]) [] []])
 (.seq (.reg [sq 3 (.mv (.t 0)),
sq 4 (.build [dI 0,dI 0,dS ⟨#[]⟩,dN,dN] [(0,1,(kI 4)),(3,1,(.t 3))]),
sq 5 (.call 158 [(.t 4)]),
su (.store 5 (.t 2) (.t 5))])
 .ret))⟩
theorem F118_ok{x0 r}(h:F118 x0=some r):CallD Tryz.prog 118 [.c (dM (x0.map eTValue))] [] (tupV [.agg [dI ((4:Int)),dI ((0:Int)),dS (((⟨#[]⟩:ByteArray))),.own 0 0 0 (r.1.length) none,.own 1 0 0 (r.2.length) none]]) [some (.arr 0 5 (r.1.map eTValue)),some (.arr 0 6 (r.2.map eTField))]:=by
 rw[F118]at h
 refine zc a118 (by kernel_rfl) rfl (ww ?_)
 obtain⟨t1,ht1,h⟩:=bi h
 refine cN [] (F158k_ok 1099511627776 ht1) trivial (ww ?_)
 cases h
 exact eF [some 1,some 2]
def F41_l19(x1:Meta):List Label→Nat→Option ((Bool) ⊕ (Unit))
 |[],o19_0=>some (Sum.inr (()))
 |xo19::xs,o19_0=>(rdI x1.Labels ((o19_0:Int))).bind fun y21=>(if¬(xo19.Key=y21.Key∧xo19.Value=y21.Value)then(some false).map Sum.inl else F41_l19 x1 xs (o19_0+1))
def F41_l24(x1:Meta):List Owner→Nat→Option ((Bool) ⊕ (Unit))
 |[],o24_0=>some (Sum.inr (()))
 |xo24::xs,o24_0=>(rdI x1.Owners ((o24_0:Int))).bind fun y26=>(if(nb ((decide (xo24.Kind=y26.Kind)&&(decide (xo24.Name=y26.Name)&&(decide (xo24.Uid=y26.Uid)&&((xo24.Controller==y26.Controller)&&(xo24.Block==y26.Block)))))))=true then(some false).map Sum.inl else F41_l24 x1 xs (o24_0+1))
def F41_l29(x1:Meta):List Manager→Nat→Option ((Bool) ⊕ (Unit))
 |[],o29_0=>some (Sum.inr (()))
 |xo29::xs,o29_0=>(((rdI x1.Managers ((o29_0:Int))).bind fun y32=>(if¬(xo29.Name=y32.Name)then some true else(F71 xo29.Fields y32.Fields).bind fun t34=>some (nb t34))).bind fun o31=>(if o31=true then(some false).map Sum.inl else F41_l29 x1 xs (o29_0+1)))
def F41(x0:Meta)(x1:Meta):Option (Bool):=(((F39 x0).bind fun t2=>(F39 x1).bind fun t3=>(if¬(t2=t3)then some true else(if¬(x0.Kind=x1.Kind)then some true else(if¬(x0.Namespace=x1.Namespace)then some true else(if¬(x0.Uid=x1.Uid)then some true else(if¬(x0.Version=x1.Version)then some true else(if¬(x0.Generation=x1.Generation)then some true else(if¬(x0.Created=x1.Created)then some true else(if(((x0.Deleting==x1.Deleting)!=true))=true then some true else some (decide (¬(x0.DeleteAt=x1.DeleteAt)))))))))))).bind fun o1=>(if o1=true then some false else(((if¬((x0.Labels.length:Int)=(x1.Labels.length:Int))then some true else(if¬((x0.Owners.length:Int)=(x1.Owners.length:Int))then some true else(if¬((x0.Managers.length:Int)=(x1.Managers.length:Int))then some true else(F71 x0.Finalizers x1.Finalizers).bind fun t17=>some (nb t17))))).bind fun o13=>(if o13=true then some false else(((ck (0≤x0.Labels.length∧x0.Labels.length≤4294967290)).bind fun u23=>F41_l19 x1 x0.Labels 0:Option ((Bool) ⊕ (Unit))).bind fun o19=>match o19 with|Sum.inl f=>some f|Sum.inr po19=>(((ck (0≤x0.Owners.length∧x0.Owners.length≤4294967290)).bind fun u28=>F41_l24 x1 x0.Owners 0:Option ((Bool) ⊕ (Unit))).bind fun o24=>match o24 with|Sum.inl f=>some f|Sum.inr po24=>(((ck (0≤x0.Managers.length∧x0.Managers.length≤4294967290)).bind fun u36=>F41_l29 x1 x0.Managers 0:Option ((Bool) ⊕ (Unit))).bind fun o29=>match o29 with|Sum.inl f=>some f|Sum.inr po29=>some true)))))))
def a41:AFn:=⟨174,[(.tmp 4)],
 (.seq (.reg [sq 2 (.box (.t 0)),
sq 3 (.box (.t 1)),
sq 4 (.mv (kB false))])
 (.seq (.seq (.sem (.regd [sq 8 (.load (some 13) (.t 2)),
zn 9 (.call 39 [(.t 8)]) [0] [0],
sq 10 (.load (some 13) (.t 3)),
zl 11 (.call 39 [(.t 10)]) [0,1,2] [],
sd 12 (.bin .neq (.t 9) (.t 11)) [0,1,2,3],
sd 13 (.mv (.t 12)) [0,1,2,3,4],
⟨(some 14),(some (13,false)),.fieldA 0 (.t 2),[0,1,2,3,4,5],(.new [])⟩,
⟨(some 15),(some (13,false)),.load none (.t 14),[0,1,2,3,4,5,6],(.new [])⟩,
⟨(some 16),(some (13,false)),.fieldA 0 (.t 3),[0,1,2,3,4,5],(.new [])⟩,
⟨(some 17),(some (13,false)),.load none (.t 16),[0,1,2,3,4,5,8],(.new [])⟩,
⟨(some 18),(some (13,false)),.bin .neq (.t 15) (.t 17),[0,1,2,3,4,5,6,7,8,9],(.new [])⟩,
zl 19 (.pick (.t 13) (kB true) (.t 18)) [0,1,2,3,4,5,6,7,8,9,10] [],
sd 20 (.mv (.t 19)) [0,1,2,3,4,5,6,7,8,9,10,11],
⟨(some 21),(some (20,false)),.fieldA 1 (.t 2),[0,1,2,3,4,5,6,7,8,9,10,11,12],(.new [])⟩,
⟨(some 22),(some (20,false)),.load none (.t 21),[0,1,2,3,4,5,6,7,8,9,10,11,12,13],(.new [])⟩,
⟨(some 23),(some (20,false)),.fieldA 1 (.t 3),[0,1,2,3,4,5,6,7,8,9,10,11,12],(.new [])⟩,
⟨(some 24),(some (20,false)),.load none (.t 23),[0,1,2,3,4,5,6,7,8,9,10,11,12,15],(.new [])⟩,
⟨(some 25),(some (20,false)),.bin .neq (.t 22) (.t 24),[0,1,2,3,4,5,6,7,8,9,10,11,12,13,14,15,16],(.new [])⟩,
zl 26 (.pick (.t 20) (kB true) (.t 25)) [0,1,2,3,4,5,6,7,8,9,10,11,12,13,14,15,16,17] [],
sd 27 (.mv (.t 26)) [0,1,2,3,4,5,6,7,8,9,10,11,12,13,14,15,16,17,18],
⟨(some 28),(some (27,false)),.fieldA 3 (.t 2),[0,1,2,3,4,5,6,7,8,9,10,11,12,13,14,15,16,17,18,19],(.new [])⟩,
⟨(some 29),(some (27,false)),.load none (.t 28),[0,1,2,3,4,5,6,7,8,9,10,11,12,13,14,15,16,17,18,19,20],(.new [])⟩,
⟨(some 30),(some (27,false)),.fieldA 3 (.t 3),[0,1,2,3,4,5,6,7,8,9,10,11,12,13,14,15,16,17,18,19],(.new [])⟩,
⟨(some 31),(some (27,false)),.load none (.t 30),[0,1,2,3,4,5,6,7,8,9,10,11,12,13,14,15,16,17,18,19,22],(.new [])⟩,
⟨(some 32),(some (27,false)),.bin .neq (.t 29) (.t 31),[0,1,2,3,4,5,6,7,8,9,10,11,12,13,14,15,16,17,18,19,20,21,22,23],(.new [])⟩,
zl 33 (.pick (.t 27) (kB true) (.t 32)) [0,1,2,3,4,5,6,7,8,9,10,11,12,13,14,15,16,17,18,19,20,21,22,23,24] [],
sd 34 (.mv (.t 33)) [0,1,2,3,4,5,6,7,8,9,10,11,12,13,14,15,16,17,18,19,20,21,22,23,24,25],
⟨(some 35),(some (34,false)),.fieldA 4 (.t 2),[0,1,2,3,4,5,6,7,8,9,10,11,12,13,14,15,16,17,18,19,20,21,22,23,24,25,26],(.new [])⟩,
⟨(some 36),(some (34,false)),.load none (.t 35),[0,1,2,3,4,5,6,7,8,9,10,11,12,13,14,15,16,17,18,19,20,21,22,23,24,25,26,27],(.new [])⟩,
⟨(some 37),(some (34,false)),.fieldA 4 (.t 3),[0,1,2,3,4,5,6,7,8,9,10,11,12,13,14,15,16,17,18,19,20,21,22,23,24,25,26],(.new [])⟩,
⟨(some 38),(some (34,false)),.load none (.t 37),[0,1,2,3,4,5,6,7,8,9,10,11,12,13,14,15,16,17,18,19,20,21,22,23,24,25,26,29],(.new [])⟩,
⟨(some 39),(some (34,false)),.bin .neq (.t 36) (.t 38),[0,1,2,3,4,5,6,7,8,9,10,11,12,13,14,15,16,17,18,19,20,21,22,23,24,25,26,27,28,29,30],(.new [])⟩,
zl 40 (.pick (.t 34) (kB true) (.t 39)) [0,1,2,3,4,5,6,7,8,9,10,11,12,13,14,15,16,17,18,19,20,21,22,23,24,25,26,27,28,29,30,31] [],
sd 41 (.mv (.t 40)) [0,1,2,3,4,5,6,7,8,9,10,11,12,13,14,15,16,17,18,19,20,21,22,23,24,25,26,27,28,29,30,31,32],
⟨(some 42),(some (41,false)),.fieldA 5 (.t 2),[0,1,2,3,4,5,6,7,8,9,10,11,12,13,14,15,16,17,18,19,20,21,22,23,24,25,26,27,28,29,30,31,32,33],(.new [])⟩,
⟨(some 43),(some (41,false)),.load none (.t 42),[0,1,2,3,4,5,6,7,8,9,10,11,12,13,14,15,16,17,18,19,20,21,22,23,24,25,26,27,28,29,30,31,32,33,34],(.new [])⟩,
⟨(some 44),(some (41,false)),.fieldA 5 (.t 3),[0,1,2,3,4,5,6,7,8,9,10,11,12,13,14,15,16,17,18,19,20,21,22,23,24,25,26,27,28,29,30,31,32,33],(.new [])⟩,
⟨(some 45),(some (41,false)),.load none (.t 44),[0,1,2,3,4,5,6,7,8,9,10,11,12,13,14,15,16,17,18,19,20,21,22,23,24,25,26,27,28,29,30,31,32,33,36],(.new [])⟩,
⟨(some 46),(some (41,false)),.bin .neq (.t 43) (.t 45),[0,1,2,3,4,5,6,7,8,9,10,11,12,13,14,15,16,17,18,19,20,21,22,23,24,25,26,27,28,29,30,31,32,33,34,35,36,37],(.new [])⟩,
zl 47 (.pick (.t 41) (kB true) (.t 46)) [0,1,2,3,4,5,6,7,8,9,10,11,12,13,14,15,16,17,18,19,20,21,22,23,24,25,26,27,28,29,30,31,32,33,34,35,36,37,38] [],
sd 48 (.mv (.t 47)) [0,1,2,3,4,5,6,7,8,9,10,11,12,13,14,15,16,17,18,19,20,21,22,23,24,25,26,27,28,29,30,31,32,33,34,35,36,37,38,39],
⟨(some 49),(some (48,false)),.fieldA 6 (.t 2),[0,1,2,3,4,5,6,7,8,9,10,11,12,13,14,15,16,17,18,19,20,21,22,23,24,25,26,27,28,29,30,31,32,33,34,35,36,37,38,39,40],(.new [])⟩,
⟨(some 50),(some (48,false)),.load none (.t 49),[0,1,2,3,4,5,6,7,8,9,10,11,12,13,14,15,16,17,18,19,20,21,22,23,24,25,26,27,28,29,30,31,32,33,34,35,36,37,38,39,40,41],(.new [])⟩,
⟨(some 51),(some (48,false)),.fieldA 6 (.t 3),[0,1,2,3,4,5,6,7,8,9,10,11,12,13,14,15,16,17,18,19,20,21,22,23,24,25,26,27,28,29,30,31,32,33,34,35,36,37,38,39,40],(.new [])⟩,
⟨(some 52),(some (48,false)),.load none (.t 51),[0,1,2,3,4,5,6,7,8,9,10,11,12,13,14,15,16,17,18,19,20,21,22,23,24,25,26,27,28,29,30,31,32,33,34,35,36,37,38,39,40,43],(.new [])⟩,
⟨(some 53),(some (48,false)),.bin .neq (.t 50) (.t 52),[0,1,2,3,4,5,6,7,8,9,10,11,12,13,14,15,16,17,18,19,20,21,22,23,24,25,26,27,28,29,30,31,32,33,34,35,36,37,38,39,40,41,42,43,44],(.new [])⟩,
zl 54 (.pick (.t 48) (kB true) (.t 53)) [0,1,2,3,4,5,6,7,8,9,10,11,12,13,14,15,16,17,18,19,20,21,22,23,24,25,26,27,28,29,30,31,32,33,34,35,36,37,38,39,40,41,42,43,44,45] [],
sd 55 (.mv (.t 54)) [0,1,2,3,4,5,6,7,8,9,10,11,12,13,14,15,16,17,18,19,20,21,22,23,24,25,26,27,28,29,30,31,32,33,34,35,36,37,38,39,40,41,42,43,44,45,46],
⟨(some 56),(some (55,false)),.fieldA 7 (.t 2),[0,1,2,3,4,5,6,7,8,9,10,11,12,13,14,15,16,17,18,19,20,21,22,23,24,25,26,27,28,29,30,31,32,33,34,35,36,37,38,39,40,41,42,43,44,45,46,47],(.new [])⟩,
⟨(some 57),(some (55,false)),.load none (.t 56),[0,1,2,3,4,5,6,7,8,9,10,11,12,13,14,15,16,17,18,19,20,21,22,23,24,25,26,27,28,29,30,31,32,33,34,35,36,37,38,39,40,41,42,43,44,45,46,47,48],(.new [])⟩,
⟨(some 58),(some (55,false)),.fieldA 7 (.t 3),[0,1,2,3,4,5,6,7,8,9,10,11,12,13,14,15,16,17,18,19,20,21,22,23,24,25,26,27,28,29,30,31,32,33,34,35,36,37,38,39,40,41,42,43,44,45,46,47],(.new [])⟩,
⟨(some 59),(some (55,false)),.load none (.t 58),[0,1,2,3,4,5,6,7,8,9,10,11,12,13,14,15,16,17,18,19,20,21,22,23,24,25,26,27,28,29,30,31,32,33,34,35,36,37,38,39,40,41,42,43,44,45,46,47,50],(.new [])⟩,
⟨(some 60),(some (55,false)),.beq true (.t 57) (.t 59),[0,1,2,3,4,5,6,7,8,9,10,11,12,13,14,15,16,17,18,19,20,21,22,23,24,25,26,27,28,29,30,31,32,33,34,35,36,37,38,39,40,41,42,43,44,45,46,47,48,49,50,51],(.new [])⟩,
zl 61 (.pick (.t 55) (kB true) (.t 60)) [0,1,2,3,4,5,6,7,8,9,10,11,12,13,14,15,16,17,18,19,20,21,22,23,24,25,26,27,28,29,30,31,32,33,34,35,36,37,38,39,40,41,42,43,44,45,46,47,48,49,50,51,52] [],
sd 62 (.mv (.t 61)) [0,1,2,3,4,5,6,7,8,9,10,11,12,13,14,15,16,17,18,19,20,21,22,23,24,25,26,27,28,29,30,31,32,33,34,35,36,37,38,39,40,41,42,43,44,45,46,47,48,49,50,51,52,53],
⟨(some 63),(some (62,false)),.fieldA 8 (.t 2),[0,1,2,3,4,5,6,7,8,9,10,11,12,13,14,15,16,17,18,19,20,21,22,23,24,25,26,27,28,29,30,31,32,33,34,35,36,37,38,39,40,41,42,43,44,45,46,47,48,49,50,51,52,53,54],(.new [])⟩,
⟨(some 64),(some (62,false)),.load none (.t 63),[0,1,2,3,4,5,6,7,8,9,10,11,12,13,14,15,16,17,18,19,20,21,22,23,24,25,26,27,28,29,30,31,32,33,34,35,36,37,38,39,40,41,42,43,44,45,46,47,48,49,50,51,52,53,54,55],(.new [])⟩,
⟨(some 65),(some (62,false)),.fieldA 8 (.t 3),[0,1,2,3,4,5,6,7,8,9,10,11,12,13,14,15,16,17,18,19,20,21,22,23,24,25,26,27,28,29,30,31,32,33,34,35,36,37,38,39,40,41,42,43,44,45,46,47,48,49,50,51,52,53,54],(.new [])⟩,
⟨(some 66),(some (62,false)),.load none (.t 65),[0,1,2,3,4,5,6,7,8,9,10,11,12,13,14,15,16,17,18,19,20,21,22,23,24,25,26,27,28,29,30,31,32,33,34,35,36,37,38,39,40,41,42,43,44,45,46,47,48,49,50,51,52,53,54,57],(.new [])⟩,
⟨(some 67),(some (62,false)),.bin .neq (.t 64) (.t 66),[0,1,2,3,4,5,6,7,8,9,10,11,12,13,14,15,16,17,18,19,20,21,22,23,24,25,26,27,28,29,30,31,32,33,34,35,36,37,38,39,40,41,42,43,44,45,46,47,48,49,50,51,52,53,54,55,56,57,58],(.new [])⟩,
zl 68 (.pick (.t 62) (kB true) (.t 67)) [0,1,2,3,4,5,6,7,8,9,10,11,12,13,14,15,16,17,18,19,20,21,22,23,24,25,26,27,28,29,30,31,32,33,34,35,36,37,38,39,40,41,42,43,44,45,46,47,48,49,50,51,52,53,54,55,56,57,58,59] []]))
 (.cond (.t 68)
 (.seq (.reg [sq 4 (.mv (kB false))])
 .ret)
 .skip))
 (.seq (.seq (.sem (.reg [sq 69 (.fieldA 9 (.t 2)),
sq 70 (.load none (.t 69)),
sq 71 (.len (.t 70)),
sq 72 (.fieldA 9 (.t 3)),
sq 73 (.load none (.t 72)),
sq 74 (.len (.t 73)),
sq 75 (.bin .neq (.t 71) (.t 74)),
sq 76 (.mv (.t 75)),
zg 77 76 false (.fieldA 10 (.t 2)),
zg 78 76 false (.load none (.t 77)),
zg 79 76 false (.len (.t 78)),
zg 80 76 false (.fieldA 10 (.t 3)),
zg 81 76 false (.load none (.t 80)),
zg 82 76 false (.len (.t 81)),
zg 83 76 false (.bin .neq (.t 79) (.t 82)),
sq 84 (.pick (.t 76) (kB true) (.t 83)),
sq 85 (.mv (.t 84)),
zg 86 85 false (.fieldA 12 (.t 2)),
zg 87 85 false (.load none (.t 86)),
zg 88 85 false (.len (.t 87)),
zg 89 85 false (.fieldA 12 (.t 3)),
zg 90 85 false (.load none (.t 89)),
zg 91 85 false (.len (.t 90)),
zg 92 85 false (.bin .neq (.t 88) (.t 91)),
sq 93 (.pick (.t 85) (kB true) (.t 92)),
sq 94 (.mv (.t 93)),
zg 95 94 false (.fieldA 11 (.t 2)),
zg 96 94 false (.load none (.t 95)),
zg 97 94 false (.fieldA 11 (.t 3)),
zg 98 94 false (.load none (.t 97)),
zg 99 94 false (.call 71 [(.t 96),(.t 98)]),
zg 100 94 false (.not (.t 99)),
sq 101 (.pick (.t 94) (kB true) (.t 100))]))
 (.cond (.t 101)
 (.seq (.reg [sq 4 (.mv (kB false))])
 .ret)
 .skip))
 (.seq (.seq (.reg [sq 5 (.mv (kI 0))])
 (.sem (.block 0 (.loop (.seq (.seq (.reg [sq 102 (.mv (.t 5)),
sq 103 (.fieldA 9 (.t 2)),
sq 104 (.load none (.t 103)),
sq 105 (.len (.t 104)),
sq 106 (.bin .lss (.t 102) (.t 105))])
 (.cond (.t 106)
 .skip
 (.exit 0)))
 (.seq (.block 1 (.seq (.regd [sq 109 (.fieldA 9 (.t 2)),
sd 110 (.load none (.t 109)) [0],
sq 111 (.mv (.t 5)),
sd 112 (.indexA 2 (.t 110) (.t 111)) [0,1,2],
sd 113 (.load (some 2) (.t 112)) [0,1,2,3],
sq 114 (.fieldA 9 (.t 3)),
sd 115 (.load none (.t 114)) [5],
sq 116 (.mv (.t 5)),
sd 117 (.indexA 2 (.t 115) (.t 116)) [5,6,7],
sd 118 (.load (some 2) (.t 117)) [5,6,7,8],
zl 119 (.eqs true [(0,2),(1,2)] (.t 113) (.t 118)) [0,1,2,3,4,5,6,7,8,9] []])
 (.cond (.t 119)
 (.seq (.reg [sq 4 (.mv (kB false))])
 .ret)
 .skip)))
 (.reg [sq 107 (.mv (.t 5)),
sq 108 (.bin .add (.t 107) (kI 1)),
sq 5 (.mv (.t 108))])))))))
 (.seq (.seq (.reg [sq 6 (.mv (kI 0))])
 (.sem (.block 2 (.loop (.seq (.seq (.reg [sq 120 (.mv (.t 6)),
sq 121 (.fieldA 10 (.t 2)),
sq 122 (.load none (.t 121)),
sq 123 (.len (.t 122)),
sq 124 (.bin .lss (.t 120) (.t 123))])
 (.cond (.t 124)
 .skip
 (.exit 2)))
 (.seq (.block 3 (.seq (.regd [sq 127 (.fieldA 10 (.t 2)),
sd 128 (.load none (.t 127)) [0],
sq 129 (.mv (.t 6)),
sd 130 (.indexA 5 (.t 128) (.t 129)) [0,1,2],
sd 131 (.load (some 5) (.t 130)) [0,1,2,3],
sq 132 (.fieldA 10 (.t 3)),
sd 133 (.load none (.t 132)) [5],
sq 134 (.mv (.t 6)),
sd 135 (.indexA 5 (.t 133) (.t 134)) [5,6,7],
sd 136 (.load (some 5) (.t 135)) [5,6,7,8],
zl 137 (.eqs true [(0,2),(1,2),(2,0),(3,1),(4,1)] (.t 131) (.t 136)) [0,1,2,3,4,5,6,7,8,9] []])
 (.cond (.t 137)
 (.seq (.reg [sq 4 (.mv (kB false))])
 .ret)
 .skip)))
 (.reg [sq 125 (.mv (.t 6)),
sq 126 (.bin .add (.t 125) (kI 1)),
sq 6 (.mv (.t 126))])))))))
 (.seq (.seq (.reg [sq 7 (.mv (kI 0))])
 (.sem (.block 4 (.loop (.seq (.seq (.reg [sq 138 (.mv (.t 7)),
sq 139 (.fieldA 12 (.t 2)),
sq 140 (.load none (.t 139)),
sq 141 (.len (.t 140)),
sq 142 (.bin .lss (.t 138) (.t 141))])
 (.cond (.t 142)
 .skip
 (.exit 4)))
 (.seq (.block 5 (.seq (.sem (.regd [sq 145 (.fieldA 12 (.t 2)),
sd 146 (.load none (.t 145)) [0],
sq 147 (.mv (.t 7)),
sd 148 (.indexA 2 (.t 146) (.t 147)) [0,1,2],
sd 149 (.fieldA 0 (.t 148)) [0,1,2,3],
sd 150 (.load none (.t 149)) [0,1,2,3,4],
sq 151 (.fieldA 12 (.t 3)),
sd 152 (.load none (.t 151)) [6],
sq 153 (.mv (.t 7)),
sd 154 (.indexA 2 (.t 152) (.t 153)) [6,7,8],
sd 155 (.fieldA 0 (.t 154)) [6,7,8,9],
sd 156 (.load none (.t 155)) [6,7,8,9,10],
sd 157 (.bin .neq (.t 150) (.t 156)) [0,1,2,3,4,5,6,7,8,9,10,11],
sd 158 (.mv (.t 157)) [0,1,2,3,4,5,6,7,8,9,10,11,12],
⟨(some 159),(some (158,false)),.fieldA 12 (.t 2),[0,1,2,3,4,5,6,7,8,9,10,11,12,13],(.new [])⟩,
⟨(some 160),(some (158,false)),.load none (.t 159),[0,1,2,3,4,5,6,7,8,9,10,11,12,13,14],(.new [])⟩,
⟨(some 161),(some (158,false)),.mv (.t 7),[0,1,2,3,4,5,6,7,8,9,10,11,12,13],(.new [])⟩,
⟨(some 162),(some (158,false)),.indexA 2 (.t 160) (.t 161),[0,1,2,3,4,5,6,7,8,9,10,11,12,13,14,15,16],(.new [])⟩,
⟨(some 163),(some (158,false)),.fieldA 1 (.t 162),[0,1,2,3,4,5,6,7,8,9,10,11,12,13,14,15,16,17],(.new [])⟩,
⟨(some 164),(some (158,false)),.load none (.t 163),[0,1,2,3,4,5,6,7,8,9,10,11,12,13,14,15,16,17,18],(.new [])⟩,
⟨(some 165),(some (158,false)),.fieldA 12 (.t 3),[0,1,2,3,4,5,6,7,8,9,10,11,12,13],(.new [])⟩,
⟨(some 166),(some (158,false)),.load none (.t 165),[0,1,2,3,4,5,6,7,8,9,10,11,12,13,20],(.new [])⟩,
⟨(some 167),(some (158,false)),.mv (.t 7),[0,1,2,3,4,5,6,7,8,9,10,11,12,13],(.new [])⟩,
⟨(some 168),(some (158,false)),.indexA 2 (.t 166) (.t 167),[0,1,2,3,4,5,6,7,8,9,10,11,12,13,20,21,22],(.new [])⟩,
⟨(some 169),(some (158,false)),.fieldA 1 (.t 168),[0,1,2,3,4,5,6,7,8,9,10,11,12,13,20,21,22,23],(.new [])⟩,
⟨(some 170),(some (158,false)),.load none (.t 169),[0,1,2,3,4,5,6,7,8,9,10,11,12,13,20,21,22,23,24],(.new [])⟩,
⟨(some 171),(some (158,false)),.call 71 [(.t 164),(.t 170)],[0,1,2,3,4,5,6,7,8,9,10,11,12,13,14,15,16,17,18,19,20,21,22,23,24,25],(.lone [])⟩,
⟨(some 172),(some (158,false)),.not (.t 171),[0,1,2,3,4,5,6,7,8,9,10,11,12,13,14,15,16,17,18,19,20,21,22,23,24,25,26],(.new [])⟩,
zl 173 (.pick (.t 158) (kB true) (.t 172)) [0,1,2,3,4,5,6,7,8,9,10,11,12,13,14,15,16,17,18,19,20,21,22,23,24,25,26,27] []]))
 (.cond (.t 173)
 (.seq (.reg [sq 4 (.mv (kB false))])
 .ret)
 .skip)))
 (.reg [sq 143 (.mv (.t 7)),
sq 144 (.bin .add (.t 143) (kI 1)),
sq 7 (.mv (.t 144))])))))))
 (.seq (.reg [sq 4 (.mv (kB true))])
 .ret)))))))⟩
theorem F41_ok{x0 x1 r}(h:F41 x0 x1=some r):CallD Tryz.prog 41 [.agg [dS x0.Kind,dS x0.Namespace,dS x0.Name,dI x0.Uid,dI x0.Version,dI x0.Generation,dI x0.Created,dB x0.Deleting,dI x0.DeleteAt,dM (x0.Labels.map eLabel),dM (x0.Owners.map eOwner),dM (x0.Finalizers.map eS),dM (x0.Managers.map eManager)],.agg [dS x1.Kind,dS x1.Namespace,dS x1.Name,dI x1.Uid,dI x1.Version,dI x1.Generation,dI x1.Created,dB x1.Deleting,dI x1.DeleteAt,dM (x1.Labels.map eLabel),dM (x1.Owners.map eOwner),dM (x1.Finalizers.map eS),dM (x1.Managers.map eManager)]] [] (tupV [.c (dB r)]) []:=by
 rw[F41]at h
 refine zc a41 (by kernel_rfl) rfl (ww ?_)
 obtain⟨o1,ho,h⟩:=bi h
 refine cutS (fun s=>s=⟨[(2,.one (.c (.pt 0 0))),(3,.one (.c (.pt 1 0))),(68,.one (.c (dB o1)))],[some (.box [dS x0.Kind,dS x0.Namespace,dS x0.Name,dI x0.Uid,dI x0.Version,dI x0.Generation,dI x0.Created,dB x0.Deleting,dI x0.DeleteAt,dM (x0.Labels.map eLabel),dM (x0.Owners.map eOwner),dM (x0.Finalizers.map eS),dM (x0.Managers.map eManager)]),some (.box [dS x1.Kind,dS x1.Namespace,dS x1.Name,dI x1.Uid,dI x1.Version,dI x1.Generation,dI x1.Created,dB x1.Deleting,dI x1.DeleteAt,dM (x1.Labels.map eLabel),dM (x1.Owners.map eOwner),dM (x1.Finalizers.map eS),dM (x1.Managers.map eManager)])]⟩) ?_ ?_
 ·have h:=ho
  clear ho
  refine ww ?_
  obtain⟨t2,ht2,h⟩:=bi h
  refine cN [] (F39_ok ht2) trivial (ww ?_)
  obtain⟨t3,ht3,h⟩:=bi h
  refine cN [] (F39_ok ht3) trivial (ww ?_)
  refine guardDh h (fun g4 h=>?_) (fun g4 h=>?_)
  ·refine ww ?_
   cases h
   exact eM [some 0,some 1] rfl
  refine ww ?_
  refine guardDh h (fun g5 h=>?_) (fun g5 h=>?_)
  ·refine ww ?_
   cases h
   exact eM [some 0,some 1] rfl
  refine ww ?_
  refine guardDh h (fun g6 h=>?_) (fun g6 h=>?_)
  ·refine ww ?_
   cases h
   exact eM [some 0,some 1] rfl
  refine ww ?_
  refine guardDh h (fun g7 h=>?_) (fun g7 h=>?_)
  ·refine ww ?_
   cases h
   exact eM [some 0,some 1] rfl
  refine ww ?_
  refine guardDh h (fun g8 h=>?_) (fun g8 h=>?_)
  ·refine ww ?_
   cases h
   exact eM [some 0,some 1] rfl
  refine ww ?_
  refine guardDh h (fun g9 h=>?_) (fun g9 h=>?_)
  ·refine ww ?_
   cases h
   exact eM [some 0,some 1] rfl
  refine ww ?_
  refine guardDh h (fun g10 h=>?_) (fun g10 h=>?_)
  ·refine ww ?_
   cases h
   exact eM [some 0,some 1] rfl
  refine ww ?_
  refine guardDBh h (fun g11 h=>?_) (fun g11 h=>?_)
  ·refine ww ?_
   cases h
   exact eM [some 0,some 1] rfl
  refine ww ?_
  cases h
  exact eM [some 0,some 1] rfl
 rintro _ rfl
 clear ho
 refine ww ?_
 refine condBh h (fun c12 h=>?_) (fun c12 h=>?_)
 ·refine ww ?_
  cases h
  exact eF []
 refine ww ?_
 obtain⟨o13,ho,h⟩:=bi h
 refine cutS (fun s=>s=⟨[(2,.one (.c (.pt 0 0))),(3,.one (.c (.pt 1 0))),(101,.one (.c (dB o13)))],[some (.box [dS x0.Kind,dS x0.Namespace,dS x0.Name,dI x0.Uid,dI x0.Version,dI x0.Generation,dI x0.Created,dB x0.Deleting,dI x0.DeleteAt,dM (x0.Labels.map eLabel),dM (x0.Owners.map eOwner),dM (x0.Finalizers.map eS),dM (x0.Managers.map eManager)]),some (.box [dS x1.Kind,dS x1.Namespace,dS x1.Name,dI x1.Uid,dI x1.Version,dI x1.Generation,dI x1.Created,dB x1.Deleting,dI x1.DeleteAt,dM (x1.Labels.map eLabel),dM (x1.Owners.map eOwner),dM (x1.Finalizers.map eS),dM (x1.Managers.map eManager)])]⟩) ?_ ?_
 ·have h:=ho
  clear ho
  refine ww ?_
  refine guardSh h (fun g14 h=>?_) (fun g14 h=>?_)
  ·refine ww ?_
   cases h
   exact eM [some 0,some 1] rfl
  refine ww ?_
  refine guardSh h (fun g15 h=>?_) (fun g15 h=>?_)
  ·refine ww ?_
   cases h
   exact eM [some 0,some 1] rfl
  refine ww ?_
  refine guardSh h (fun g16 h=>?_) (fun g16 h=>?_)
  ·refine ww ?_
   cases h
   exact eM [some 0,some 1] rfl
  refine ww ?_
  obtain⟨t17,ht17,h⟩:=bi h
  refine cN [] (F71_ok ht17) trivial (ww ?_)
  cases h
  exact eM [some 0,some 1] rfl
 rintro _ rfl
 clear ho
 refine ww ?_
 refine condBh h (fun c18 h=>?_) (fun c18 h=>?_)
 ·refine ww ?_
  cases h
  exact eF []
 refine ww ?_
 obtain⟨o19,ho,h⟩:=bi h
 refine cutS (fun s=>∃po19,o19=Sum.inr po19∧s=⟨[(2,.one (.c (.pt 0 0))),(3,.one (.c (.pt 1 0)))],[some (.box [dS x0.Kind,dS x0.Namespace,dS x0.Name,dI x0.Uid,dI x0.Version,dI x0.Generation,dI x0.Created,dB x0.Deleting,dI x0.DeleteAt,dM (x0.Labels.map eLabel),dM (x0.Owners.map eOwner),dM (x0.Finalizers.map eS),dM (x0.Managers.map eManager)]),some (.box [dS x1.Kind,dS x1.Namespace,dS x1.Name,dI x1.Uid,dI x1.Version,dI x1.Generation,dI x1.Created,dB x1.Deleting,dI x1.DeleteAt,dM (x1.Labels.map eLabel),dM (x1.Owners.map eOwner),dM (x1.Finalizers.map eS),dM (x1.Managers.map eManager)])]⟩) ?_ ?_
 ·have h0o19:=h
  have h:=ho
  clear ho
  obtain⟨_,hk,h⟩:=bi h
  have hk:=ck_some hk
  refine ww ?_
  refine bL (fun j s=>∃(o19_0:Nat),(o19_0≤x0.Labels.length∧j=x0.Labels.length-o19_0)∧s=⟨[(2,.one (.c (.pt 0 0))),(3,.one (.c (.pt 1 0))),(5,.one (.c (dI ((o19_0:Int)))))],[some (.box [dS x0.Kind,dS x0.Namespace,dS x0.Name,dI x0.Uid,dI x0.Version,dI x0.Generation,dI x0.Created,dB x0.Deleting,dI x0.DeleteAt,dM (x0.Labels.map eLabel),dM (x0.Owners.map eOwner),dM (x0.Finalizers.map eS),dM (x0.Managers.map eManager)]),some (.box [dS x1.Kind,dS x1.Namespace,dS x1.Name,dI x1.Uid,dI x1.Version,dI x1.Generation,dI x1.Created,dB x1.Deleting,dI x1.DeleteAt,dM (x1.Labels.map eLabel),dM (x1.Owners.map eOwner),dM (x1.Finalizers.map eS),dM (x1.Managers.map eManager)])]⟩∧F41_l19 x1 (x0.Labels.drop o19_0) o19_0=some o19) (x0.Labels.length-0) [some 0,some 1] ⟨0,⟨hk.1,rfl⟩,rfl,h⟩ ?_
  rintro _ _ ⟨o19_0,⟨hi,rfl⟩,rfl,h⟩
  refine ww ?_
  refine condS (fun c20=>?_) (fun c20=>?_)
  ·obtain⟨xo19,hxo19,hd⟩:=countY (show(o19_0:Int)<(x0.Labels.length:Int)from c20)
   rw[hd,F41_l19]at h
   refine ww ?_
   refine t_idxF (enc:=eLabel) (xs:=x0.Labels) rfl rfl hxo19 rfl (ww ?_)
   obtain⟨y21,hy21,h⟩:=bi h
   refine t_idxF (enc:=eLabel) (xs:=x1.Labels) rfl rfl hy21 rfl (ww ?_)
   refine condSh h (fun c22 h=>?_) (fun c22 h=>?_)
   ·refine ww ?_
    obtain⟨fh0o19,hfh0o19,rfl⟩:=Option.map_eq_some_iff.1 h
    have h:=hfh0o19.trans h0o19
    cases h
    exact eF []
   refine ww ?_
   rw[wrapN (by omega)]
   exact eL' (x0.Labels.length-(o19_0+1)) [some 0,some 1] ⟨o19_0+1,⟨by omega,rfl⟩,rfl,h⟩ (by omega)
  rw[countN (show¬((o19_0:Int)<(x0.Labels.length:Int))from c20),F41_l19]at h
  refine ww ?_
  cases h
  exact eM [some 0,some 1] ⟨_,rfl,rfl⟩
 rintro _ ⟨po19,rfl,rfl⟩
 clear ho
 dsimp only at h
 refine ww ?_
 obtain⟨o24,ho,h⟩:=bi h
 refine cutS (fun s=>∃po24,o24=Sum.inr po24∧s=⟨[(2,.one (.c (.pt 0 0))),(3,.one (.c (.pt 1 0)))],[some (.box [dS x0.Kind,dS x0.Namespace,dS x0.Name,dI x0.Uid,dI x0.Version,dI x0.Generation,dI x0.Created,dB x0.Deleting,dI x0.DeleteAt,dM (x0.Labels.map eLabel),dM (x0.Owners.map eOwner),dM (x0.Finalizers.map eS),dM (x0.Managers.map eManager)]),some (.box [dS x1.Kind,dS x1.Namespace,dS x1.Name,dI x1.Uid,dI x1.Version,dI x1.Generation,dI x1.Created,dB x1.Deleting,dI x1.DeleteAt,dM (x1.Labels.map eLabel),dM (x1.Owners.map eOwner),dM (x1.Finalizers.map eS),dM (x1.Managers.map eManager)])]⟩) ?_ ?_
 ·have h0o24:=h
  have h:=ho
  clear ho
  obtain⟨_,hk,h⟩:=bi h
  have hk:=ck_some hk
  refine ww ?_
  refine bL (fun j s=>∃(o24_0:Nat),(o24_0≤x0.Owners.length∧j=x0.Owners.length-o24_0)∧s=⟨[(2,.one (.c (.pt 0 0))),(3,.one (.c (.pt 1 0))),(6,.one (.c (dI ((o24_0:Int)))))],[some (.box [dS x0.Kind,dS x0.Namespace,dS x0.Name,dI x0.Uid,dI x0.Version,dI x0.Generation,dI x0.Created,dB x0.Deleting,dI x0.DeleteAt,dM (x0.Labels.map eLabel),dM (x0.Owners.map eOwner),dM (x0.Finalizers.map eS),dM (x0.Managers.map eManager)]),some (.box [dS x1.Kind,dS x1.Namespace,dS x1.Name,dI x1.Uid,dI x1.Version,dI x1.Generation,dI x1.Created,dB x1.Deleting,dI x1.DeleteAt,dM (x1.Labels.map eLabel),dM (x1.Owners.map eOwner),dM (x1.Finalizers.map eS),dM (x1.Managers.map eManager)])]⟩∧F41_l24 x1 (x0.Owners.drop o24_0) o24_0=some o24) (x0.Owners.length-0) [some 0,some 1] ⟨0,⟨hk.1,rfl⟩,rfl,h⟩ ?_
  rintro _ _ ⟨o24_0,⟨hi,rfl⟩,rfl,h⟩
  refine ww ?_
  refine condS (fun c25=>?_) (fun c25=>?_)
  ·obtain⟨xo24,hxo24,hd⟩:=countY (show(o24_0:Int)<(x0.Owners.length:Int)from c25)
   rw[hd,F41_l24]at h
   refine ww ?_
   refine t_idxF (enc:=eOwner) (xs:=x0.Owners) rfl rfl hxo24 rfl (ww ?_)
   obtain⟨y26,hy26,h⟩:=bi h
   refine t_idxF (enc:=eOwner) (xs:=x1.Owners) rfl rfl hy26 rfl (ww ?_)
   refine condBh h (fun c27 h=>?_) (fun c27 h=>?_)
   ·refine ww ?_
    obtain⟨fh0o24,hfh0o24,rfl⟩:=Option.map_eq_some_iff.1 h
    have h:=hfh0o24.trans h0o24
    cases h
    exact eF []
   refine ww ?_
   rw[wrapN (by omega)]
   exact eL' (x0.Owners.length-(o24_0+1)) [some 0,some 1] ⟨o24_0+1,⟨by omega,rfl⟩,rfl,h⟩ (by omega)
  rw[countN (show¬((o24_0:Int)<(x0.Owners.length:Int))from c25),F41_l24]at h
  refine ww ?_
  cases h
  exact eM [some 0,some 1] ⟨_,rfl,rfl⟩
 rintro _ ⟨po24,rfl,rfl⟩
 clear ho
 dsimp only at h
 refine ww ?_
 obtain⟨o29,ho,h⟩:=bi h
 refine cutS (fun s=>∃po29,o29=Sum.inr po29∧s=⟨[],[]⟩) ?_ ?_
 ·have h0o29:=h
  have h:=ho
  clear ho
  obtain⟨_,hk,h⟩:=bi h
  have hk:=ck_some hk
  refine ww ?_
  refine bL (fun j s=>∃(o29_0:Nat),(o29_0≤x0.Managers.length∧j=x0.Managers.length-o29_0)∧s=⟨[(2,.one (.c (.pt 0 0))),(3,.one (.c (.pt 1 0))),(7,.one (.c (dI ((o29_0:Int)))))],[some (.box [dS x0.Kind,dS x0.Namespace,dS x0.Name,dI x0.Uid,dI x0.Version,dI x0.Generation,dI x0.Created,dB x0.Deleting,dI x0.DeleteAt,dM (x0.Labels.map eLabel),dM (x0.Owners.map eOwner),dM (x0.Finalizers.map eS),dM (x0.Managers.map eManager)]),some (.box [dS x1.Kind,dS x1.Namespace,dS x1.Name,dI x1.Uid,dI x1.Version,dI x1.Generation,dI x1.Created,dB x1.Deleting,dI x1.DeleteAt,dM (x1.Labels.map eLabel),dM (x1.Owners.map eOwner),dM (x1.Finalizers.map eS),dM (x1.Managers.map eManager)])]⟩∧F41_l29 x1 (x0.Managers.drop o29_0) o29_0=some o29) (x0.Managers.length-0) [some 0,some 1] ⟨0,⟨hk.1,rfl⟩,rfl,h⟩ ?_
  rintro _ _ ⟨o29_0,⟨hi,rfl⟩,rfl,h⟩
  refine ww ?_
  refine condS (fun c30=>?_) (fun c30=>?_)
  ·obtain⟨xo29,hxo29,hd⟩:=countY (show(o29_0:Int)<(x0.Managers.length:Int)from c30)
   rw[hd,F41_l29]at h
   refine ww ?_
   obtain⟨o31,ho,h⟩:=bi h
   refine cutS (fun s=>s=⟨[(2,.one (.c (.pt 0 0))),(3,.one (.c (.pt 1 0))),(7,.one (.c (dI ((o29_0:Int))))),(173,.one (.c (dB o31)))],[some (.box [dS x0.Kind,dS x0.Namespace,dS x0.Name,dI x0.Uid,dI x0.Version,dI x0.Generation,dI x0.Created,dB x0.Deleting,dI x0.DeleteAt,dM (x0.Labels.map eLabel),dM (x0.Owners.map eOwner),dM (x0.Finalizers.map eS),dM (x0.Managers.map eManager)]),some (.box [dS x1.Kind,dS x1.Namespace,dS x1.Name,dI x1.Uid,dI x1.Version,dI x1.Generation,dI x1.Created,dB x1.Deleting,dI x1.DeleteAt,dM (x1.Labels.map eLabel),dM (x1.Owners.map eOwner),dM (x1.Finalizers.map eS),dM (x1.Managers.map eManager)])]⟩) ?_ ?_
   ·have h:=ho
    clear ho
    refine ww ?_
    refine t_idxF (enc:=eManager) (xs:=x0.Managers) rfl rfl hxo29 rfl (ww ?_)
    obtain⟨y32,hy32,h⟩:=bi h
    refine t_idxF (enc:=eManager) (xs:=x1.Managers) rfl rfl hy32 rfl (ww ?_)
    refine guardDh h (fun g33 h=>?_) (fun g33 h=>?_)
    ·refine ww ?_
     cases h
     exact eM [some 0,some 1] rfl
    refine ww ?_
    refine t_idxF (enc:=eManager) (xs:=x0.Managers) rfl rfl hxo29 rfl (ww ?_)
    refine t_idxF (enc:=eManager) (xs:=x1.Managers) rfl rfl hy32 rfl (ww ?_)
    obtain⟨t34,ht34,h⟩:=bi h
    refine cN [] (F71_ok ht34) trivial (ww ?_)
    cases h
    exact eM [some 0,some 1] rfl
   rintro _ rfl
   clear ho
   refine ww ?_
   refine condBh h (fun c35 h=>?_) (fun c35 h=>?_)
   ·refine ww ?_
    obtain⟨fh0o29,hfh0o29,rfl⟩:=Option.map_eq_some_iff.1 h
    have h:=hfh0o29.trans h0o29
    cases h
    exact eF []
   refine ww ?_
   rw[wrapN (by omega)]
   exact eL' (x0.Managers.length-(o29_0+1)) [some 0,some 1] ⟨o29_0+1,⟨by omega,rfl⟩,rfl,h⟩ (by omega)
  rw[countN (show¬((o29_0:Int)<(x0.Managers.length:Int))from c30),F41_l29]at h
  refine ww ?_
  cases h
  exact eM [] ⟨_,rfl,rfl⟩
 rintro _ ⟨po29,rfl,rfl⟩
 clear ho
 dsimp only at h
 refine ww ?_
 cases h
 exact eF []
def F42(x0:TValue)(x1:TValue):Option (Bool):=(F72k 1099511627776 x0 x1).bind fun t1=>some (decide (t1=0))
def a42:AFn:=⟨9,[(.tmp 4)],
 (.seq (.reg [sq 2 (.box (.t 0)),
sq 3 (.box (.t 1)),
sq 4 (.mv (kB false))])
 (.seq (.reg [sq 5 (.load (some 5) (.t 2)),
sq 6 (.load (some 5) (.t 3)),
sq 7 (.call 72 [(.t 5),(.t 6)]),
sq 8 (.bin .eql (.t 7) (kI 0)),
sq 4 (.mv (.t 8))])
 .ret))⟩
theorem F42_ok{x0 x1 r}(h:F42 x0 x1=some r):CallD Tryz.prog 42 [.agg [dI x0.Kind,dI x0.N,dS x0.S,dM (x0.List_.map eTValue),dM (x0.Fields.map eTField)],.agg [dI x1.Kind,dI x1.N,dS x1.S,dM (x1.List_.map eTValue),dM (x1.Fields.map eTField)]] [] (tupV [.c (dB r)]) []:=by
 rw[F42]at h
 refine zc a42 (by kernel_rfl) rfl (ww ?_)
 obtain⟨t1,ht1,h⟩:=bi h
 refine cN [] (F72k_ok 1099511627776 ht1) trivial (ww ?_)
 cases h
 exact eF []
end Go.Proofs.YtdkmamiedcanfaaGreat
