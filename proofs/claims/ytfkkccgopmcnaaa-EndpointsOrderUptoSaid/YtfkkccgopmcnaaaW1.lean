/- Each Go function as a function over typed data, and its walk. -/
import Derived.Test.YtfkkccgopmcnaaaW0
namespace Go.Proofs.Ytfkkccgopmcnaaa
open Go Go.Fw Go.Shelf
set_option maxRecDepth 100000
set_option maxHeartbeats 4000000
set_option linter.unusedSimpArgs false
set_option linter.unusedVariables false
def F21_l7:List Label→Nat→Option ((Bool) ⊕ (Unit))
 |[],o7_0=>some (Sum.inr (()))
 |xo7::xs,o7_0=>(if 400<(IntKind.i64.wrap (((xo7.Key.size:Int))+((xo7.Value.size:Int))))then(some false).map Sum.inl else F21_l7 xs (o7_0+1))
def F21_l11:List Owner→Nat→Option ((Bool) ⊕ (Unit))
 |[],o11_0=>some (Sum.inr (()))
 |xo11::xs,o11_0=>(if 400<(IntKind.i64.wrap (((xo11.Kind.size:Int))+((xo11.Name.size:Int))))then(some false).map Sum.inl else F21_l11 xs (o11_0+1))
def F21_l15:List ByteArray→Nat→Option ((Bool) ⊕ (Unit))
 |[],o15_0=>some (Sum.inr (()))
 |xo15::xs,o15_0=>(if 400<(xo15.size:Int)then(some false).map Sum.inl else F21_l15 xs (o15_0+1))
def F21_l24:List ByteArray→Nat→Option (((Bool) ⊕ (Unit)) ⊕ (Unit))
 |[],o24_0=>some (Sum.inr (()))
 |xo24::xs,o24_0=>(if 2000<(xo24.size:Int)then((some false).map Sum.inl).map Sum.inl else F21_l24 xs (o24_0+1))
def F21_l19:List Manager→Nat→Option ((Bool) ⊕ (Unit))
 |[],o19_0=>some (Sum.inr (()))
 |xo19::xs,o19_0=>(((if 400<(xo19.Name.size:Int)then some true else some (decide (200<(xo19.Fields.length:Int))))).bind fun o21=>(if o21=true then(some false).map Sum.inl else(((ck (0≤xo19.Fields.length∧xo19.Fields.length≤4294967290)).bind fun u27=>F21_l24 xo19.Fields 0:Option (((Bool) ⊕ (Unit)) ⊕ (Unit))).bind fun o24=>match o24 with|Sum.inl f=>some f|Sum.inr po24=>F21_l19 xs (o19_0+1))))
def F21(x0:Meta):Option (Bool):=(((if 60<(x0.Labels.length:Int)then some true else(if 60<(x0.Owners.length:Int)then some true else(if 60<(x0.Finalizers.length:Int)then some true else(if 60<(x0.Managers.length:Int)then some true else some (decide (400<(IntKind.i64.wrap (((IntKind.i64.wrap (((x0.Kind.size:Int))+((x0.Namespace.size:Int)))))+((x0.Name.size:Int))))))))))).bind fun o1=>(if o1=true then some false else(((ck (0≤x0.Labels.length∧x0.Labels.length≤4294967290)).bind fun u10=>F21_l7 x0.Labels 0:Option ((Bool) ⊕ (Unit))).bind fun o7=>match o7 with|Sum.inl f=>some f|Sum.inr po7=>(((ck (0≤x0.Owners.length∧x0.Owners.length≤4294967290)).bind fun u14=>F21_l11 x0.Owners 0:Option ((Bool) ⊕ (Unit))).bind fun o11=>match o11 with|Sum.inl f=>some f|Sum.inr po11=>(((ck (0≤x0.Finalizers.length∧x0.Finalizers.length≤4294967290)).bind fun u18=>F21_l15 x0.Finalizers 0:Option ((Bool) ⊕ (Unit))).bind fun o15=>match o15 with|Sum.inl f=>some f|Sum.inr po15=>(((ck (0≤x0.Managers.length∧x0.Managers.length≤4294967290)).bind fun u28=>F21_l19 x0.Managers 0:Option ((Bool) ⊕ (Unit))).bind fun o19=>match o19 with|Sum.inl f=>some f|Sum.inr po19=>some true))))))
def a21:AFn:=⟨121,[(.tmp 2)],
 (.seq (.reg [sq 1 (.box (.t 0)),
sq 2 (.mv (kB false))])
 (.seq (.seq (.sem (.reg [sq 13 (.fieldA 9 (.t 1)),
sq 14 (.load none (.t 13)),
sq 15 (.len (.t 14)),
sq 16 (.bin .gtr (.t 15) (kI 60)),
sq 17 (.mv (.t 16)),
zg 18 17 false (.fieldA 10 (.t 1)),
zg 19 17 false (.load none (.t 18)),
zg 20 17 false (.len (.t 19)),
zg 21 17 false (.bin .gtr (.t 20) (kI 60)),
sq 22 (.pick (.t 17) (kB true) (.t 21)),
sq 23 (.mv (.t 22)),
zg 24 23 false (.fieldA 11 (.t 1)),
zg 25 23 false (.load none (.t 24)),
zg 26 23 false (.len (.t 25)),
zg 27 23 false (.bin .gtr (.t 26) (kI 60)),
sq 28 (.pick (.t 23) (kB true) (.t 27)),
sq 29 (.mv (.t 28)),
zg 30 29 false (.fieldA 12 (.t 1)),
zg 31 29 false (.load none (.t 30)),
zg 32 29 false (.len (.t 31)),
zg 33 29 false (.bin .gtr (.t 32) (kI 60)),
sq 34 (.pick (.t 29) (kB true) (.t 33)),
sq 35 (.mv (.t 34)),
zg 36 35 false (.fieldA 0 (.t 1)),
zg 37 35 false (.load none (.t 36)),
zg 38 35 false (.slen (.t 37)),
zg 39 35 false (.fieldA 1 (.t 1)),
zg 40 35 false (.load none (.t 39)),
zg 41 35 false (.slen (.t 40)),
zg 42 35 false (.bin .add (.t 38) (.t 41)),
zg 43 35 false (.fieldA 2 (.t 1)),
zg 44 35 false (.load none (.t 43)),
zg 45 35 false (.slen (.t 44)),
zg 46 35 false (.bin .add (.t 42) (.t 45)),
zg 47 35 false (.bin .gtr (.t 46) (kI 400)),
sq 48 (.pick (.t 35) (kB true) (.t 47))]))
 (.cond (.t 48)
 (.seq (.reg [sq 2 (.mv (kB false))])
 .ret)
 .skip))
 (.seq (.seq (.reg [sq 49 (.fieldA 9 (.t 1)),
sq 50 (.load none (.t 49)),
sq 51 (.len (.t 50)),
sq 52 (.mv (kI 0))])
 (.sem (.block 0 (.loop (.seq (.reg [sq 53 (.bin .lss (.t 52) (.t 51))])
 (.seq (.cond (.t 53)
 .skip
 (.exit 0))
 (.seq (.block 1 (.seq (.reg [sq 54 (.indexA 2 (.t 50) (.t 52)),
sq 55 (.load (some 2) (.t 54)),
sq 4 (.zbox [dS ⟨#[]⟩,dS ⟨#[]⟩]),
su (.store 2 (.t 4) (.t 55))])
 (.seq (.reg [sq 56 (.fieldA 0 (.t 4)),
sq 57 (.load none (.t 56)),
sq 58 (.slen (.t 57)),
sq 59 (.fieldA 1 (.t 4)),
sq 60 (.load none (.t 59)),
sq 61 (.slen (.t 60)),
sq 62 (.bin .add (.t 58) (.t 61)),
sq 63 (.bin .gtr (.t 62) (kI 400))])
 (.cond (.t 63)
 (.seq (.reg [sq 2 (.mv (kB false))])
 .ret)
 .skip))))
 (.reg [sq 64 (.bin .add (.t 52) (kI 1)),
sq 52 (.mv (.t 64))]))))))))
 (.seq (.seq (.reg [sq 65 (.fieldA 10 (.t 1)),
sq 66 (.load none (.t 65)),
sq 67 (.len (.t 66)),
sq 68 (.mv (kI 0))])
 (.sem (.block 2 (.loop (.seq (.reg [sq 69 (.bin .lss (.t 68) (.t 67))])
 (.seq (.cond (.t 69)
 .skip
 (.exit 2))
 (.seq (.block 3 (.seq (.reg [sq 70 (.indexA 5 (.t 66) (.t 68)),
sq 71 (.load (some 5) (.t 70)),
sq 6 (.zbox [dS ⟨#[]⟩,dS ⟨#[]⟩,dI 0,dB false,dB false]),
su (.store 5 (.t 6) (.t 71))])
 (.seq (.reg [sq 72 (.fieldA 0 (.t 6)),
sq 73 (.load none (.t 72)),
sq 74 (.slen (.t 73)),
sq 75 (.fieldA 1 (.t 6)),
sq 76 (.load none (.t 75)),
sq 77 (.slen (.t 76)),
sq 78 (.bin .add (.t 74) (.t 77)),
sq 79 (.bin .gtr (.t 78) (kI 400))])
 (.cond (.t 79)
 (.seq (.reg [sq 2 (.mv (kB false))])
 .ret)
 .skip))))
 (.reg [sq 80 (.bin .add (.t 68) (kI 1)),
sq 68 (.mv (.t 80))]))))))))
 (.seq (.seq (.reg [sq 81 (.fieldA 11 (.t 1)),
sq 82 (.load none (.t 81)),
sq 83 (.len (.t 82)),
sq 84 (.mv (kI 0))])
 (.sem (.block 4 (.loop (.seq (.reg [sq 85 (.bin .lss (.t 84) (.t 83))])
 (.seq (.cond (.t 85)
 .skip
 (.exit 4))
 (.seq (.block 5 (.seq (.reg [sq 86 (.indexA 1 (.t 82) (.t 84)),
sq 87 (.load none (.t 86)),
sq 8 (.mv (.t 87))])
 (.seq (.reg [sq 88 (.mv (.t 8)),
sq 89 (.slen (.t 88)),
sq 90 (.bin .gtr (.t 89) (kI 400))])
 (.cond (.t 90)
 (.seq (.reg [sq 2 (.mv (kB false))])
 .ret)
 .skip))))
 (.reg [sq 91 (.bin .add (.t 84) (kI 1)),
sq 84 (.mv (.t 91))]))))))))
 (.seq (.seq (.reg [sq 92 (.fieldA 12 (.t 1)),
sq 93 (.load none (.t 92)),
sq 94 (.len (.t 93)),
sq 95 (.mv (kI 0))])
 (.sem (.block 6 (.loop (.seq (.reg [sq 96 (.bin .lss (.t 95) (.t 94))])
 (.seq (.cond (.t 96)
 .skip
 (.exit 6))
 (.seq (.block 7 (.seq (.reg [sq 97 (.indexA 2 (.t 93) (.t 95)),
sq 98 (.load (some 2) (.t 97)),
sq 10 (.zbox [dS ⟨#[]⟩,dN]),
su (.store 2 (.t 10) (.t 98))])
 (.seq (.seq (.sem (.reg [sq 99 (.fieldA 0 (.t 10)),
sq 100 (.load none (.t 99)),
sq 101 (.slen (.t 100)),
sq 102 (.bin .gtr (.t 101) (kI 400)),
sq 103 (.mv (.t 102)),
zg 104 103 false (.fieldA 1 (.t 10)),
zg 105 103 false (.load none (.t 104)),
zg 106 103 false (.len (.t 105)),
zg 107 103 false (.bin .gtr (.t 106) (kI 200)),
zl 108 (.pick (.t 103) (kB true) (.t 107)) [] [10,99,10,104,105]]))
 (.cond (.t 108)
 (.seq (.reg [sq 2 (.mv (kB false))])
 .ret)
 .skip))
 (.seq (.reg [sq 109 (.fieldA 1 (.t 10)),
sq 110 (.load none (.t 109)),
sq 111 (.len (.t 110)),
sq 112 (.mv (kI 0))])
 (.sem (.block 8 (.loop (.seq (.reg [sq 113 (.bin .lss (.t 112) (.t 111))])
 (.seq (.cond (.t 113)
 .skip
 (.exit 8))
 (.seq (.block 9 (.seq (.reg [sq 114 (.indexA 1 (.t 110) (.t 112)),
sq 115 (.load none (.t 114)),
sq 12 (.mv (.t 115))])
 (.seq (.reg [sq 116 (.mv (.t 12)),
sq 117 (.slen (.t 116)),
sq 118 (.bin .gtr (.t 117) (kI 2000))])
 (.cond (.t 118)
 (.seq (.reg [sq 2 (.mv (kB false))])
 .ret)
 .skip))))
 (.reg [sq 119 (.bin .add (.t 112) (kI 1)),
sq 112 (.mv (.t 119))])))))))))))
 (.reg [sq 120 (.bin .add (.t 95) (kI 1)),
sq 95 (.mv (.t 120))]))))))))
 (.seq (.reg [sq 2 (.mv (kB true))])
 .ret)))))))⟩
theorem F21_ok{x0 r}(h:F21 x0=some r):CallD Try.prog 21 [.agg [dS x0.Kind,dS x0.Namespace,dS x0.Name,dI x0.Uid,dI x0.Version,dI x0.Generation,dI x0.Created,dB x0.Deleting,dI x0.DeleteAt,dM (x0.Labels.map eLabel),dM (x0.Owners.map eOwner),dM (x0.Finalizers.map eS),dM (x0.Managers.map eManager)]] [] (tupV [.c (dB r)]) []:=by
 rw[F21]at h
 refine zc a21 (by kernel_rfl) rfl (ww ?_)
 obtain⟨o1,ho,h⟩:=bi h
 refine cutS (fun s=>s=⟨[(1,.one (.c (.pt 0 0))),(48,.one (.c (dB o1)))],[some (.box [dS x0.Kind,dS x0.Namespace,dS x0.Name,dI x0.Uid,dI x0.Version,dI x0.Generation,dI x0.Created,dB x0.Deleting,dI x0.DeleteAt,dM (x0.Labels.map eLabel),dM (x0.Owners.map eOwner),dM (x0.Finalizers.map eS),dM (x0.Managers.map eManager)])]⟩) ?_ ?_
 ·have h:=ho
  clear ho
  refine ww ?_
  refine guardSh h (fun g2 h=>?_) (fun g2 h=>?_)
  ·refine ww ?_
   cases h
   exact eM [some 0] rfl
  refine ww ?_
  refine guardSh h (fun g3 h=>?_) (fun g3 h=>?_)
  ·refine ww ?_
   cases h
   exact eM [some 0] rfl
  refine ww ?_
  refine guardSh h (fun g4 h=>?_) (fun g4 h=>?_)
  ·refine ww ?_
   cases h
   exact eM [some 0] rfl
  refine ww ?_
  refine guardSh h (fun g5 h=>?_) (fun g5 h=>?_)
  ·refine ww ?_
   cases h
   exact eM [some 0] rfl
  refine ww ?_
  cases h
  exact eM [some 0] rfl
 rintro _ rfl
 clear ho
 refine ww ?_
 refine condBh h (fun c6 h=>?_) (fun c6 h=>?_)
 ·refine ww ?_
  cases h
  exact eF []
 refine ww ?_
 obtain⟨o7,ho,h⟩:=bi h
 refine cutS (fun s=>∃po7,o7=Sum.inr po7∧s=⟨[(1,.one (.c (.pt 0 0)))],[some (.box [dS x0.Kind,dS x0.Namespace,dS x0.Name,dI x0.Uid,dI x0.Version,dI x0.Generation,dI x0.Created,dB x0.Deleting,dI x0.DeleteAt,dM (x0.Labels.map eLabel),dM (x0.Owners.map eOwner),dM (x0.Finalizers.map eS),dM (x0.Managers.map eManager)])]⟩) ?_ ?_
 ·have h0o7:=h
  have h:=ho
  clear ho
  obtain⟨_,hk,h⟩:=bi h
  have hk:=ck_some hk
  refine ww ?_
  refine bL (fun j s=>∃(o7_0:Nat),(o7_0≤x0.Labels.length∧j=x0.Labels.length-o7_0)∧s=⟨[(1,.one (.c (.pt 0 0))),(50,.one (.c (dM (x0.Labels.map eLabel)))),(51,.one (.c (dI ((x0.Labels.length:Int))))),(52,.one (.c (dI ((o7_0:Int)))))],[some (.box [dS x0.Kind,dS x0.Namespace,dS x0.Name,dI x0.Uid,dI x0.Version,dI x0.Generation,dI x0.Created,dB x0.Deleting,dI x0.DeleteAt,dM (x0.Labels.map eLabel),dM (x0.Owners.map eOwner),dM (x0.Finalizers.map eS),dM (x0.Managers.map eManager)])]⟩∧F21_l7 (x0.Labels.drop o7_0) o7_0=some o7) (x0.Labels.length-0) [some 0] ⟨0,⟨hk.1,rfl⟩,rfl,h⟩ ?_
  rintro _ _ ⟨o7_0,⟨hi,rfl⟩,rfl,h⟩
  refine ww ?_
  refine condS (fun c8=>?_) (fun c8=>?_)
  ·obtain⟨xo7,hxo7,hd⟩:=countY (show(o7_0:Int)<(x0.Labels.length:Int)from c8)
   rw[hd,F21_l7]at h
   refine ww ?_
   refine t_idxF (enc:=eLabel) (xs:=x0.Labels) rfl rfl hxo7 rfl (ww ?_)
   refine condSh h (fun c9 h=>?_) (fun c9 h=>?_)
   ·refine ww ?_
    obtain⟨fh0o7,hfh0o7,rfl⟩:=Option.map_eq_some_iff.1 h
    have h:=hfh0o7.trans h0o7
    cases h
    exact eF []
   refine ww ?_
   rw[wrapN (by omega)]
   exact eL' (x0.Labels.length-(o7_0+1)) [some 0] ⟨o7_0+1,⟨by omega,rfl⟩,rfl,h⟩ (by omega)
  rw[countN (show¬((o7_0:Int)<(x0.Labels.length:Int))from c8),F21_l7]at h
  refine ww ?_
  cases h
  exact eM [some 0] ⟨_,rfl,rfl⟩
 rintro _ ⟨po7,rfl,rfl⟩
 clear ho
 dsimp only at h
 refine ww ?_
 obtain⟨o11,ho,h⟩:=bi h
 refine cutS (fun s=>∃po11,o11=Sum.inr po11∧s=⟨[(1,.one (.c (.pt 0 0)))],[some (.box [dS x0.Kind,dS x0.Namespace,dS x0.Name,dI x0.Uid,dI x0.Version,dI x0.Generation,dI x0.Created,dB x0.Deleting,dI x0.DeleteAt,dM (x0.Labels.map eLabel),dM (x0.Owners.map eOwner),dM (x0.Finalizers.map eS),dM (x0.Managers.map eManager)])]⟩) ?_ ?_
 ·have h0o11:=h
  have h:=ho
  clear ho
  obtain⟨_,hk,h⟩:=bi h
  have hk:=ck_some hk
  refine ww ?_
  refine bL (fun j s=>∃(o11_0:Nat),(o11_0≤x0.Owners.length∧j=x0.Owners.length-o11_0)∧s=⟨[(1,.one (.c (.pt 0 0))),(66,.one (.c (dM (x0.Owners.map eOwner)))),(67,.one (.c (dI ((x0.Owners.length:Int))))),(68,.one (.c (dI ((o11_0:Int)))))],[some (.box [dS x0.Kind,dS x0.Namespace,dS x0.Name,dI x0.Uid,dI x0.Version,dI x0.Generation,dI x0.Created,dB x0.Deleting,dI x0.DeleteAt,dM (x0.Labels.map eLabel),dM (x0.Owners.map eOwner),dM (x0.Finalizers.map eS),dM (x0.Managers.map eManager)])]⟩∧F21_l11 (x0.Owners.drop o11_0) o11_0=some o11) (x0.Owners.length-0) [some 0] ⟨0,⟨hk.1,rfl⟩,rfl,h⟩ ?_
  rintro _ _ ⟨o11_0,⟨hi,rfl⟩,rfl,h⟩
  refine ww ?_
  refine condS (fun c12=>?_) (fun c12=>?_)
  ·obtain⟨xo11,hxo11,hd⟩:=countY (show(o11_0:Int)<(x0.Owners.length:Int)from c12)
   rw[hd,F21_l11]at h
   refine ww ?_
   refine t_idxF (enc:=eOwner) (xs:=x0.Owners) rfl rfl hxo11 rfl (ww ?_)
   refine condSh h (fun c13 h=>?_) (fun c13 h=>?_)
   ·refine ww ?_
    obtain⟨fh0o11,hfh0o11,rfl⟩:=Option.map_eq_some_iff.1 h
    have h:=hfh0o11.trans h0o11
    cases h
    exact eF []
   refine ww ?_
   rw[wrapN (by omega)]
   exact eL' (x0.Owners.length-(o11_0+1)) [some 0] ⟨o11_0+1,⟨by omega,rfl⟩,rfl,h⟩ (by omega)
  rw[countN (show¬((o11_0:Int)<(x0.Owners.length:Int))from c12),F21_l11]at h
  refine ww ?_
  cases h
  exact eM [some 0] ⟨_,rfl,rfl⟩
 rintro _ ⟨po11,rfl,rfl⟩
 clear ho
 dsimp only at h
 refine ww ?_
 obtain⟨o15,ho,h⟩:=bi h
 refine cutS (fun s=>∃po15,o15=Sum.inr po15∧s=⟨[(1,.one (.c (.pt 0 0)))],[some (.box [dS x0.Kind,dS x0.Namespace,dS x0.Name,dI x0.Uid,dI x0.Version,dI x0.Generation,dI x0.Created,dB x0.Deleting,dI x0.DeleteAt,dM (x0.Labels.map eLabel),dM (x0.Owners.map eOwner),dM (x0.Finalizers.map eS),dM (x0.Managers.map eManager)])]⟩) ?_ ?_
 ·have h0o15:=h
  have h:=ho
  clear ho
  obtain⟨_,hk,h⟩:=bi h
  have hk:=ck_some hk
  refine ww ?_
  refine bL (fun j s=>∃(o15_0:Nat),(o15_0≤x0.Finalizers.length∧j=x0.Finalizers.length-o15_0)∧s=⟨[(1,.one (.c (.pt 0 0))),(82,.one (.c (dM (x0.Finalizers.map eS)))),(83,.one (.c (dI ((x0.Finalizers.length:Int))))),(84,.one (.c (dI ((o15_0:Int)))))],[some (.box [dS x0.Kind,dS x0.Namespace,dS x0.Name,dI x0.Uid,dI x0.Version,dI x0.Generation,dI x0.Created,dB x0.Deleting,dI x0.DeleteAt,dM (x0.Labels.map eLabel),dM (x0.Owners.map eOwner),dM (x0.Finalizers.map eS),dM (x0.Managers.map eManager)])]⟩∧F21_l15 (x0.Finalizers.drop o15_0) o15_0=some o15) (x0.Finalizers.length-0) [some 0] ⟨0,⟨hk.1,rfl⟩,rfl,h⟩ ?_
  rintro _ _ ⟨o15_0,⟨hi,rfl⟩,rfl,h⟩
  refine ww ?_
  refine condS (fun c16=>?_) (fun c16=>?_)
  ·obtain⟨xo15,hxo15,hd⟩:=countY (show(o15_0:Int)<(x0.Finalizers.length:Int)from c16)
   rw[hd,F21_l15]at h
   refine ww ?_
   refine t_idxF (enc:=eS) (xs:=x0.Finalizers) rfl rfl hxo15 rfl (ww ?_)
   refine condSh h (fun c17 h=>?_) (fun c17 h=>?_)
   ·refine ww ?_
    obtain⟨fh0o15,hfh0o15,rfl⟩:=Option.map_eq_some_iff.1 h
    have h:=hfh0o15.trans h0o15
    cases h
    exact eF []
   refine ww ?_
   rw[wrapN (by omega)]
   exact eL' (x0.Finalizers.length-(o15_0+1)) [some 0] ⟨o15_0+1,⟨by omega,rfl⟩,rfl,h⟩ (by omega)
  rw[countN (show¬((o15_0:Int)<(x0.Finalizers.length:Int))from c16),F21_l15]at h
  refine ww ?_
  cases h
  exact eM [some 0] ⟨_,rfl,rfl⟩
 rintro _ ⟨po15,rfl,rfl⟩
 clear ho
 dsimp only at h
 refine ww ?_
 obtain⟨o19,ho,h⟩:=bi h
 refine cutS (fun s=>∃po19,o19=Sum.inr po19∧s=⟨[],[]⟩) ?_ ?_
 ·have h0o19:=h
  have h:=ho
  clear ho
  obtain⟨_,hk,h⟩:=bi h
  have hk:=ck_some hk
  refine ww ?_
  refine bL (fun j s=>∃(o19_0:Nat),(o19_0≤x0.Managers.length∧j=x0.Managers.length-o19_0)∧s=⟨[(93,.one (.c (dM (x0.Managers.map eManager)))),(94,.one (.c (dI ((x0.Managers.length:Int))))),(95,.one (.c (dI ((o19_0:Int)))))],[]⟩∧F21_l19 (x0.Managers.drop o19_0) o19_0=some o19) (x0.Managers.length-0) [] ⟨0,⟨hk.1,rfl⟩,rfl,h⟩ ?_
  rintro _ _ ⟨o19_0,⟨hi,rfl⟩,rfl,h⟩
  refine ww ?_
  refine condS (fun c20=>?_) (fun c20=>?_)
  ·obtain⟨xo19,hxo19,hd⟩:=countY (show(o19_0:Int)<(x0.Managers.length:Int)from c20)
   rw[hd,F21_l19]at h
   refine ww ?_
   refine t_idxF (enc:=eManager) (xs:=x0.Managers) rfl rfl hxo19 rfl (ww ?_)
   obtain⟨o21,ho,h⟩:=bi h
   refine cutS (fun s=>s=⟨[(10,.one (.c (.pt 0 0))),(93,.one (.c (dM (x0.Managers.map eManager)))),(94,.one (.c (dI ((x0.Managers.length:Int))))),(95,.one (.c (dI ((o19_0:Int))))),(108,.one (.c (dB o21)))],[some (.box [dS xo19.Name,dM (xo19.Fields.map eS)])]⟩) ?_ ?_
   ·have h:=ho
    clear ho
    refine ww ?_
    refine guardSh h (fun g22 h=>?_) (fun g22 h=>?_)
    ·refine ww ?_
     cases h
     exact eM [some 0] rfl
    refine ww ?_
    cases h
    exact eM [some 0] rfl
   rintro _ rfl
   clear ho
   refine ww ?_
   refine condBh h (fun c23 h=>?_) (fun c23 h=>?_)
   ·refine ww ?_
    obtain⟨fh0o19,hfh0o19,rfl⟩:=Option.map_eq_some_iff.1 h
    have h:=hfh0o19.trans h0o19
    cases h
    exact eF []
   refine ww ?_
   obtain⟨o24,ho,h⟩:=bi h
   refine cutS (fun s=>∃po24,o24=Sum.inr po24∧s=⟨[(93,.one (.c (dM (x0.Managers.map eManager)))),(94,.one (.c (dI ((x0.Managers.length:Int))))),(95,.one (.c (dI ((o19_0:Int)))))],[]⟩) ?_ ?_
   ·have h0o24:=h
    have h:=ho
    clear ho
    obtain⟨_,hk,h⟩:=bi h
    have hk:=ck_some hk
    refine ww ?_
    refine bL (fun j s=>∃(o24_0:Nat),(o24_0≤xo19.Fields.length∧j=xo19.Fields.length-o24_0)∧s=⟨[(93,.one (.c (dM (x0.Managers.map eManager)))),(94,.one (.c (dI ((x0.Managers.length:Int))))),(95,.one (.c (dI ((o19_0:Int))))),(110,.one (.c (dM (xo19.Fields.map eS)))),(111,.one (.c (dI ((xo19.Fields.length:Int))))),(112,.one (.c (dI ((o24_0:Int)))))],[]⟩∧F21_l24 (xo19.Fields.drop o24_0) o24_0=some o24) (xo19.Fields.length-0) [] ⟨0,⟨hk.1,rfl⟩,rfl,h⟩ ?_
    rintro _ _ ⟨o24_0,⟨hi,rfl⟩,rfl,h⟩
    refine ww ?_
    refine condS (fun c25=>?_) (fun c25=>?_)
    ·obtain⟨xo24,hxo24,hd⟩:=countY (show(o24_0:Int)<(xo19.Fields.length:Int)from c25)
     rw[hd,F21_l24]at h
     refine ww ?_
     refine t_idxF (enc:=eS) (xs:=xo19.Fields) rfl rfl hxo24 rfl (ww ?_)
     refine condSh h (fun c26 h=>?_) (fun c26 h=>?_)
     ·refine ww ?_
      obtain⟨fh0o24,hfh0o24,rfl⟩:=Option.map_eq_some_iff.1 h
      have h:=hfh0o24.trans h0o24
      obtain⟨fh0o19,hfh0o19,rfl⟩:=Option.map_eq_some_iff.1 h
      have h:=hfh0o19.trans h0o19
      cases h
      exact eF []
     refine ww ?_
     rw[wrapN (by omega)]
     exact eL' (xo19.Fields.length-(o24_0+1)) [] ⟨o24_0+1,⟨by omega,rfl⟩,rfl,h⟩ (by omega)
    rw[countN (show¬((o24_0:Int)<(xo19.Fields.length:Int))from c25),F21_l24]at h
    refine ww ?_
    cases h
    exact eM [] ⟨_,rfl,rfl⟩
   rintro _ ⟨po24,rfl,rfl⟩
   clear ho
   dsimp only at h
   refine ww ?_
   rw[wrapN (by omega)]
   exact eL' (x0.Managers.length-(o19_0+1)) [] ⟨o19_0+1,⟨by omega,rfl⟩,rfl,h⟩ (by omega)
  rw[countN (show¬((o19_0:Int)<(x0.Managers.length:Int))from c20),F21_l19]at h
  refine ww ?_
  cases h
  exact eM [] ⟨_,rfl,rfl⟩
 rintro _ ⟨po19,rfl,rfl⟩
 clear ho
 dsimp only at h
 refine ww ?_
 cases h
 exact eF []
def F61(x0:(List TField)):Option (Unit):=some (())
def a61:AFn:=⟨5,[(.cell 2 (some 5))],
 (.seq (.reg [zl 2 (.zbox [dI 0,dI 0,dS ⟨#[]⟩,dN,dN]) [] []])
 (.seq (.reg [sq 3 (.mv (.t 0)),
sq 4 (.build [dI 0,dI 0,dS ⟨#[]⟩,dN,dN] [(0,1,(kI 5)),(4,1,(.t 3))]),
su (.store 5 (.t 2) (.t 4))])
 .ret))⟩
theorem F61_ok{x0 r}(h:F61 x0=some r):CallD Try.prog 61 [.c (dM (x0.map eTField))] [] (tupV [.agg [dI 5,dI 0,dS ((⟨#[]⟩:ByteArray)),dM (([]:List TValue).map eTValue),dM (x0.map eTField)]]) []:=by
 rw[F61]at h
 refine zc a61 (by kernel_rfl) rfl (ww ?_)
 cases h
 exact eF []
theorem a24_ok:afn Try.prog 24=some (cloneA 3 32):=by kernel_rfl
theorem F24_ok{x0 r:List ServicePort}(h:cloneI x0=some r):CallD Try.prog 24 [.c (dM (x0.map eServicePort))] [] (tupV [.c (.own 0 1 0 r.length none)]) [some (.arr 1 3 (r.map eServicePort))]:=L_clone a24_ok (fun _=>rfl) h
def F91_l1(x1:ByteArray):List ByteArray→Nat→Option ((Int) ⊕ (Unit))
 |[],o1_0=>some (Sum.inr (()))
 |xo1::xs,o1_0=>(if x1=xo1 then(some ((o1_0:Int))).map Sum.inl else F91_l1 x1 xs (o1_0+1))
def F91(x0:(List ByteArray))(x1:ByteArray):Option (Int):=(((ck (0≤x0.length∧x0.length≤4294967290)).bind fun u4=>F91_l1 x1 x0 0:Option ((Int) ⊕ (Unit))).bind fun o1=>match o1 with|Sum.inl f=>some f|Sum.inr po1=>some ((-1)))
def a91:AFn:=⟨19,[(.tmp 4)],
 (.seq (.reg [sq 4 (.mv (kI 0))])
 (.seq (.seq (.reg [sq 6 (.mv (.t 0)),
sq 7 (.len (.t 6)),
sq 8 (.mv (kI 0))])
 (.sem (.block 0 (.loop (.seq (.reg [sq 9 (.bin .lss (.t 8) (.t 7))])
 (.seq (.cond (.t 9)
 .skip
 (.exit 0))
 (.seq (.block 1 (.seq (.reg [sq 10 (.mv (.t 8)),
sq 5 (.mv (.t 10))])
 (.seq (.reg [sq 11 (.mv (.t 1)),
sq 12 (.mv (.t 0)),
sq 13 (.mv (.t 5)),
sq 14 (.indexA 1 (.t 12) (.t 13)),
sq 15 (.load none (.t 14)),
sq 16 (.bin .eql (.t 11) (.t 15))])
 (.cond (.t 16)
 (.seq (.reg [sq 17 (.mv (.t 5)),
sq 4 (.mv (.t 17))])
 .ret)
 .skip))))
 (.reg [sq 18 (.bin .add (.t 8) (kI 1)),
sq 8 (.mv (.t 18))]))))))))
 (.seq (.reg [sq 4 (.mv (kI (-1)))])
 .ret)))⟩
theorem F91_ok{x0 x1 r}(h:F91 x0 x1=some r):CallD Try.prog 91 [.c (dM (x0.map eS)),.c (dS x1)] [] (tupV [.c (dI r)]) []:=by
 rw[F91]at h
 refine zc a91 (by kernel_rfl) rfl (ww ?_)
 obtain⟨o1,ho,h⟩:=bi h
 refine cutS (fun s=>∃po1,o1=Sum.inr po1∧s=⟨[],[]⟩) ?_ ?_
 ·have h0o1:=h
  have h:=ho
  clear ho
  obtain⟨_,hk,h⟩:=bi h
  have hk:=ck_some hk
  refine ww ?_
  refine bL (fun j s=>∃(o1_0:Nat),(o1_0≤x0.length∧j=x0.length-o1_0)∧s=⟨[(0,.one (.c (dM (x0.map eS)))),(1,.one (.c (dS x1))),(7,.one (.c (dI ((x0.length:Int))))),(8,.one (.c (dI ((o1_0:Int)))))],[]⟩∧F91_l1 x1 (x0.drop o1_0) o1_0=some o1) (x0.length-0) [] ⟨0,⟨hk.1,rfl⟩,rfl,h⟩ ?_
  rintro _ _ ⟨o1_0,⟨hi,rfl⟩,rfl,h⟩
  refine ww ?_
  refine condS (fun c2=>?_) (fun c2=>?_)
  ·obtain⟨xo1,hxo1,hd⟩:=countY (show(o1_0:Int)<(x0.length:Int)from c2)
   rw[hd,F91_l1]at h
   refine ww ?_
   refine t_idxF (enc:=eS) (xs:=x0) rfl rfl hxo1 rfl (ww ?_)
   refine condSh h (fun c3 h=>?_) (fun c3 h=>?_)
   ·refine ww ?_
    obtain⟨fh0o1,hfh0o1,rfl⟩:=Option.map_eq_some_iff.1 h
    have h:=hfh0o1.trans h0o1
    cases h
    exact eF []
   refine ww ?_
   rw[wrapN (by omega)]
   exact eL' (x0.length-(o1_0+1)) [] ⟨o1_0+1,⟨by omega,rfl⟩,rfl,h⟩ (by omega)
  rw[countN (show¬((o1_0:Int)<(x0.length:Int))from c2),F91_l1]at h
  refine ww ?_
  cases h
  exact eM [] ⟨_,rfl,rfl⟩
 rintro _ ⟨po1,rfl,rfl⟩
 clear ho
 dsimp only at h
 refine ww ?_
 cases h
 exact eF []
def F43(x0:ByteArray)(x1:ByteArray)(x2:ByteArray):Option (ByteArray):=(catI x0 ((⟨#[47]⟩:ByteArray))).bind fun s1=>(catI s1 x1).bind fun s2=>(catI s2 ((⟨#[47]⟩:ByteArray))).bind fun s3=>(catI s3 x2).bind fun s4=>some s4
def a43:AFn:=⟨14,[(.tmp 6)],
 (.seq (.reg [sq 6 (.mv (kS ⟨#[]⟩))])
 (.seq (.reg [sq 7 (.mv (.t 0)),
sq 8 (.bin .add (.t 7) (kS ⟨#[47]⟩)),
sq 9 (.mv (.t 1)),
sq 10 (.bin .add (.t 8) (.t 9)),
sq 11 (.bin .add (.t 10) (kS ⟨#[47]⟩)),
sq 12 (.mv (.t 2)),
sq 13 (.bin .add (.t 11) (.t 12)),
sq 6 (.mv (.t 13))])
 .ret))⟩
theorem F43_ok{x0 x1 x2 r}(h:F43 x0 x1 x2=some r):CallD Try.prog 43 [.c (dS x0),.c (dS x1),.c (dS x2)] [] (tupV [.c (dS r)]) []:=by
 rw[F43]at h
 refine zc a43 (by kernel_rfl) rfl (ww ?_)
 obtain⟨s1,hs1,h⟩:=bi h
 obtain⟨hle,es1⟩:=cat_some hs1
 refine⟨hle,?_⟩
 first|rw[←es1]|subst es1
 refine ww ?_
 obtain⟨s2,hs2,h⟩:=bi h
 obtain⟨hle,es2⟩:=cat_some hs2
 refine⟨hle,?_⟩
 first|rw[←es2]|subst es2
 refine ww ?_
 obtain⟨s3,hs3,h⟩:=bi h
 obtain⟨hle,es3⟩:=cat_some hs3
 refine⟨hle,?_⟩
 first|rw[←es3]|subst es3
 refine ww ?_
 obtain⟨s4,hs4,h⟩:=bi h
 obtain⟨hle,es4⟩:=cat_some hs4
 refine⟨hle,?_⟩
 first|rw[←es4]|subst es4
 refine ww ?_
 cases h
 exact eF []
def F35(b0:List (ByteArray×Endpoint)):Option (Unit):=some (())
def a35:AFn:=⟨4,[(.tmp 2)],
 (.seq (.reg [sq 1 (.box (.t 0)),
sq 2 (.mv (.k (.c (.d (.v (.nilFunc))))))])
 (.seq (.reg [sq 3 (.fn 48 [(.t 1)]),
sq 2 (.mv (.t 3))])
 .ret))⟩
theorem F35_ok{b0 r}(h:F35 b0=some r):CallD Try.prog 35 [.c (.mref 0)] [some (.map (eMs Value.string eEndpoint b0))] (tupV [.c (.fn 48 [(1,0)])]) [some (.map (eMs Value.string eEndpoint b0)),some (.box [.mref 0])]:=by
 rw[F35]at h
 refine zc a35 (by kernel_rfl) rfl (ww ?_)
 cases h
 exact eF [some 0,some 1]
end Go.Proofs.Ytfkkccgopmcnaaa
