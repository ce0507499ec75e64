/- Each Go function as a function over typed data, and its walk. -/
import Derived.Test.YtbopaemngpbdgaaCX
import Derived.Test.YtbopaemngpbdgaaCX5
import Derived.Test.YtbopaemngpbdgaaCX14
import Derived.Test.YtbopaemngpbdgaaCX18
import Derived.Test.YtbopaemngpbdgaaCX19
namespace Go.Proofs.Ytbopaemngpbdgaa
open Go Go.Fw Go.Shelf
set_option maxRecDepth 100000
set_option maxHeartbeats 4000000
set_option linter.unusedSimpArgs false
set_option linter.unusedVariables false
def F15_l15(x0:TStore):List Change→Nat→(List Object)→Option ((Bool) ⊕ ((List Object)))
 |[],o15_1,o15_0=>some (Sum.inr o15_0)
 |xo15::xs,o15_1,o15_0=>(((if¬(xo15.Rev=(IntKind.i64.wrap (((IntKind.i64.wrap (x0.Floor+1)))+((o15_1:Int)))))then some true else(if¬(xo15.Kind=1)then(if¬(xo15.Kind=2)then some true else(F31 xo15.Object).bind fun t21=>(if(nb t21)=true then some true else some (decide (¬(xo15.Object.Meta.Version=xo15.Rev)))))else(F31 xo15.Object).bind fun t23=>(if(nb t23)=true then some true else some (decide (¬(xo15.Object.Meta.Version=xo15.Rev))))))).bind fun o17=>(if o17=true then(some false).map Sum.inl else(F45 o15_0 xo15).bind fun t26=>(if(nb t26.2)=true then(some false).map Sum.inl else F15_l15 x0 xs (o15_1+1) t26.1)))
def F15(x0:TStore):Option (Bool):=(((if x0.Floor<0 then some true else(if x0.Rev<x0.Floor then some true else(if 1000000000000000<x0.Rev then some true else(if x0.NextUid<1 then some true else(if 1000000000000000<x0.NextUid then some true else(if¬((x0.History.length:Int)=(IntKind.i64.wrap (x0.Rev-x0.Floor)))then some true else some (decide (4000<(x0.History.length:Int)))))))))).bind fun o1=>(if o1=true then some false else(((F43 x0.Base x0.Floor x0.NextUid).bind fun t10=>(if(nb t10)=true then some true else(F43 x0.Objects x0.Rev x0.NextUid).bind fun t12=>some (nb t12))).bind fun o9=>(if o9=true then some false else(cloneI x0.Base).bind fun t14=>(((ck (0≤x0.History.length∧x0.History.length≤4294967290)).bind fun u28=>F15_l15 x0 x0.History 0 t14:Option ((Bool) ⊕ ((List Object)))).bind fun o15=>match o15 with|Sum.inl f=>some f|Sum.inr po15=>(F46 po15 x0.Objects).bind fun t29=>some t29)))))
def a15:AFn:=⟨124,[(.tmp 2)],
 (.seq (.reg [sq 1 (.box (.t 0)),
sq 2 (.mv (kB false))])
 (.seq (.seq (.sem (.reg [sq 7 (.fieldA 1 (.t 1)),
sq 8 (.load none (.t 7)),
sq 9 (.bin .lss (.t 8) (kI 0)),
sq 10 (.mv (.t 9)),
zg 11 10 false (.fieldA 1 (.t 1)),
zg 12 10 false (.load none (.t 11)),
zg 13 10 false (.fieldA 0 (.t 1)),
zg 14 10 false (.load none (.t 13)),
zg 15 10 false (.bin .gtr (.t 12) (.t 14)),
sq 16 (.pick (.t 10) (kB true) (.t 15)),
sq 17 (.mv (.t 16)),
zg 18 17 false (.fieldA 0 (.t 1)),
zg 19 17 false (.load none (.t 18)),
zg 20 17 false (.bin .gtr (.t 19) (kI 1000000000000000)),
sq 21 (.pick (.t 17) (kB true) (.t 20)),
sq 22 (.mv (.t 21)),
zg 23 22 false (.fieldA 2 (.t 1)),
zg 24 22 false (.load none (.t 23)),
zg 25 22 false (.bin .lss (.t 24) (kI 1)),
sq 26 (.pick (.t 22) (kB true) (.t 25)),
sq 27 (.mv (.t 26)),
zg 28 27 false (.fieldA 2 (.t 1)),
zg 29 27 false (.load none (.t 28)),
zg 30 27 false (.bin .gtr (.t 29) (kI 1000000000000000)),
sq 31 (.pick (.t 27) (kB true) (.t 30)),
sq 32 (.mv (.t 31)),
zg 33 32 false (.fieldA 5 (.t 1)),
zg 34 32 false (.load none (.t 33)),
zg 35 32 false (.len (.t 34)),
zg 36 32 false (.fieldA 0 (.t 1)),
zg 37 32 false (.load none (.t 36)),
zg 38 32 false (.fieldA 1 (.t 1)),
zg 39 32 false (.load none (.t 38)),
zg 40 32 false (.bin .sub (.t 37) (.t 39)),
zg 41 32 false (.bin .neq (.t 35) (.t 40)),
sq 42 (.pick (.t 32) (kB true) (.t 41)),
sq 43 (.mv (.t 42)),
zg 44 43 false (.fieldA 5 (.t 1)),
zg 45 43 false (.load none (.t 44)),
zg 46 43 false (.len (.t 45)),
zg 47 43 false (.bin .gtr (.t 46) (kI 4000)),
sq 48 (.pick (.t 43) (kB true) (.t 47))]))
 (.cond (.t 48)
 (.seq (.reg [sq 2 (.mv (kB false))])
 .ret)
 .skip))
 (.seq (.seq (.sem (.reg [sq 49 (.fieldA 3 (.t 1)),
sq 50 (.load none (.t 49)),
sq 51 (.fieldA 1 (.t 1)),
sq 52 (.load none (.t 51)),
sq 53 (.fieldA 2 (.t 1)),
sq 54 (.load none (.t 53)),
sq 55 (.call 43 [(.t 50),(.t 52),(.t 54)]),
sq 56 (.not (.t 55)),
sq 57 (.mv (.t 56)),
zg 58 57 false (.fieldA 4 (.t 1)),
zg 59 57 false (.load none (.t 58)),
zg 60 57 false (.fieldA 0 (.t 1)),
zg 61 57 false (.load none (.t 60)),
zg 62 57 false (.fieldA 2 (.t 1)),
zg 63 57 false (.load none (.t 62)),
zg 64 57 false (.call 43 [(.t 59),(.t 61),(.t 63)]),
zg 65 57 false (.not (.t 64)),
sq 66 (.pick (.t 57) (kB true) (.t 65))]))
 (.cond (.t 66)
 (.seq (.reg [sq 2 (.mv (kB false))])
 .ret)
 .skip))
 (.seq (.reg [sq 67 (.fieldA 3 (.t 1)),
sq 68 (.load none (.t 67)),
sq 69 (.call 44 [(.t 68)]),
sq 3 (.mv (.t 69))])
 (.seq (.seq (.reg [sq 70 (.fieldA 5 (.t 1)),
sq 71 (.load none (.t 70)),
sq 72 (.len (.t 71)),
sq 73 (.mv (kI 0))])
 (.sem (.block 0 (.loop (.seq (.reg [sq 74 (.bin .lss (.t 73) (.t 72))])
 (.seq (.cond (.t 74)
 .skip
 (.exit 0))
 (.seq (.block 1 (.seq (.reg [sq 75 (.mv (.t 73)),
sq 76 (.indexA 25 (.t 71) (.t 73)),
sq 77 (.load (some 25) (.t 76)),
sq 5 (.zbox [dI 0,dI 0,dS ⟨#[]⟩,dS ⟨#[]⟩,dS ⟨#[]⟩,dI 0,dI 0,dI 0,dI 0,dB false,dI 0,dN,dN,dN,dN,dI 0,dI 0,dS ⟨#[]⟩,dN,dN,dI 0,dI 0,dS ⟨#[]⟩,dN,dN]),
sq 4 (.mv (.t 75)),
su (.store 25 (.t 5) (.t 77))])
 (.seq (.seq (.sem (.reg [sq 78 (.fieldA 0 (.t 5)),
sq 79 (.load none (.t 78)),
sq 80 (.fieldA 1 (.t 1)),
sq 81 (.load none (.t 80)),
sq 82 (.bin .add (.t 81) (kI 1)),
sq 83 (.mv (.t 4)),
sq 84 (.bin .add (.t 82) (.t 83)),
sq 85 (.bin .neq (.t 79) (.t 84)),
sq 86 (.mv (.t 85)),
zg 87 86 false (.fieldA 1 (.t 5)),
zg 88 86 false (.load none (.t 87)),
zg 89 86 false (.bin .neq (.t 88) (kI 1)),
zg 90 86 false (.mv (.t 89)),
zg 91 90 true (.fieldA 1 (.t 5)),
zg 92 90 true (.load none (.t 91)),
zg 93 90 true (.bin .neq (.t 92) (kI 2)),
zg 94 86 false (.pick (.t 90) (.t 93) (kB false)),
sq 95 (.pick (.t 86) (kB true) (.t 94)),
sq 96 (.mv (.t 95)),
zg 97 96 false (.fieldA 2 (.t 5)),
zg 98 96 false (.load (some 23) (.t 97)),
zg 99 96 false (.call 31 [(.t 98)]),
zg 100 96 false (.not (.t 99)),
sq 101 (.pick (.t 96) (kB true) (.t 100)),
sq 102 (.mv (.t 101)),
zg 103 102 false (.fieldA 2 (.t 5)),
zg 104 102 false (.fieldA 0 (.t 103)),
zg 105 102 false (.fieldA 4 (.t 104)),
zg 106 102 false (.load none (.t 105)),
zg 107 102 false (.fieldA 0 (.t 5)),
zg 108 102 false (.load none (.t 107)),
zg 109 102 false (.bin .neq (.t 106) (.t 108)),
sq 110 (.pick (.t 102) (kB true) (.t 109))]))
 (.cond (.t 110)
 (.seq (.reg [sq 2 (.mv (kB false))])
 .ret)
 .skip))
 (.seq (.reg [sq 6 (.mv (kB false))])
 (.seq (.reg [sq 112 (.mv (.t 3)),
sq 113 (.load (some 25) (.t 5)),
sq 114 (.call 45 [(.t 112),(.t 113)]),
sq 111 (.mv (.t 114)),
sq 115 (.ext (.t 111) 0),
sq 116 (.ext (.t 111) 1),
sq 3 (.mv (.t 115)),
sq 6 (.mv (.t 116))])
 (.seq (.reg [sq 117 (.mv (.t 6)),
sq 118 (.not (.t 117))])
 (.cond (.t 118)
 (.seq (.reg [sq 2 (.mv (kB false))])
 .ret)
 .skip)))))))
 (.reg [sq 119 (.bin .add (.t 73) (kI 1)),
sq 73 (.mv (.t 119))]))))))))
 (.seq (.reg [sq 120 (.mv (.t 3)),
sq 121 (.fieldA 4 (.t 1)),
sq 122 (.load none (.t 121)),
sq 123 (.call 46 [(.t 120),(.t 122)]),
sq 2 (.mv (.t 123))])
 .ret))))))⟩
theorem a15_ok:afn Try.prog 15=some a15.er:=by kernel_rfl
theorem F15_ok{x0 r}(h:F15 x0=some r):CallD Try.prog 15 [.agg [dI x0.Rev,dI x0.Floor,dI x0.NextUid,dM (x0.Base.map eObject),dM (x0.Objects.map eObject),dM (x0.History.map eChange)]] [] (tupV [.c (dB r)]) []:=by
 refine callS a15_ok (by simp[a15]) ?_
 rw[F15]at h
 simp only[a15,VW.down,Nat.reduceEqDiff,reduceCtorEq,Nat.reduceAdd,Nat.reduceLeDiff,Nat.reduceLT,Nat.reduceBEq,Nat.reduceSub,EE.down]
 obtain⟨o1,ho,h⟩:=bi h
 refine cutS (fun s=>s=⟨[(1,.one (.c (.pt 0 0))),(48,.one (.c (dB o1)))],[some (.box [dI x0.Rev,dI x0.Floor,dI x0.NextUid,dM (x0.Base.map eObject),dM (x0.Objects.map eObject),dM (x0.History.map eChange)])]⟩) ?_ ?_
 ·have h:=ho
  clear ho
  refine ww ?_
  refine guardSh h (fun g2 h=>?_) (fun g2 h=>?_)
  ·refine ww ?_
   cases h
   exact eM [some 0] rfl
  refine ww ?_
  refine guardSh h (fun g3 h=>?_) (fun g3 h=>?_)
  ·refine ww ?_
   cases h
   exact eM [some 0] rfl
  refine ww ?_
  refine guardSh h (fun g4 h=>?_) (fun g4 h=>?_)
  ·refine ww ?_
   cases h
   exact eM [some 0] rfl
  refine ww ?_
  refine guardSh h (fun g5 h=>?_) (fun g5 h=>?_)
  ·refine ww ?_
   cases h
   exact eM [some 0] rfl
  refine ww ?_
  refine guardSh h (fun g6 h=>?_) (fun g6 h=>?_)
  ·refine ww ?_
   cases h
   exact eM [some 0] rfl
  refine ww ?_
  refine guardSh h (fun g7 h=>?_) (fun g7 h=>?_)
  ·refine ww ?_
   cases h
   exact eM [some 0] rfl
  refine ww ?_
  cases h
  exact eM [some 0] rfl
 rintro _ rfl
 clear ho
 refine ww ?_
 refine condBh h (fun c8 h=>?_) (fun c8 h=>?_)
 ·refine ww ?_
  cases h
  exact eF []
 refine ww ?_
 obtain⟨o9,ho,h⟩:=bi h
 refine cutS (fun s=>s=⟨[(1,.one (.c (.pt 0 0))),(66,.one (.c (dB o9)))],[some (.box [dI x0.Rev,dI x0.Floor,dI x0.NextUid,dM (x0.Base.map eObject),dM (x0.Objects.map eObject),dM (x0.History.map eChange)])]⟩) ?_ ?_
 ·have h:=ho
  clear ho
  refine ww ?_
  obtain⟨t10,ht10,h⟩:=bi h
  refine cN [] (F43_ok ht10) trivial (ww ?_)
  refine guardSBh h (fun g11 h=>?_) (fun g11 h=>?_)
  ·refine ww ?_
   cases h
   exact eM [some 0] rfl
  refine ww ?_
  obtain⟨t12,ht12,h⟩:=bi h
  refine cN [] (F43_ok ht12) trivial (ww ?_)
  cases h
  exact eM [some 0] rfl
 rintro _ rfl
 clear ho
 refine ww ?_
 refine condBh h (fun c13 h=>?_) (fun c13 h=>?_)
 ·refine ww ?_
  cases h
  exact eF []
 refine ww ?_
 obtain⟨t14,ht14,h⟩:=bi h
 refine cN [] (F44_ok ht14) trivial (ww ?_)
 obtain⟨o15,ho,h⟩:=bi h
 refine cutS (fun s=>∃po15,o15=Sum.inr po15∧s=⟨[(1,.one (.c (.pt 0 0))),(3,.one (.c (.own 1 0 0 (po15.length) none)))],[some (.box [dI x0.Rev,dI x0.Floor,dI x0.NextUid,dM (x0.Base.map eObject),dM (x0.Objects.map eObject),dM (x0.History.map eChange)]),some (.arr 0 23 (po15.map eObject))]⟩) ?_ ?_
 ·have h0o15:=h
  have h:=ho
  clear ho
  obtain⟨_,hk,h⟩:=bi h
  have hk:=ck_some hk
  refine ww ?_
  refine bL (fun j s=>∃(o15_1:Nat) (o15_0:List Object),(o15_1≤x0.History.length∧j=x0.History.length-o15_1)∧s=⟨[(1,.one (.c (.pt 0 0))),(3,.one (.c (.own 1 0 0 (o15_0.length) none))),(71,.one (.c (dM (x0.History.map eChange)))),(72,.one (.c (dI ((x0.History.length:Int))))),(73,.one (.c (dI ((o15_1:Int)))))],[some (.box [dI x0.Rev,dI x0.Floor,dI x0.NextUid,dM (x0.Base.map eObject),dM (x0.Objects.map eObject),dM (x0.History.map eChange)]),some (.arr 0 23 (o15_0.map eObject))]⟩∧F15_l15 x0 (x0.History.drop o15_1) o15_1 o15_0=some o15) (x0.History.length-0) [some 0,some 1] ⟨0,t14,⟨hk.1,rfl⟩,rfl,h⟩ ?_
  rintro _ _ ⟨o15_1,o15_0,⟨hi,rfl⟩,rfl,h⟩
  refine ww ?_
  refine condS (fun c16=>?_) (fun c16=>?_)
  ·obtain⟨xo15,hxo15,hd⟩:=countY (show(o15_1:Int)<(x0.History.length:Int)from c16)
   rw[hd,F15_l15]at h
   refine ww ?_
   refine t_idxF (enc:=eChange) (xs:=x0.History) rfl rfl hxo15 rfl (ww ?_)
   obtain⟨o17,ho,h⟩:=bi h
   refine cutS (fun s=>s=⟨[(1,.one (.c (.pt 0 0))),(3,.one (.c (.own 1 0 0 (o15_0.length) none))),(5,.one (.c (.pt 2 0))),(71,.one (.c (dM (x0.History.map eChange)))),(72,.one (.c (dI ((x0.History.length:Int))))),(73,.one (.c (dI ((o15_1:Int))))),(110,.one (.c (dB o17)))],[some (.box [dI x0.Rev,dI x0.Floor,dI x0.NextUid,dM (x0.Base.map eObject),dM (x0.Objects.map eObject),dM (x0.History.map eChange)]),some (.arr 0 23 (o15_0.map eObject)),some (.box [dI xo15.Rev,dI xo15.Kind,dS xo15.Object.Meta.Kind,dS xo15.Object.Meta.Namespace,dS xo15.Object.Meta.Name,dI xo15.Object.Meta.Uid,dI xo15.Object.Meta.Version,dI xo15.Object.Meta.Generation,dI xo15.Object.Meta.Created,dB xo15.Object.Meta.Deleting,dI xo15.Object.Meta.DeleteAt,dM (xo15.Object.Meta.Labels.map eLabel),dM (xo15.Object.Meta.Owners.map eOwner),dM (xo15.Object.Meta.Finalizers.map eS),dM (xo15.Object.Meta.Managers.map eManager),dI xo15.Object.Spec.Kind,dI xo15.Object.Spec.N,dS xo15.Object.Spec.S,dM (xo15.Object.Spec.List_.map eTValue),dM (xo15.Object.Spec.Fields.map eTField),dI xo15.Object.Status.Kind,dI xo15.Object.Status.N,dS xo15.Object.Status.S,dM (xo15.Object.Status.List_.map eTValue),dM (xo15.Object.Status.Fields.map eTField)])]⟩) ?_ ?_
   ·have h:=ho
    clear ho
    refine ww ?_
    refine guardSh h (fun g18 h=>?_) (fun g18 h=>?_)
    ·refine ww ?_
     cases h
     exact eM [some 0,some 1,some 2] rfl
    refine ww ?_
    refine guardSh h (fun g19 h=>?_) (fun g19 h=>?_)
    ·refine ww ?_
     refine guardSh h (fun g20 h=>?_) (fun g20 h=>?_)
     ·refine ww ?_
      cases h
      exact eM [some 0,some 1,some 2] rfl
     refine ww ?_
     obtain⟨t21,ht21,h⟩:=bi h
     refine cN [] (F31_ok ht21) trivial (ww ?_)
     refine guardSBh h (fun g22 h=>?_) (fun g22 h=>?_)
     ·refine ww ?_
      cases h
      exact eM [some 0,some 1,some 2] rfl
     refine ww ?_
     cases h
     exact eM [some 0,some 1,some 2] rfl
    refine ww ?_
    obtain⟨t23,ht23,h⟩:=bi h
    refine cN [] (F31_ok ht23) trivial (ww ?_)
    refine guardSBh h (fun g24 h=>?_) (fun g24 h=>?_)
    ·refine ww ?_
     cases h
     exact eM [some 0,some 1,some 2] rfl
    refine ww ?_
    cases h
    exact eM [some 0,some 1,some 2] rfl
   rintro _ rfl
   clear ho
   refine ww ?_
   refine condBh h (fun c25 h=>?_) (fun c25 h=>?_)
   ·refine ww ?_
    obtain⟨fh0o15,hfh0o15,rfl⟩:=Option.map_eq_some_iff.1 h
    have h:=hfh0o15.trans h0o15
    cases h
    exact eF []
   refine ww ?_
   obtain⟨t26,ht26,h⟩:=bi h
   refine cN [1] (F45_ok (e0:=0) ht26) ⟨⟨rfl,trivial⟩,trivial⟩ ?_
   refine ww ?_
   refine condBh h (fun c27 h=>?_) (fun c27 h=>?_)
   ·refine ww ?_
    obtain⟨fh0o15,hfh0o15,rfl⟩:=Option.map_eq_some_iff.1 h
    have h:=hfh0o15.trans h0o15
    cases h
    exact eF []
   refine ww ?_
   rw[wrapN (by omega)]
   exact eL' (x0.History.length-(o15_1+1)) [some 0,some 1] ⟨o15_1+1,t26.1,⟨by omega,rfl⟩,rfl,h⟩ (by omega)
  rw[countN (show¬((o15_1:Int)<(x0.History.length:Int))from c16),F15_l15]at h
  refine ww ?_
  cases h
  exact eM [some 0,some 1] ⟨_,rfl,rfl⟩
 rintro _ ⟨po15,rfl,rfl⟩
 clear ho
 dsimp only at h
 refine ww ?_
 obtain⟨t29,ht29,h⟩:=bi h
 refine callX_bor (F46_ok ht29) (by simp only[borAs,bors,hp,List.getElem?_cons_zero,List.getElem?_cons_succ,Option.join_some,List.drop_zero,bor_full',true_and,Nat.zero_add,List.length_map,Nat.le_refl,nrm,List.length_cons,List.length_nil,Nat.reduceAdd,Nat.reduceLeDiff,List.take_succ_cons,List.take_zero,List.take_nil,List.map_cons,List.map_nil,List.length_set,EE.down]) rfl ?_
 refine ww ?_
 cases h
 exact eF []
end Go.Proofs.Ytbopaemngpbdgaa
