/- Each Go function as a function over typed data, and its walk. -/
import Derived.Test.YtdkmamiedcanfaaGreatW0
import Derived.Test.YtdkmamiedcanfaaGreatW13
namespace Go.Proofs.YtdkmamiedcanfaaGreat
open Go Go.Fw Go.Shelf
set_option maxRecDepth 100000
set_option maxHeartbeats 4000000
set_option linter.unusedSimpArgs false
set_option linter.unusedVariables false
def F40_l12(y7:Requirement):List ByteArray→Nat→Option (((Bool) ⊕ (Unit)) ⊕ (Unit))
 |[],o12_0=>some (Sum.inr (()))
 |xo12::xs,o12_0=>(rdI y7.Values ((o12_0:Int))).bind fun y14=>(if¬(xo12=y14)then((some false).map Sum.inl).map Sum.inl else F40_l12 y7 xs (o12_0+1))
def F40_l5(x1:Filter):List Requirement→Nat→Option ((Bool) ⊕ (Unit))
 |[],o5_0=>some (Sum.inr (()))
 |xo5::xs,o5_0=>(rdI x1.Selector ((o5_0:Int))).bind fun y7=>(((if¬(xo5.Key=y7.Key)then some true else(if¬(xo5.Op=y7.Op)then some true else some (decide (¬((xo5.Values.length:Int)=(y7.Values.length:Int))))))).bind fun o8=>(if o8=true then(some false).map Sum.inl else(((ck (0≤xo5.Values.length∧xo5.Values.length≤4294967290)).bind fun u16=>F40_l12 y7 xo5.Values 0:Option (((Bool) ⊕ (Unit)) ⊕ (Unit))).bind fun o12=>match o12 with|Sum.inl f=>some f|Sum.inr po12=>F40_l5 x1 xs (o5_0+1))))
def F40(x0:Filter)(x1:Filter):Option (Bool):=(((if¬(x0.Kind=x1.Kind)then some true else(if¬(x0.Namespace=x1.Namespace)then some true else some (decide (¬((x0.Selector.length:Int)=(x1.Selector.length:Int))))))).bind fun o1=>(if o1=true then some false else(((ck (0≤x0.Selector.length∧x0.Selector.length≤4294967290)).bind fun u17=>F40_l5 x1 x0.Selector 0:Option ((Bool) ⊕ (Unit))).bind fun o5=>match o5 with|Sum.inl f=>some f|Sum.inr po5=>some true)))
def a40:AFn:=⟨86,[(.tmp 4)],
 (.seq (.reg [sq 2 (.box (.t 0)),
sq 3 (.box (.t 1)),
sq 4 (.mv (kB false))])
 (.seq (.seq (.sem (.reg [sq 9 (.fieldA 0 (.t 2)),
sq 10 (.load none (.t 9)),
sq 11 (.fieldA 0 (.t 3)),
sq 12 (.load none (.t 11)),
sq 13 (.bin .neq (.t 10) (.t 12)),
sq 14 (.mv (.t 13)),
zg 15 14 false (.fieldA 1 (.t 2)),
zg 16 14 false (.load none (.t 15)),
zg 17 14 false (.fieldA 1 (.t 3)),
zg 18 14 false (.load none (.t 17)),
zg 19 14 false (.bin .neq (.t 16) (.t 18)),
sq 20 (.pick (.t 14) (kB true) (.t 19)),
sq 21 (.mv (.t 20)),
zg 22 21 false (.fieldA 2 (.t 2)),
zg 23 21 false (.load none (.t 22)),
zg 24 21 false (.len (.t 23)),
zg 25 21 false (.fieldA 2 (.t 3)),
zg 26 21 false (.load none (.t 25)),
zg 27 21 false (.len (.t 26)),
zg 28 21 false (.bin .neq (.t 24) (.t 27)),
sq 29 (.pick (.t 21) (kB true) (.t 28))]))
 (.cond (.t 29)
 (.seq (.reg [sq 4 (.mv (kB false))])
 .ret)
 .skip))
 (.seq (.seq (.reg [sq 5 (.mv (kI 0))])
 (.sem (.block 0 (.loop (.seq (.seq (.reg [sq 30 (.mv (.t 5)),
sq 31 (.fieldA 2 (.t 2)),
sq 32 (.load none (.t 31)),
sq 33 (.len (.t 32)),
sq 34 (.bin .lss (.t 30) (.t 33))])
 (.cond (.t 34)
 .skip
 (.exit 0)))
 (.seq (.block 1 (.seq (.regd [sq 37 (.fieldA 2 (.t 2)),
sd 38 (.load none (.t 37)) [0],
sq 39 (.mv (.t 5)),
sd 40 (.indexA 3 (.t 38) (.t 39)) [0,1,2],
sd 41 (.load (some 3) (.t 40)) [0,1,2,3],
sq 42 (.fieldA 2 (.t 3)),
sd 43 (.load none (.t 42)) [5],
sq 44 (.mv (.t 5)),
sd 45 (.indexA 3 (.t 43) (.t 44)) [5,6,7],
sd 46 (.load (some 3) (.t 45)) [5,6,7,8],
sq 6 (.zbox [dS ⟨#[]⟩,dI 0,dN]),
sq 7 (.zbox [dS ⟨#[]⟩,dI 0,dN]),
⟨none,none,.store 3 (.t 6) (.t 41),[0,1,2,3,4,10,11],(.lone [3,42,43,45])⟩,
⟨none,none,.store 3 (.t 7) (.t 46),[0,1,2,3,4,5,6,7,8,9,10,11,12],(.lone [])⟩])
 (.seq (.seq (.sem (.reg [sq 47 (.fieldA 0 (.t 6)),
sq 48 (.load none (.t 47)),
sq 49 (.fieldA 0 (.t 7)),
sq 50 (.load none (.t 49)),
sq 51 (.bin .neq (.t 48) (.t 50)),
sq 52 (.mv (.t 51)),
zg 53 52 false (.fieldA 1 (.t 6)),
zg 54 52 false (.load none (.t 53)),
zg 55 52 false (.fieldA 1 (.t 7)),
zg 56 52 false (.load none (.t 55)),
zg 57 52 false (.bin .neq (.t 54) (.t 56)),
sq 58 (.pick (.t 52) (kB true) (.t 57)),
sq 59 (.mv (.t 58)),
zg 60 59 false (.fieldA 2 (.t 6)),
zg 61 59 false (.load none (.t 60)),
zg 62 59 false (.len (.t 61)),
zg 63 59 false (.fieldA 2 (.t 7)),
zg 64 59 false (.load none (.t 63)),
zg 65 59 false (.len (.t 64)),
zg 66 59 false (.bin .neq (.t 62) (.t 65)),
sq 67 (.pick (.t 59) (kB true) (.t 66))]))
 (.cond (.t 67)
 (.seq (.reg [sq 4 (.mv (kB false))])
 .ret)
 .skip))
 (.seq (.reg [sq 8 (.mv (kI 0))])
 (.sem (.block 2 (.loop (.seq (.seq (.reg [sq 68 (.mv (.t 8)),
sq 69 (.fieldA 2 (.t 6)),
sq 70 (.load none (.t 69)),
sq 71 (.len (.t 70)),
sq 72 (.bin .lss (.t 68) (.t 71))])
 (.cond (.t 72)
 .skip
 (.exit 2)))
 (.seq (.block 3 (.seq (.regd [sq 75 (.fieldA 2 (.t 6)),
sd 76 (.load none (.t 75)) [0],
sq 77 (.mv (.t 8)),
sd 78 (.indexA 1 (.t 76) (.t 77)) [0,1,2],
sd 79 (.load none (.t 78)) [0,1,2,3],
sq 80 (.fieldA 2 (.t 7)),
sd 81 (.load none (.t 80)) [5],
sq 82 (.mv (.t 8)),
sd 83 (.indexA 1 (.t 81) (.t 82)) [5,6,7],
sd 84 (.load none (.t 83)) [5,6,7,8],
sd 85 (.bin .neq (.t 79) (.t 84)) [0,1,2,3,4,5,6,7,8,9]])
 (.cond (.t 85)
 (.seq (.reg [sq 4 (.mv (kB false))])
 .ret)
 .skip)))
 (.reg [sq 73 (.mv (.t 8)),
sq 74 (.bin .add (.t 73) (kI 1)),
sq 8 (.mv (.t 74))]))))))))))
 (.reg [sq 35 (.mv (.t 5)),
sq 36 (.bin .add (.t 35) (kI 1)),
sq 5 (.mv (.t 36))])))))))
 (.seq (.reg [sq 4 (.mv (kB true))])
 .ret))))⟩
theorem F40_ok{x0 x1 r}(h:F40 x0 x1=some r):CallD Tryz.prog 40 [.agg [dS x0.Kind,dS x0.Namespace,dM (x0.Selector.map eRequirement)],.agg [dS x1.Kind,dS x1.Namespace,dM (x1.Selector.map eRequirement)]] [] (tupV [.c (dB r)]) []:=by
 rw[F40]at h
 refine zc a40 (by kernel_rfl) rfl (ww ?_)
 obtain⟨o1,ho,h⟩:=bi h
 refine cutS (fun s=>s=⟨[(2,.one (.c (.pt 0 0))),(3,.one (.c (.pt 1 0))),(29,.one (.c (dB o1)))],[some (.box [dS x0.Kind,dS x0.Namespace,dM (x0.Selector.map eRequirement)]),some (.box [dS x1.Kind,dS x1.Namespace,dM (x1.Selector.map eRequirement)])]⟩) ?_ ?_
 ·have h:=ho
  clear ho
  refine ww ?_
  refine guardSh h (fun g2 h=>?_) (fun g2 h=>?_)
  ·refine ww ?_
   cases h
   exact eM [some 0,some 1] rfl
  refine ww ?_
  refine guardSh h (fun g3 h=>?_) (fun g3 h=>?_)
  ·refine ww ?_
   cases h
   exact eM [some 0,some 1] rfl
  refine ww ?_
  cases h
  exact eM [some 0,some 1] rfl
 rintro _ rfl
 clear ho
 refine ww ?_
 refine condBh h (fun c4 h=>?_) (fun c4 h=>?_)
 ·refine ww ?_
  cases h
  exact eF []
 refine ww ?_
 obtain⟨o5,ho,h⟩:=bi h
 refine cutS (fun s=>∃po5,o5=Sum.inr po5∧s=⟨[],[]⟩) ?_ ?_
 ·have h0o5:=h
  have h:=ho
  clear ho
  obtain⟨_,hk,h⟩:=bi h
  have hk:=ck_some hk
  refine ww ?_
  refine bL (fun j s=>∃(o5_0:Nat),(o5_0≤x0.Selector.length∧j=x0.Selector.length-o5_0)∧s=⟨[(2,.one (.c (.pt 0 0))),(3,.one (.c (.pt 1 0))),(5,.one (.c (dI ((o5_0:Int)))))],[some (.box [dS x0.Kind,dS x0.Namespace,dM (x0.Selector.map eRequirement)]),some (.box [dS x1.Kind,dS x1.Namespace,dM (x1.Selector.map eRequirement)])]⟩∧F40_l5 x1 (x0.Selector.drop o5_0) o5_0=some o5) (x0.Selector.length-0) [some 0,some 1] ⟨0,⟨hk.1,rfl⟩,rfl,h⟩ ?_
  rintro _ _ ⟨o5_0,⟨hi,rfl⟩,rfl,h⟩
  refine ww ?_
  refine condS (fun c6=>?_) (fun c6=>?_)
  ·obtain⟨xo5,hxo5,hd⟩:=countY (show(o5_0:Int)<(x0.Selector.length:Int)from c6)
   rw[hd,F40_l5]at h
   refine ww ?_
   refine t_idxF (enc:=eRequirement) (xs:=x0.Selector) rfl rfl hxo5 rfl (ww ?_)
   obtain⟨y7,hy7,h⟩:=bi h
   refine t_idxF (enc:=eRequirement) (xs:=x1.Selector) rfl rfl hy7 rfl (ww ?_)
   refine kD_new (by simp[wrs,allW,hset]) (ww ?_)
   refine kD_new (by simp[wrs,allW,hset]) (ww ?_)
   obtain⟨o8,ho,h⟩:=bi h
   refine cutS (fun s=>s=⟨[(2,.one (.c (.pt 0 0))),(3,.one (.c (.pt 1 0))),(5,.one (.c (dI ((o5_0:Int))))),(6,.one (.c (.pt 2 0))),(7,.one (.c (.pt 3 0))),(67,.one (.c (dB o8)))],[some (.box [dS x0.Kind,dS x0.Namespace,dM (x0.Selector.map eRequirement)]),some (.box [dS x1.Kind,dS x1.Namespace,dM (x1.Selector.map eRequirement)]),some (.box [dS xo5.Key,dI xo5.Op,dM (xo5.Values.map eS)]),some (.box [dS y7.Key,dI y7.Op,dM (y7.Values.map eS)])]⟩) ?_ ?_
   ·have h:=ho
    clear ho
    refine ww ?_
    refine guardSh h (fun g9 h=>?_) (fun g9 h=>?_)
    ·refine ww ?_
     cases h
     exact eM [some 0,some 1,some 2,some 3] rfl
    refine ww ?_
    refine guardSh h (fun g10 h=>?_) (fun g10 h=>?_)
    ·refine ww ?_
     cases h
     exact eM [some 0,some 1,some 2,some 3] rfl
    refine ww ?_
    cases h
    exact eM [some 0,some 1,some 2,some 3] rfl
   rintro _ rfl
   clear ho
   refine ww ?_
   refine condBh h (fun c11 h=>?_) (fun c11 h=>?_)
   ·refine ww ?_
    obtain⟨fh0o5,hfh0o5,rfl⟩:=Option.map_eq_some_iff.1 h
    have h:=hfh0o5.trans h0o5
    cases h
    exact eF []
   refine ww ?_
   obtain⟨o12,ho,h⟩:=bi h
   refine cutS (fun s=>∃po12,o12=Sum.inr po12∧s=⟨[(2,.one (.c (.pt 0 0))),(3,.one (.c (.pt 1 0))),(5,.one (.c (dI ((o5_0:Int)))))],[some (.box [dS x0.Kind,dS x0.Namespace,dM (x0.Selector.map eRequirement)]),some (.box [dS x1.Kind,dS x1.Namespace,dM (x1.Selector.map eRequirement)])]⟩) ?_ ?_
   ·have h0o12:=h
    have h:=ho
    clear ho
    obtain⟨_,hk,h⟩:=bi h
    have hk:=ck_some hk
    refine ww ?_
    refine bL (fun j s=>∃(o12_0:Nat),(o12_0≤xo5.Values.length∧j=xo5.Values.length-o12_0)∧s=⟨[(2,.one (.c (.pt 0 0))),(3,.one (.c (.pt 1 0))),(5,.one (.c (dI ((o5_0:Int))))),(6,.one (.c (.pt 2 0))),(7,.one (.c (.pt 3 0))),(8,.one (.c (dI ((o12_0:Int)))))],[some (.box [dS x0.Kind,dS x0.Namespace,dM (x0.Selector.map eRequirement)]),some (.box [dS x1.Kind,dS x1.Namespace,dM (x1.Selector.map eRequirement)]),some (.box [dS xo5.Key,dI xo5.Op,dM (xo5.Values.map eS)]),some (.box [dS y7.Key,dI y7.Op,dM (y7.Values.map eS)])]⟩∧F40_l12 y7 (xo5.Values.drop o12_0) o12_0=some o12) (xo5.Values.length-0) [some 0,some 1,some 2,some 3] ⟨0,⟨hk.1,rfl⟩,rfl,h⟩ ?_
    rintro _ _ ⟨o12_0,⟨hi,rfl⟩,rfl,h⟩
    refine ww ?_
    refine condS (fun c13=>?_) (fun c13=>?_)
    ·obtain⟨xo12,hxo12,hd⟩:=countY (show(o12_0:Int)<(xo5.Values.length:Int)from c13)
     rw[hd,F40_l12]at h
     refine ww ?_
     refine t_idxF (enc:=eS) (xs:=xo5.Values) rfl rfl hxo12 rfl (ww ?_)
     obtain⟨y14,hy14,h⟩:=bi h
     refine t_idxF (enc:=eS) (xs:=y7.Values) rfl rfl hy14 rfl (ww ?_)
     refine condSh h (fun c15 h=>?_) (fun c15 h=>?_)
     ·refine ww ?_
      obtain⟨fh0o12,hfh0o12,rfl⟩:=Option.map_eq_some_iff.1 h
      have h:=hfh0o12.trans h0o12
      obtain⟨fh0o5,hfh0o5,rfl⟩:=Option.map_eq_some_iff.1 h
      have h:=hfh0o5.trans h0o5
      cases h
      exact eF []
     refine ww ?_
     rw[wrapN (by omega)]
     exact eL' (xo5.Values.length-(o12_0+1)) [some 0,some 1,some 2,some 3] ⟨o12_0+1,⟨by omega,rfl⟩,rfl,h⟩ (by omega)
    rw[countN (show¬((o12_0:Int)<(xo5.Values.length:Int))from c13),F40_l12]at h
    refine ww ?_
    cases h
    exact eM [some 0,some 1] ⟨_,rfl,rfl⟩
   rintro _ ⟨po12,rfl,rfl⟩
   clear ho
   dsimp only at h
   refine ww ?_
   rw[wrapN (by omega)]
   exact eL' (x0.Selector.length-(o5_0+1)) [some 0,some 1] ⟨o5_0+1,⟨by omega,rfl⟩,rfl,h⟩ (by omega)
  rw[countN (show¬((o5_0:Int)<(x0.Selector.length:Int))from c6),F40_l5]at h
  refine ww ?_
  cases h
  exact eM [] ⟨_,rfl,rfl⟩
 rintro _ ⟨po5,rfl,rfl⟩
 clear ho
 dsimp only at h
 refine ww ?_
 cases h
 exact eF []
def F15(x0:Cache)(x1:Cache):Option (Bool):=(((if x0.Rev=x1.Rev then(if(((x0.Synced==x1.Synced)!=false))=true then(F40 x0.Filter x1.Filter).bind fun t4=>(if t4=true then(F25 x0.Objects x1.Objects).bind fun t6=>some t6 else some false)else some false)else some false)).bind fun o1=>some o1)
def a15:AFn:=⟨31,[(.tmp 4)],
 (.seq (.reg [sq 2 (.box (.t 0)),
sq 3 (.box (.t 1)),
sq 4 (.mv (kB false))])
 (.seq (.sem (.reg [sq 5 (.fieldA 3 (.t 2)),
sq 6 (.load none (.t 5)),
sq 7 (.fieldA 3 (.t 3)),
sq 8 (.load none (.t 7)),
sq 9 (.bin .eql (.t 6) (.t 8)),
sq 10 (.mv (.t 9)),
zg 11 10 true (.fieldA 4 (.t 2)),
zg 12 10 true (.load none (.t 11)),
zg 13 10 true (.fieldA 4 (.t 3)),
zg 14 10 true (.load none (.t 13)),
zg 15 10 true (.beq false (.t 12) (.t 14)),
sq 16 (.pick (.t 10) (.t 15) (kB false)),
sq 17 (.mv (.t 16)),
zg 18 17 true (.fieldA 0 (.t 2)),
zg 19 17 true (.load (some 3) (.t 18)),
zg 20 17 true (.fieldA 0 (.t 3)),
zg 21 17 true (.load (some 3) (.t 20)),
zg 22 17 true (.call 40 [(.t 19),(.t 21)]),
sq 23 (.pick (.t 17) (.t 22) (kB false)),
sq 24 (.mv (.t 23)),
zg 25 24 true (.fieldA 5 (.t 2)),
zg 26 24 true (.load none (.t 25)),
zg 27 24 true (.fieldA 5 (.t 3)),
zg 28 24 true (.load none (.t 27)),
zg 29 24 true (.call 25 [(.t 26),(.t 28)]),
sq 30 (.pick (.t 24) (.t 29) (kB false)),
sq 4 (.mv (.t 30))]))
 .ret))⟩
theorem F15_ok{x0 x1 r}(h:F15 x0 x1=some r):CallD Tryz.prog 15 [.agg [dS x0.Filter.Kind,dS x0.Filter.Namespace,dM (x0.Filter.Selector.map eRequirement),dI x0.Rev,dB x0.Synced,dM (x0.Objects.map eObject)],.agg [dS x1.Filter.Kind,dS x1.Filter.Namespace,dM (x1.Filter.Selector.map eRequirement),dI x1.Rev,dB x1.Synced,dM (x1.Objects.map eObject)]] [] (tupV [.c (dB r)]) []:=by
 rw[F15]at h
 refine zc a15 (by kernel_rfl) rfl (ww ?_)
 obtain⟨o1,ho,h⟩:=bi h
 refine cutS (fun s=>s=⟨[(4,.one (.c (dB o1)))],[]⟩) ?_ ?_
 ·have h:=ho
  clear ho
  refine ww ?_
  refine guardSh h (fun g2 h=>?_) (fun g2 h=>?_)
  ·refine ww ?_
   refine guardSBh h (fun g3 h=>?_) (fun g3 h=>?_)
   ·refine ww ?_
    obtain⟨t4,ht4,h⟩:=bi h
    refine cN [] (F40_ok ht4) trivial (ww ?_)
    refine guardSBh h (fun g5 h=>?_) (fun g5 h=>?_)
    ·refine ww ?_
     obtain⟨t6,ht6,h⟩:=bi h
     refine cN [] (F25_ok ht6) trivial (ww ?_)
     cases h
     exact eM [] rfl
    refine ww ?_
    cases h
    exact eM [] rfl
   refine ww ?_
   cases h
   exact eM [] rfl
  refine ww ?_
  cases h
  exact eM [] rfl
 rintro _ rfl
 clear ho
 refine ww ?_
 cases h
 exact eF []
end Go.Proofs.YtdkmamiedcanfaaGreat
