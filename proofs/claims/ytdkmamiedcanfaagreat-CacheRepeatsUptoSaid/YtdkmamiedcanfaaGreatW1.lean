/- Each Go function as a function over typed data, and its walk. -/
import Derived.Test.YtdkmamiedcanfaaGreatW0
namespace Go.Proofs.YtdkmamiedcanfaaGreat
open Go Go.Fw Go.Shelf
set_option maxRecDepth 100000
set_option maxHeartbeats 4000000
set_option linter.unusedSimpArgs false
set_option linter.unusedVariables false
def F54_l1(rc1:TValue→Option (Int)):List TValue→Nat→Int→Option (Int)
 |[],o1_1,o1_0=>some o1_0
 |xo1::xs,o1_1,o1_0=>(rc1 xo1).bind fun t3=>F54_l1 rc1 xs (o1_1+1) ((IntKind.i64.wrap (o1_0+t3)))
def F54_l5(rc1:TValue→Option (Int)):List TField→Nat→Int→Option (Int)
 |[],o5_1,o5_0=>some o5_0
 |xo5::xs,o5_1,o5_0=>(rc1 xo5.V).bind fun t7=>F54_l5 rc1 xs (o5_1+1) ((IntKind.i64.wrap (o5_0+t7)))
def F54(rc1:TValue→Option (Int))(x0:TValue):Option (Int):=(((ck (0≤x0.List_.length∧x0.List_.length≤4294967290)).bind fun u4=>F54_l1 rc1 x0.List_ 0 1).bind fun o1=>(((ck (0≤x0.Fields.length∧x0.Fields.length≤4294967290)).bind fun u8=>F54_l5 rc1 x0.Fields 0 o1).bind fun o5=>some o5))
def a54:AFn:=⟨38,[(.tmp 2)],
 (.seq (.reg [sq 1 (.box (.t 0)),
sq 2 (.mv (kI 0))])
 (.seq (.reg [sq 3 (.mv (kI 1))])
 (.seq (.seq (.reg [sq 4 (.mv (kI 0))])
 (.sem (.block 0 (.loop (.seq (.seq (.reg [sq 6 (.mv (.t 4)),
sq 7 (.fieldA 3 (.t 1)),
sq 8 (.load none (.t 7)),
sq 9 (.len (.t 8)),
sq 10 (.bin .lss (.t 6) (.t 9))])
 (.cond (.t 10)
 .skip
 (.exit 0)))
 (.seq (.block 1 (.reg [sq 13 (.mv (.t 3)),
sq 14 (.fieldA 3 (.t 1)),
sq 15 (.load none (.t 14)),
sq 16 (.mv (.t 4)),
sq 17 (.indexA 5 (.t 15) (.t 16)),
sq 18 (.load (some 5) (.t 17)),
sq 19 (.call 54 [(.t 18)]),
sq 20 (.bin .add (.t 13) (.t 19)),
sq 3 (.mv (.t 20))]))
 (.reg [sq 11 (.mv (.t 4)),
sq 12 (.bin .add (.t 11) (kI 1)),
sq 4 (.mv (.t 12))])))))))
 (.seq (.seq (.reg [sq 5 (.mv (kI 0))])
 (.sem (.block 2 (.loop (.seq (.seq (.reg [sq 21 (.mv (.t 5)),
sq 22 (.fieldA 4 (.t 1)),
sq 23 (.load none (.t 22)),
sq 24 (.len (.t 23)),
sq 25 (.bin .lss (.t 21) (.t 24))])
 (.cond (.t 25)
 .skip
 (.exit 2)))
 (.seq (.block 3 (.reg [sq 28 (.mv (.t 3)),
sq 29 (.fieldA 4 (.t 1)),
sq 30 (.load none (.t 29)),
sq 31 (.mv (.t 5)),
sq 32 (.indexA 6 (.t 30) (.t 31)),
sq 33 (.fieldA 1 (.t 32)),
sq 34 (.load (some 5) (.t 33)),
sq 35 (.call 54 [(.t 34)]),
sq 36 (.bin .add (.t 28) (.t 35)),
sq 3 (.mv (.t 36))]))
 (.reg [sq 26 (.mv (.t 5)),
sq 27 (.bin .add (.t 26) (kI 1)),
sq 5 (.mv (.t 27))])))))))
 (.seq (.reg [sq 37 (.mv (.t 3)),
sq 2 (.mv (.t 37))])
 .ret)))))⟩
theorem F54_ok{rc1:TValue→Option (Int)}(ih1:∀{x0:TValue} {r:Int} (h:rc1 x0=some r),CallD Tryz.prog 54 [.agg [dI x0.Kind,dI x0.N,dS x0.S,dM (x0.List_.map eTValue),dM (x0.Fields.map eTField)]] [] (tupV [.c (dI r)]) []){x0:TValue}{r:Int}(h:F54 rc1 x0=some r):CallD Tryz.prog 54 [.agg [dI x0.Kind,dI x0.N,dS x0.S,dM (x0.List_.map eTValue),dM (x0.Fields.map eTField)]] [] (tupV [.c (dI r)]) []:=by
 rw[F54]at h
 refine zc a54 (by kernel_rfl) rfl (ww ?_)
 obtain⟨o1,ho,h⟩:=bi h
 refine cutS (fun s=>s=⟨[(1,.one (.c (.pt 0 0))),(3,.one (.c (dI o1)))],[some (.box [dI x0.Kind,dI x0.N,dS x0.S,dM (x0.List_.map eTValue),dM (x0.Fields.map eTField)])]⟩) ?_ ?_
 ·have h:=ho
  clear ho
  obtain⟨_,hk,h⟩:=bi h
  have hk:=ck_some hk
  refine ww ?_
  refine bL (fun j s=>∃(o1_1:Nat) (o1_0:Int),(o1_1≤x0.List_.length∧j=x0.List_.length-o1_1)∧s=⟨[(1,.one (.c (.pt 0 0))),(3,.one (.c (dI o1_0))),(4,.one (.c (dI ((o1_1:Int)))))],[some (.box [dI x0.Kind,dI x0.N,dS x0.S,dM (x0.List_.map eTValue),dM (x0.Fields.map eTField)])]⟩∧F54_l1 rc1 (x0.List_.drop o1_1) o1_1 o1_0=some o1) (x0.List_.length-0) [some 0] ⟨0,1,⟨hk.1,rfl⟩,rfl,h⟩ ?_
  rintro _ _ ⟨o1_1,o1_0,⟨hi,rfl⟩,rfl,h⟩
  refine ww ?_
  refine condS (fun c2=>?_) (fun c2=>?_)
  ·obtain⟨xo1,hxo1,hd⟩:=countY (show(o1_1:Int)<(x0.List_.length:Int)from c2)
   rw[hd,F54_l1]at h
   refine ww ?_
   refine t_idxF (enc:=eTValue) (xs:=x0.List_) rfl rfl hxo1 (by rw[eTValue_u];rfl) (ww ?_)
   obtain⟨t3,ht3,h⟩:=bi h
   refine cN [] (ih1 ht3) trivial (ww ?_)
   rw[wrapN (by omega)]
   exact eL' (x0.List_.length-(o1_1+1)) [some 0] ⟨o1_1+1,(IntKind.i64.wrap (o1_0+t3)),⟨by omega,rfl⟩,rfl,h⟩ (by omega)
  rw[countN (show¬((o1_1:Int)<(x0.List_.length:Int))from c2),F54_l1]at h
  refine ww ?_
  cases h
  exact eM [some 0] rfl
 rintro _ rfl
 clear ho
 refine ww ?_
 obtain⟨o5,ho,h⟩:=bi h
 refine cutS (fun s=>s=⟨[(3,.one (.c (dI o5)))],[]⟩) ?_ ?_
 ·have h:=ho
  clear ho
  obtain⟨_,hk,h⟩:=bi h
  have hk:=ck_some hk
  refine ww ?_
  refine bL (fun j s=>∃(o5_1:Nat) (o5_0:Int),(o5_1≤x0.Fields.length∧j=x0.Fields.length-o5_1)∧s=⟨[(1,.one (.c (.pt 0 0))),(3,.one (.c (dI o5_0))),(5,.one (.c (dI ((o5_1:Int)))))],[some (.box [dI x0.Kind,dI x0.N,dS x0.S,dM (x0.List_.map eTValue),dM (x0.Fields.map eTField)])]⟩∧F54_l5 rc1 (x0.Fields.drop o5_1) o5_1 o5_0=some o5) (x0.Fields.length-0) [some 0] ⟨0,o1,⟨hk.1,rfl⟩,rfl,h⟩ ?_
  rintro _ _ ⟨o5_1,o5_0,⟨hi,rfl⟩,rfl,h⟩
  refine ww ?_
  refine condS (fun c6=>?_) (fun c6=>?_)
  ·obtain⟨xo5,hxo5,hd⟩:=countY (show(o5_1:Int)<(x0.Fields.length:Int)from c6)
   rw[hd,F54_l5]at h
   refine ww ?_
   refine t_idxF (enc:=eTField) (xs:=x0.Fields) rfl rfl hxo5 (by rw[eTField_u];rfl) (ww ?_)
   obtain⟨t7,ht7,h⟩:=bi h
   refine cN [] (ih1 ht7) trivial (ww ?_)
   rw[wrapN (by omega)]
   exact eL' (x0.Fields.length-(o5_1+1)) [some 0] ⟨o5_1+1,(IntKind.i64.wrap (o5_0+t7)),⟨by omega,rfl⟩,rfl,h⟩ (by omega)
  rw[countN (show¬((o5_1:Int)<(x0.Fields.length:Int))from c6),F54_l5]at h
  refine ww ?_
  cases h
  exact eM [] rfl
 rintro _ rfl
 clear ho
 refine ww ?_
 cases h
 exact eF []
def F54k:Nat→TValue→Option (Int)
 |0=>fun _=>none
 |k+1=>F54 (F54k k)
theorem F54k_ok(k:Nat){x0:TValue}{r:Int}(h:F54k k x0=some r):CallD Tryz.prog 54 [.agg [dI x0.Kind,dI x0.N,dS x0.S,dM (x0.List_.map eTValue),dM (x0.Fields.map eTField)]] [] (tupV [.c (dI r)]) []:=by
 induction k generalizing x0 r with
 |zero=>cases(show(none:Option (Int))=some _ from h)
 |succ k ih=>exact F54_ok (fun h=>ih h) h
def F56:Option (Unit):=some (())
def a56:AFn:=⟨2,[(.cell 0 (some 6))],
 (.seq (.reg [zl 0 (.zbox [dI 0,dI 0,dI 0,dN,dN,dN]) [] []])
 (.seq (.reg [sq 1 (.build [dI 0,dI 0,dI 0,dN,dN,dN] [(2,1,(kI 1))]),
su (.store 6 (.t 0) (.t 1))])
 .ret))⟩
theorem F56_ok{r}(h:F56=some r):CallD Tryz.prog 56 [] [] (tupV [.agg [dI 0,dI 0,dI 1,dM (([]:List Object).map eObject),dM (([]:List Object).map eObject),dM (([]:List Change).map eChange)]]) []:=by
 rw[F56]at h
 refine zc a56 (by kernel_rfl) rfl (ww ?_)
 cases h
 exact eF []
def F161_l8(x0:ByteArray):Nat→Int→Option ((Bool) ⊕ (Unit))
 |0,_=>none
 |k+1,o8_0=>(if o8_0<(x0.size:Int)then(((byI x0 o8_0).bind fun y11=>(if 97≤y11 then(byI x0 o8_0).bind fun y13=>(if¬(y13≤122)then(byI x0 o8_0).bind fun y15=>(if 48≤y15 then(byI x0 o8_0).bind fun y17=>(if¬(y17≤57)then(byI x0 o8_0).bind fun y19=>some (decide (¬(y19=45)))else some false)else(byI x0 o8_0).bind fun y20=>some (decide (¬(y20=45))))else some false)else(byI x0 o8_0).bind fun y21=>(if 48≤y21 then(byI x0 o8_0).bind fun y23=>(if¬(y23≤57)then(byI x0 o8_0).bind fun y25=>some (decide (¬(y25=45)))else some false)else(byI x0 o8_0).bind fun y26=>some (decide (¬(y26=45)))))).bind fun o10=>(if o10=true then(some false).map Sum.inl else F161_l8 x0 k ((IntKind.i64.wrap (o8_0+1)))))else some (Sum.inr (())))
def F161(x0:ByteArray):Option (Bool):=(((if x0=(⟨#[]⟩:ByteArray)then some true else(if 40<(x0.size:Int)then some true else(byI x0 0).bind fun y4=>(if y4=45 then some true else(byI x0 ((IntKind.i64.wrap (((x0.size:Int))-1)))).bind fun y6=>some (decide (y6=45)))))).bind fun o1=>(if o1=true then some false else((F161_l8 x0 1099511627776 0:Option ((Bool) ⊕ (Unit))).bind fun o8=>match o8 with|Sum.inl f=>some f|Sum.inr po8=>some true)))
def a161:AFn:=⟨60,[(.tmp 2)],
 (.seq (.reg [sq 2 (.mv (kB false))])
 (.seq (.seq (.sem (.reg [sq 4 (.mv (.t 0)),
sq 5 (.bin .eql (.t 4) (kS ⟨#[]⟩)),
sq 6 (.mv (.t 5)),
zg 7 6 false (.mv (.t 0)),
zg 8 6 false (.slen (.t 7)),
zg 9 6 false (.bin .gtr (.t 8) (kI 40)),
sq 10 (.pick (.t 6) (kB true) (.t 9)),
sq 11 (.mv (.t 10)),
zg 12 11 false (.mv (.t 0)),
zg 13 11 false (.sidx (.t 12) (kI 0)),
zg 14 11 false (.bin .eql (.t 13) (.k (.c (.d (.v (.int .u8 45)))))),
sq 15 (.pick (.t 11) (kB true) (.t 14)),
sq 16 (.mv (.t 15)),
zg 17 16 false (.mv (.t 0)),
zg 18 16 false (.mv (.t 0)),
zg 19 16 false (.slen (.t 18)),
zg 20 16 false (.bin .sub (.t 19) (kI 1)),
zg 21 16 false (.sidx (.t 17) (.t 20)),
zg 22 16 false (.bin .eql (.t 21) (.k (.c (.d (.v (.int .u8 45)))))),
sq 23 (.pick (.t 16) (kB true) (.t 22))]))
 (.cond (.t 23)
 (.seq (.reg [sq 2 (.mv (kB false))])
 .ret)
 .skip))
 (.seq (.seq (.reg [sq 3 (.mv (kI 0))])
 (.sem (.block 0 (.loop (.seq (.seq (.reg [sq 24 (.mv (.t 3)),
sq 25 (.mv (.t 0)),
sq 26 (.slen (.t 25)),
sq 27 (.bin .lss (.t 24) (.t 26))])
 (.cond (.t 27)
 .skip
 (.exit 0)))
 (.seq (.block 1 (.seq (.sem (.reg [sq 30 (.mv (.t 0)),
sq 31 (.mv (.t 3)),
sq 32 (.sidx (.t 30) (.t 31)),
sq 33 (.bin .geq (.t 32) (.k (.c (.d (.v (.int .u8 97)))))),
sq 34 (.mv (.t 33)),
zg 35 34 true (.mv (.t 0)),
zg 36 34 true (.mv (.t 3)),
zg 37 34 true (.sidx (.t 35) (.t 36)),
zg 38 34 true (.bin .leq (.t 37) (.k (.c (.d (.v (.int .u8 122)))))),
sq 39 (.pick (.t 34) (.t 38) (kB false)),
sq 40 (.not (.t 39)),
sq 41 (.mv (.t 40)),
zg 42 41 true (.mv (.t 0)),
zg 43 41 true (.mv (.t 3)),
zg 44 41 true (.sidx (.t 42) (.t 43)),
zg 45 41 true (.bin .geq (.t 44) (.k (.c (.d (.v (.int .u8 48)))))),
zg 46 41 true (.mv (.t 45)),
zg 47 46 true (.mv (.t 0)),
zg 48 46 true (.mv (.t 3)),
zg 49 46 true (.sidx (.t 47) (.t 48)),
zg 50 46 true (.bin .leq (.t 49) (.k (.c (.d (.v (.int .u8 57)))))),
zg 51 41 true (.pick (.t 46) (.t 50) (kB false)),
zg 52 41 true (.not (.t 51)),
sq 53 (.pick (.t 41) (.t 52) (kB false)),
sq 54 (.mv (.t 53)),
zg 55 54 true (.mv (.t 0)),
zg 56 54 true (.mv (.t 3)),
zg 57 54 true (.sidx (.t 55) (.t 56)),
zg 58 54 true (.bin .neq (.t 57) (.k (.c (.d (.v (.int .u8 45)))))),
sq 59 (.pick (.t 54) (.t 58) (kB false))]))
 (.cond (.t 59)
 (.seq (.reg [sq 2 (.mv (kB false))])
 .ret)
 .skip)))
 (.reg [sq 28 (.mv (.t 3)),
sq 29 (.bin .add (.t 28) (kI 1)),
sq 3 (.mv (.t 29))])))))))
 (.seq (.reg [sq 2 (.mv (kB true))])
 .ret))))⟩
theorem F161_ok{x0 r}(h:F161 x0=some r):CallD Tryz.prog 161 [.c (dS x0)] [] (tupV [.c (dB r)]) []:=by
 rw[F161]at h
 refine zc a161 (by kernel_rfl) rfl (ww ?_)
 obtain⟨o1,ho,h⟩:=bi h
 refine cutS (fun s=>s=⟨[(0,.one (.c (dS x0))),(23,.one (.c (dB o1)))],[]⟩) ?_ ?_
 ·have h:=ho
  clear ho
  refine ww ?_
  refine guardSh h (fun g2 h=>?_) (fun g2 h=>?_)
  ·refine ww ?_
   cases h
   exact eM [] rfl
  refine ww ?_
  refine guardSh h (fun g3 h=>?_) (fun g3 h=>?_)
  ·refine ww ?_
   cases h
   exact eM [] rfl
  refine ww ?_
  obtain⟨y4,hy4,h⟩:=bi h
  refine t_sidx rfl rfl hy4 (ww ?_)
  refine guardSh h (fun g5 h=>?_) (fun g5 h=>?_)
  ·refine ww ?_
   cases h
   exact eM [] rfl
  refine ww ?_
  obtain⟨y6,hy6,h⟩:=bi h
  refine t_sidx rfl rfl hy6 (ww ?_)
  cases h
  exact eM [] rfl
 rintro _ rfl
 clear ho
 refine ww ?_
 refine condBh h (fun c7 h=>?_) (fun c7 h=>?_)
 ·refine ww ?_
  cases h
  exact eF []
 refine ww ?_
 obtain⟨o8,ho,h⟩:=bi h
 refine cutS (fun s=>∃po8,o8=Sum.inr po8∧s=⟨[],[]⟩) ?_ ?_
 ·have h0o8:=h
  have h:=ho
  clear ho
  refine ww ?_
  refine bL (fun j s=>∃(o8_0:Int),s=⟨[(0,.one (.c (dS x0))),(3,.one (.c (dI o8_0)))],[]⟩∧F161_l8 x0 j o8_0=some o8) 1099511627776 [] ⟨0,rfl,h⟩ ?_
  rintro j _ ⟨o8_0,rfl,h⟩
  cases j with
  |zero=>cases(show(none:Option _)=some _ from h)
  |succ j=>
   rw[F161_l8]at h
   refine ww ?_
   refine condSh h (fun c9 h=>?_) (fun c9 h=>?_)
   ·refine ww ?_
    obtain⟨o10,ho,h⟩:=bi h
    refine cutS (fun s=>s=⟨[(0,.one (.c (dS x0))),(3,.one (.c (dI o8_0))),(59,.one (.c (dB o10)))],[]⟩) ?_ ?_
    ·have h:=ho
     clear ho
     refine ww ?_
     obtain⟨y11,hy11,h⟩:=bi h
     refine t_sidx rfl rfl hy11 (ww ?_)
     refine guardSh h (fun g12 h=>?_) (fun g12 h=>?_)
     ·refine ww ?_
      obtain⟨y13,hy13,h⟩:=bi h
      refine t_sidx rfl rfl hy13 (ww ?_)
      refine guardSh h (fun g14 h=>?_) (fun g14 h=>?_)
      ·refine ww ?_
       obtain⟨y15,hy15,h⟩:=bi h
       refine t_sidx rfl rfl hy15 (ww ?_)
       refine guardSh h (fun g16 h=>?_) (fun g16 h=>?_)
       ·refine ww ?_
        obtain⟨y17,hy17,h⟩:=bi h
        refine t_sidx rfl rfl hy17 (ww ?_)
        refine guardSh h (fun g18 h=>?_) (fun g18 h=>?_)
        ·refine ww ?_
         obtain⟨y19,hy19,h⟩:=bi h
         refine t_sidx rfl rfl hy19 (ww ?_)
         cases h
         exact eM [] rfl
        ·refine ww ?_
         cases h
         exact eM [] rfl
       ·refine ww ?_
        obtain⟨y20,hy20,h⟩:=bi h
        refine t_sidx rfl rfl hy20 (ww ?_)
        cases h
        exact eM [] rfl
      ·refine ww ?_
       cases h
       exact eM [] rfl
     ·refine ww ?_
      obtain⟨y21,hy21,h⟩:=bi h
      refine t_sidx rfl rfl hy21 (ww ?_)
      refine guardSh h (fun g22 h=>?_) (fun g22 h=>?_)
      ·refine ww ?_
       obtain⟨y23,hy23,h⟩:=bi h
       refine t_sidx rfl rfl hy23 (ww ?_)
       refine guardSh h (fun g24 h=>?_) (fun g24 h=>?_)
       ·refine ww ?_
        obtain⟨y25,hy25,h⟩:=bi h
        refine t_sidx rfl rfl hy25 (ww ?_)
        cases h
        exact eM [] rfl
       ·refine ww ?_
        cases h
        exact eM [] rfl
      ·refine ww ?_
       obtain⟨y26,hy26,h⟩:=bi h
       refine t_sidx rfl rfl hy26 (ww ?_)
       cases h
       exact eM [] rfl
    ·rintro _ rfl
     clear ho
     refine ww ?_
     refine condBh h (fun c27 h=>?_) (fun c27 h=>?_)
     ·refine ww ?_
      obtain⟨fh0o8,hfh0o8,rfl⟩:=Option.map_eq_some_iff.1 h
      have h:=hfh0o8.trans h0o8
      cases h
      exact eF []
     ·refine ww ?_
      exact eL' j [] ⟨(IntKind.i64.wrap (o8_0+1)),rfl,h⟩ (Nat.lt_succ_self _)
   ·refine ww ?_
    cases h
    exact eM [] ⟨_,rfl,rfl⟩
 rintro _ ⟨po8,rfl,rfl⟩
 clear ho
 dsimp only at h
 refine ww ?_
 cases h
 exact eF []
def F204_l1(x0:ByteArray):Nat→Int→Option ((Bool) ⊕ (Unit))
 |0,_=>none
 |k+1,o1_0=>(if o1_0<(x0.size:Int)then(((byI x0 o1_0).bind fun y4=>(if¬(y4=10)then(byI x0 o1_0).bind fun y6=>(if y6<32 then some true else(byI x0 o1_0).bind fun y8=>some (decide (126<y8)))else some false)).bind fun o3=>(if o3=true then(some false).map Sum.inl else F204_l1 x0 k ((IntKind.i64.wrap (o1_0+1)))))else some (Sum.inr (())))
def F204(x0:ByteArray):Option (Bool):=((F204_l1 x0 1099511627776 0:Option ((Bool) ⊕ (Unit))).bind fun o1=>match o1 with|Sum.inl f=>some f|Sum.inr po1=>some (decide ((x0.size:Int)≤200)))
def a204:AFn:=⟨29,[(.tmp 2)],
 (.seq (.reg [sq 2 (.mv (kB false))])
 (.seq (.seq (.reg [sq 3 (.mv (kI 0))])
 (.sem (.block 0 (.loop (.seq (.seq (.reg [sq 4 (.mv (.t 3)),
sq 5 (.mv (.t 0)),
sq 6 (.slen (.t 5)),
sq 7 (.bin .lss (.t 4) (.t 6))])
 (.cond (.t 7)
 .skip
 (.exit 0)))
 (.seq (.block 1 (.seq (.sem (.reg [sq 10 (.mv (.t 0)),
sq 11 (.mv (.t 3)),
sq 12 (.sidx (.t 10) (.t 11)),
sq 13 (.bin .neq (.t 12) (.k (.c (.d (.v (.int .u8 10)))))),
sq 14 (.mv (.t 13)),
zg 15 14 true (.mv (.t 0)),
zg 16 14 true (.mv (.t 3)),
zg 17 14 true (.sidx (.t 15) (.t 16)),
zg 18 14 true (.bin .lss (.t 17) (.k (.c (.d (.v (.int .u8 32)))))),
zg 19 14 true (.mv (.t 18)),
zg 20 19 false (.mv (.t 0)),
zg 21 19 false (.mv (.t 3)),
zg 22 19 false (.sidx (.t 20) (.t 21)),
zg 23 19 false (.bin .gtr (.t 22) (.k (.c (.d (.v (.int .u8 126)))))),
zg 24 14 true (.pick (.t 19) (kB true) (.t 23)),
sq 25 (.pick (.t 14) (.t 24) (kB false))]))
 (.cond (.t 25)
 (.seq (.reg [sq 2 (.mv (kB false))])
 .ret)
 .skip)))
 (.reg [sq 8 (.mv (.t 3)),
sq 9 (.bin .add (.t 8) (kI 1)),
sq 3 (.mv (.t 9))])))))))
 (.seq (.reg [sq 26 (.mv (.t 0)),
sq 27 (.slen (.t 26)),
sq 28 (.bin .leq (.t 27) (kI 200)),
sq 2 (.mv (.t 28))])
 .ret)))⟩
theorem F204_ok{x0 r}(h:F204 x0=some r):CallD Tryz.prog 204 [.c (dS x0)] [] (tupV [.c (dB r)]) []:=by
 rw[F204]at h
 refine zc a204 (by kernel_rfl) rfl (ww ?_)
 obtain⟨o1,ho,h⟩:=bi h
 refine cutS (fun s=>∃po1,o1=Sum.inr po1∧s=⟨[(0,.one (.c (dS x0)))],[]⟩) ?_ ?_
 ·have h0o1:=h
  have h:=ho
  clear ho
  refine ww ?_
  refine bL (fun j s=>∃(o1_0:Int),s=⟨[(0,.one (.c (dS x0))),(3,.one (.c (dI o1_0)))],[]⟩∧F204_l1 x0 j o1_0=some o1) 1099511627776 [] ⟨0,rfl,h⟩ ?_
  rintro j _ ⟨o1_0,rfl,h⟩
  cases j with
  |zero=>cases(show(none:Option _)=some _ from h)
  |succ j=>
   rw[F204_l1]at h
   refine ww ?_
   refine condSh h (fun c2 h=>?_) (fun c2 h=>?_)
   ·refine ww ?_
    obtain⟨o3,ho,h⟩:=bi h
    refine cutS (fun s=>s=⟨[(0,.one (.c (dS x0))),(3,.one (.c (dI o1_0))),(25,.one (.c (dB o3)))],[]⟩) ?_ ?_
    ·have h:=ho
     clear ho
     refine ww ?_
     obtain⟨y4,hy4,h⟩:=bi h
     refine t_sidx rfl rfl hy4 (ww ?_)
     refine guardSh h (fun g5 h=>?_) (fun g5 h=>?_)
     ·refine ww ?_
      obtain⟨y6,hy6,h⟩:=bi h
      refine t_sidx rfl rfl hy6 (ww ?_)
      refine guardSh h (fun g7 h=>?_) (fun g7 h=>?_)
      ·refine ww ?_
       cases h
       exact eM [] rfl
      ·refine ww ?_
       obtain⟨y8,hy8,h⟩:=bi h
       refine t_sidx rfl rfl hy8 (ww ?_)
       cases h
       exact eM [] rfl
     ·refine ww ?_
      cases h
      exact eM [] rfl
    ·rintro _ rfl
     clear ho
     refine ww ?_
     refine condBh h (fun c9 h=>?_) (fun c9 h=>?_)
     ·refine ww ?_
      obtain⟨fh0o1,hfh0o1,rfl⟩:=Option.map_eq_some_iff.1 h
      have h:=hfh0o1.trans h0o1
      cases h
      exact eF []
     ·refine ww ?_
      exact eL' j [] ⟨(IntKind.i64.wrap (o1_0+1)),rfl,h⟩ (Nat.lt_succ_self _)
   ·refine ww ?_
    cases h
    exact eM [] ⟨_,rfl,rfl⟩
 rintro _ ⟨po1,rfl,rfl⟩
 clear ho
 dsimp only at h
 refine ww ?_
 cases h
 exact eF []
theorem a60_ok:afn Tryz.prog 60=some (cloneA 3 48):=by kernel_rfl
theorem F60_ok{x0 r:List Requirement}(h:cloneI x0=some r):CallD Tryz.prog 60 [.c (dM (x0.map eRequirement))] [] (tupV [.c (.own 0 1 0 r.length none)]) [some (.arr 1 3 (r.map eRequirement))]:=L_clone a60_ok (fun _=>rfl) h
def F113(x0:Int):Option (Bool):=(((if x0=1 then some true else some (decide (x0=2)))).bind fun o1=>some o1)
def a113:AFn:=⟨9,[(.tmp 2)],
 (.seq (.reg [sq 2 (.mv (kB false))])
 (.seq (.sem (.reg [sq 3 (.mv (.t 0)),
sq 4 (.bin .eql (.t 3) (kI 1)),
sq 5 (.mv (.t 4)),
zg 6 5 false (.mv (.t 0)),
zg 7 5 false (.bin .eql (.t 6) (kI 2)),
sq 8 (.pick (.t 5) (kB true) (.t 7)),
sq 2 (.mv (.t 8))]))
 .ret))⟩
theorem F113_ok{x0 r}(h:F113 x0=some r):CallD Tryz.prog 113 [.c (dI x0)] [] (tupV [.c (dB r)]) []:=by
 rw[F113]at h
 refine zc a113 (by kernel_rfl) rfl (ww ?_)
 obtain⟨o1,ho,h⟩:=bi h
 refine cutS (fun s=>s=⟨[(2,.one (.c (dB o1)))],[]⟩) ?_ ?_
 ·have h:=ho
  clear ho
  refine ww ?_
  refine guardSh h (fun g2 h=>?_) (fun g2 h=>?_)
  ·refine ww ?_
   cases h
   exact eM [] rfl
  refine ww ?_
  cases h
  exact eM [] rfl
 rintro _ rfl
 clear ho
 refine ww ?_
 cases h
 exact eF []
def F59(x0:ByteArray)(x1:ByteArray)(x2:ByteArray):Option (ByteArray):=(catI x0 ((⟨#[47]⟩:ByteArray))).bind fun s1=>(catI s1 x1).bind fun s2=>(catI s2 ((⟨#[47]⟩:ByteArray))).bind fun s3=>(catI s3 x2).bind fun s4=>some s4
def a59:AFn:=⟨14,[(.tmp 6)],
 (.seq (.reg [sq 6 (.mv (kS ⟨#[]⟩))])
 (.seq (.reg [sq 7 (.mv (.t 0)),
sq 8 (.bin .add (.t 7) (kS ⟨#[47]⟩)),
sq 9 (.mv (.t 1)),
sq 10 (.bin .add (.t 8) (.t 9)),
sq 11 (.bin .add (.t 10) (kS ⟨#[47]⟩)),
sq 12 (.mv (.t 2)),
sq 13 (.bin .add (.t 11) (.t 12)),
sq 6 (.mv (.t 13))])
 .ret))⟩
theorem F59_ok{x0 x1 x2 r}(h:F59 x0 x1 x2=some r):CallD Tryz.prog 59 [.c (dS x0),.c (dS x1),.c (dS x2)] [] (tupV [.c (dS r)]) []:=by
 rw[F59]at h
 refine zc a59 (by kernel_rfl) rfl (ww ?_)
 obtain⟨s1,hs1,h⟩:=bi h
 obtain⟨hle,es1⟩:=cat_some hs1
 refine⟨hle,?_⟩
 first|rw[←es1]|subst es1
 refine ww ?_
 obtain⟨s2,hs2,h⟩:=bi h
 obtain⟨hle,es2⟩:=cat_some hs2
 refine⟨hle,?_⟩
 first|rw[←es2]|subst es2
 refine ww ?_
 obtain⟨s3,hs3,h⟩:=bi h
 obtain⟨hle,es3⟩:=cat_some hs3
 refine⟨hle,?_⟩
 first|rw[←es3]|subst es3
 refine ww ?_
 obtain⟨s4,hs4,h⟩:=bi h
 obtain⟨hle,es4⟩:=cat_some hs4
 refine⟨hle,?_⟩
 first|rw[←es4]|subst es4
 refine ww ?_
 cases h
 exact eF []
theorem a66_ok:afn Tryz.prog 66=some (cloneA 5 48):=by kernel_rfl
theorem F66_ok{x0 r:List Owner}(h:cloneI x0=some r):CallD Tryz.prog 66 [.c (dM (x0.map eOwner))] [] (tupV [.c (.own 0 1 0 r.length none)]) [some (.arr 1 5 (r.map eOwner))]:=L_clone a66_ok (fun _=>rfl) h
theorem a67_ok:afn Tryz.prog 67=some (cloneA 2 40):=by kernel_rfl
theorem F67_ok{x0 r:List Manager}(h:cloneI x0=some r):CallD Tryz.prog 67 [.c (dM (x0.map eManager))] [] (tupV [.c (.own 0 1 0 r.length none)]) [some (.arr 1 2 (r.map eManager))]:=L_clone a67_ok (fun _=>rfl) h
theorem a99_ok:afn Tryz.prog 99=some (cloneA 5 80):=by kernel_rfl
theorem F99_ok{x0 r:List TValue}(h:cloneI x0=some r):CallD Tryz.prog 99 [.c (dM (x0.map eTValue))] [] (tupV [.c (.own 0 1 0 r.length none)]) [some (.arr 1 5 (r.map eTValue))]:=L_clone a99_ok (fun _=>by rw[eTValue_u];rfl) h
def Tryz.laysSort_ren:Go.Shelf.Ren:=⟨fun|190=>63|125=>98|258=>97|128=>138|129=>139|302=>129|303=>130|304=>131|305=>132|306=>133|307=>134|308=>135|309=>136|310=>137|333=>167|329=>168|330=>169|334=>170|335=>171|336=>172|344=>195|n=>n,fun|31=>35|9=>9|3=>3|46=>150|0=>0|51=>180|53=>182|4=>4|183=>173|182=>172|131=>154|5=>5|218=>201|222=>205|228=>214|229=>215|n=>n,fun|n=>n⟩
theorem Tryz.laysSort:Go.Proofs.Lays.n190 Tryz.prog Tryz.laysSort_ren:={
 mixed:=by kernel_rfl
 f125:=Tryz.func98.trans (congrArg some (by kernel_rfl))
 f128:=Tryz.func138.trans (congrArg some (by kernel_rfl))
 f129:=Tryz.func139.trans (congrArg some (by kernel_rfl))
 f190:=Tryz.func63.trans (congrArg some (by kernel_rfl))
 f258:=Tryz.func97.trans (congrArg some (by kernel_rfl))
 f302:=Tryz.func129.trans (congrArg some (by kernel_rfl))
 f303:=Tryz.func130.trans (congrArg some (by kernel_rfl))
 f304:=Tryz.func131.trans (congrArg some (by kernel_rfl))
 f305:=Tryz.func132.trans (congrArg some (by kernel_rfl))
 f306:=Tryz.func133.trans (congrArg some (by kernel_rfl))
 f307:=Tryz.func134.trans (congrArg some (by kernel_rfl))
 f308:=Tryz.func135.trans (congrArg some (by kernel_rfl))
 f309:=Tryz.func136.trans (congrArg some (by kernel_rfl))
 f310:=Tryz.func137.trans (congrArg some (by kernel_rfl))
 f329:=Tryz.func168.trans (congrArg some (by kernel_rfl))
 f330:=Tryz.func169.trans (congrArg some (by kernel_rfl))
 f333:=Tryz.func167.trans (congrArg some (by kernel_rfl))
 f334:=Tryz.func170.trans (congrArg some (by kernel_rfl))
 f335:=Tryz.func171.trans (congrArg some (by kernel_rfl))
 f336:=Tryz.func172.trans (congrArg some (by kernel_rfl))
 f344:=Tryz.func195.trans (congrArg some (by kernel_rfl))
 t0:=Tryz.underlying0
 a0:=Tryz.isAgg0
 z0:=Tryz.sizeOf0
 v0:=Tryz.zeroValue0
 t3:=Tryz.underlying3
 a3:=Tryz.isAgg3
 z3:=Tryz.sizeOf3
 v3:=Tryz.zeroValue3
 t4:=Tryz.underlying4
 a4:=Tryz.isAgg4
 z4:=Tryz.sizeOf4
 v4:=Tryz.zeroValue4
 t5:=Tryz.underlying5
 a5:=Tryz.isAgg5
 z5:=Tryz.sizeOf5
 v5:=Tryz.zeroValue5
 t9:=Tryz.underlying9
 a9:=Tryz.isAgg9
 z9:=Tryz.sizeOf9
 v9:=Tryz.zeroValue9
 t31:=Tryz.underlying35
 a31:=Tryz.isAgg35
 z31:=Tryz.sizeOf35
 v31:=Tryz.zeroValue35
 t46:=Tryz.underlying150
 a46:=Tryz.isAgg150
 z46:=Tryz.sizeOf150
 v46:=Tryz.zeroValue150
 t51:=Tryz.underlying180
 a51:=Tryz.isAgg180
 z51:=Tryz.sizeOf180
 v51:=Tryz.zeroValue180
 t53:=Tryz.underlying182
 a53:=Tryz.isAgg182
 z53:=Tryz.sizeOf182
 v53:=Tryz.zeroValue182
 t131:=Tryz.underlying154
 a131:=Tryz.isAgg154
 z131:=Tryz.sizeOf154
 v131:=Tryz.zeroValue154
 t182:=Tryz.underlying172
 a182:=Tryz.isAgg172
 z182:=Tryz.sizeOf172
 v182:=Tryz.zeroValue172
 t183:=Tryz.underlying173
 a183:=Tryz.isAgg173
 z183:=Tryz.sizeOf173
 v183:=Tryz.zeroValue173
 t218:=Tryz.underlying201
 a218:=Tryz.isAgg201
 z218:=Tryz.sizeOf201
 v218:=Tryz.zeroValue201
 t222:=Tryz.underlying205
 a222:=Tryz.isAgg205
 z222:=Tryz.sizeOf205
 v222:=Tryz.zeroValue205
 t228:=Tryz.underlying214
 a228:=Tryz.isAgg214
 z228:=Tryz.sizeOf214
 v228:=Tryz.zeroValue214
 t229:=Tryz.underlying215
 a229:=Tryz.isAgg215
 z229:=Tryz.sizeOf215
 v229:=Tryz.zeroValue215}
theorem a183_ok:afn Tryz.prog 183=some (deleteA 23 352 [.v (.string ⟨#[]⟩),.v (.string ⟨#[]⟩),.v (.string ⟨#[]⟩),.v (.int .i64 0),.v (.int .i64 0),.v (.int .i64 0),.v (.int .i64 0),.v (.bool false),.v (.int .i64 0),.sl [],.sl [],.sl [],.sl [],.v (.int .i64 0),.v (.int .i64 0),.v (.string ⟨#[]⟩),.sl [],.sl [],.v (.int .i64 0),.v (.int .i64 0),.v (.string ⟨#[]⟩),.sl [],.sl []]):=by kernel_rfl
theorem F183_ok{x0 r:List Object}{i j:Int}{e0:Nat}(h:delI x0 i j=some r):CallD Tryz.prog 183 [.c (.own 0 e0 0 x0.length none),aI i,aI j] [some (.arr e0 23 (x0.map eObject))] (tupV [.c (.own 0 (e0+1) 0 r.length none)]) [some (.arr (e0+1) 23 (r.map eObject))]:=L_delete a183_ok (fun _=>rfl) h
def F190_l1(x1:ByteArray):List Label→Nat→Option ((ByteArray×Bool) ⊕ (Unit))
 |[],o1_0=>some (Sum.inr (()))
 |xo1::xs,o1_0=>(if xo1.Key=x1 then(some ((xo1.Value,true))).map Sum.inl else F190_l1 x1 xs (o1_0+1))
def F190(x0:(List Label))(x1:ByteArray):Option (ByteArray×Bool):=(((ck (0≤x0.length∧x0.length≤4294967290)).bind fun u4=>F190_l1 x1 x0 0:Option ((ByteArray×Bool) ⊕ (Unit))).bind fun o1=>match o1 with|Sum.inl f=>some f|Sum.inr po1=>some (((⟨#[]⟩:ByteArray),false)))
def a190:AFn:=⟨21,[(.tmp 4),(.tmp 5)],
 (.seq (.reg [sq 4 (.mv (kS ⟨#[]⟩)),
sq 5 (.mv (kB false))])
 (.seq (.seq (.reg [sq 8 (.mv (.t 0)),
sq 9 (.len (.t 8)),
sq 10 (.mv (kI 0))])
 (.sem (.block 0 (.loop (.seq (.reg [sq 11 (.bin .lss (.t 10) (.t 9))])
 (.seq (.cond (.t 11)
 .skip
 (.exit 0))
 (.seq (.block 1 (.seq (.reg [sq 12 (.indexA 2 (.t 8) (.t 10)),
sq 13 (.load (some 2) (.t 12)),
sq 7 (.zbox [dS ⟨#[]⟩,dS ⟨#[]⟩]),
su (.store 2 (.t 7) (.t 13))])
 (.seq (.reg [sq 14 (.fieldA 0 (.t 7)),
sq 15 (.load none (.t 14)),
sq 16 (.mv (.t 1)),
sq 17 (.bin .eql (.t 15) (.t 16))])
 (.cond (.t 17)
 (.seq (.reg [sq 18 (.fieldA 1 (.t 7)),
sq 19 (.load none (.t 18)),
sq 4 (.mv (.t 19)),
sq 5 (.mv (kB true))])
 .ret)
 .skip))))
 (.reg [sq 20 (.bin .add (.t 10) (kI 1)),
sq 10 (.mv (.t 20))]))))))))
 (.seq (.reg [sq 4 (.mv (kS ⟨#[]⟩)),
sq 5 (.mv (kB false))])
 .ret)))⟩
theorem F190_ok{x0 x1 r}(h:F190 x0 x1=some r):CallD Tryz.prog 190 [.c (dM (x0.map eLabel)),.c (dS x1)] [] (tupV [.c (dS r.1),.c (dB r.2)]) []:=by
 rw[F190]at h
 refine zc a190 (by kernel_rfl) rfl (ww ?_)
 obtain⟨o1,ho,h⟩:=bi h
 refine cutS (fun s=>∃po1,o1=Sum.inr po1∧s=⟨[],[]⟩) ?_ ?_
 ·have h0o1:=h
  have h:=ho
  clear ho
  obtain⟨_,hk,h⟩:=bi h
  have hk:=ck_some hk
  refine ww ?_
  refine bL (fun j s=>∃(o1_0:Nat),(o1_0≤x0.length∧j=x0.length-o1_0)∧s=⟨[(1,.one (.c (dS x1))),(8,.one (.c (dM (x0.map eLabel)))),(9,.one (.c (dI ((x0.length:Int))))),(10,.one (.c (dI ((o1_0:Int)))))],[]⟩∧F190_l1 x1 (x0.drop o1_0) o1_0=some o1) (x0.length-0) [] ⟨0,⟨hk.1,rfl⟩,rfl,h⟩ ?_
  rintro _ _ ⟨o1_0,⟨hi,rfl⟩,rfl,h⟩
  refine ww ?_
  refine condS (fun c2=>?_) (fun c2=>?_)
  ·obtain⟨xo1,hxo1,hd⟩:=countY (show(o1_0:Int)<(x0.length:Int)from c2)
   rw[hd,F190_l1]at h
   refine ww ?_
   refine t_idxF (enc:=eLabel) (xs:=x0) rfl rfl hxo1 rfl (ww ?_)
   refine condSh h (fun c3 h=>?_) (fun c3 h=>?_)
   ·refine ww ?_
    obtain⟨fh0o1,hfh0o1,rfl⟩:=Option.map_eq_some_iff.1 h
    have h:=hfh0o1.trans h0o1
    cases h
    exact eF []
   refine ww ?_
   rw[wrapN (by omega)]
   exact eL' (x0.length-(o1_0+1)) [] ⟨o1_0+1,⟨by omega,rfl⟩,rfl,h⟩ (by omega)
  rw[countN (show¬((o1_0:Int)<(x0.length:Int))from c2),F190_l1]at h
  refine ww ?_
  cases h
  exact eM [] ⟨_,rfl,rfl⟩
 rintro _ ⟨po1,rfl,rfl⟩
 clear ho
 dsimp only at h
 refine ww ?_
 cases h
 exact eF []
def F203_l1(x1:ByteArray):List ByteArray→Nat→Option ((Int) ⊕ (Unit))
 |[],o1_0=>some (Sum.inr (()))
 |xo1::xs,o1_0=>(if x1=xo1 then(some ((o1_0:Int))).map Sum.inl else F203_l1 x1 xs (o1_0+1))
def F203(x0:(List ByteArray))(x1:ByteArray):Option (Int):=(((ck (0≤x0.length∧x0.length≤4294967290)).bind fun u4=>F203_l1 x1 x0 0:Option ((Int) ⊕ (Unit))).bind fun o1=>match o1 with|Sum.inl f=>some f|Sum.inr po1=>some ((-1)))
def a203:AFn:=⟨19,[(.tmp 4)],
 (.seq (.reg [sq 4 (.mv (kI 0))])
 (.seq (.seq (.reg [sq 6 (.mv (.t 0)),
sq 7 (.len (.t 6)),
sq 8 (.mv (kI 0))])
 (.sem (.block 0 (.loop (.seq (.reg [sq 9 (.bin .lss (.t 8) (.t 7))])
 (.seq (.cond (.t 9)
 .skip
 (.exit 0))
 (.seq (.block 1 (.seq (.reg [sq 10 (.mv (.t 8)),
sq 5 (.mv (.t 10))])
 (.seq (.reg [sq 11 (.mv (.t 1)),
sq 12 (.mv (.t 0)),
sq 13 (.mv (.t 5)),
sq 14 (.indexA 1 (.t 12) (.t 13)),
sq 15 (.load none (.t 14)),
sq 16 (.bin .eql (.t 11) (.t 15))])
 (.cond (.t 16)
 (.seq (.reg [sq 17 (.mv (.t 5)),
sq 4 (.mv (.t 17))])
 .ret)
 .skip))))
 (.reg [sq 18 (.bin .add (.t 8) (kI 1)),
sq 8 (.mv (.t 18))]))))))))
 (.seq (.reg [sq 4 (.mv (kI (-1)))])
 .ret)))⟩
theorem F203_ok{x0 x1 r}(h:F203 x0 x1=some r):CallD Tryz.prog 203 [.c (dM (x0.map eS)),.c (dS x1)] [] (tupV [.c (dI r)]) []:=by
 rw[F203]at h
 refine zc a203 (by kernel_rfl) rfl (ww ?_)
 obtain⟨o1,ho,h⟩:=bi h
 refine cutS (fun s=>∃po1,o1=Sum.inr po1∧s=⟨[],[]⟩) ?_ ?_
 ·have h0o1:=h
  have h:=ho
  clear ho
  obtain⟨_,hk,h⟩:=bi h
  have hk:=ck_some hk
  refine ww ?_
  refine bL (fun j s=>∃(o1_0:Nat),(o1_0≤x0.length∧j=x0.length-o1_0)∧s=⟨[(0,.one (.c (dM (x0.map eS)))),(1,.one (.c (dS x1))),(7,.one (.c (dI ((x0.length:Int))))),(8,.one (.c (dI ((o1_0:Int)))))],[]⟩∧F203_l1 x1 (x0.drop o1_0) o1_0=some o1) (x0.length-0) [] ⟨0,⟨hk.1,rfl⟩,rfl,h⟩ ?_
  rintro _ _ ⟨o1_0,⟨hi,rfl⟩,rfl,h⟩
  refine ww ?_
  refine condS (fun c2=>?_) (fun c2=>?_)
  ·obtain⟨xo1,hxo1,hd⟩:=countY (show(o1_0:Int)<(x0.length:Int)from c2)
   rw[hd,F203_l1]at h
   refine ww ?_
   refine t_idxF (enc:=eS) (xs:=x0) rfl rfl hxo1 rfl (ww ?_)
   refine condSh h (fun c3 h=>?_) (fun c3 h=>?_)
   ·refine ww ?_
    obtain⟨fh0o1,hfh0o1,rfl⟩:=Option.map_eq_some_iff.1 h
    have h:=hfh0o1.trans h0o1
    cases h
    exact eF []
   refine ww ?_
   rw[wrapN (by omega)]
   exact eL' (x0.length-(o1_0+1)) [] ⟨o1_0+1,⟨by omega,rfl⟩,rfl,h⟩ (by omega)
  rw[countN (show¬((o1_0:Int)<(x0.length:Int))from c2),F203_l1]at h
  refine ww ?_
  cases h
  exact eM [] ⟨_,rfl,rfl⟩
 rintro _ ⟨po1,rfl,rfl⟩
 clear ho
 dsimp only at h
 refine ww ?_
 cases h
 exact eF []
def F71_l2(x1:(List ByteArray)):List ByteArray→Nat→Option ((Bool) ⊕ (Unit))
 |[],o2_0=>some (Sum.inr (()))
 |xo2::xs,o2_0=>(rdI x1 ((o2_0:Int))).bind fun y4=>(if¬(xo2=y4)then(some false).map Sum.inl else F71_l2 x1 xs (o2_0+1))
def F71(x0:(List ByteArray))(x1:(List ByteArray)):Option (Bool):=(if¬((x0.length:Int)=(x1.length:Int))then some false else(((ck (0≤x0.length∧x0.length≤4294967290)).bind fun u6=>F71_l2 x1 x0 0:Option ((Bool) ⊕ (Unit))).bind fun o2=>match o2 with|Sum.inl f=>some f|Sum.inr po2=>some true))
def a71:AFn:=⟨26,[(.tmp 4)],
 (.seq (.reg [sq 4 (.mv (kB false))])
 (.seq (.seq (.reg [sq 6 (.mv (.t 0)),
sq 7 (.len (.t 6)),
sq 8 (.mv (.t 1)),
sq 9 (.len (.t 8)),
sq 10 (.bin .neq (.t 7) (.t 9))])
 (.cond (.t 10)
 (.seq (.reg [sq 4 (.mv (kB false))])
 .ret)
 .skip))
 (.seq (.seq (.reg [sq 5 (.mv (kI 0))])
 (.sem (.block 0 (.loop (.seq (.seq (.reg [sq 11 (.mv (.t 5)),
sq 12 (.mv (.t 0)),
sq 13 (.len (.t 12)),
sq 14 (.bin .lss (.t 11) (.t 13))])
 (.cond (.t 14)
 .skip
 (.exit 0)))
 (.seq (.block 1 (.seq (.regd [sq 17 (.mv (.t 0)),
sq 18 (.mv (.t 5)),
sd 19 (.indexA 1 (.t 17) (.t 18)) [0,1],
sd 20 (.load none (.t 19)) [0,1,2],
sq 21 (.mv (.t 1)),
sq 22 (.mv (.t 5)),
sd 23 (.indexA 1 (.t 21) (.t 22)) [4,5],
sd 24 (.load none (.t 23)) [4,5,6],
sd 25 (.bin .neq (.t 20) (.t 24)) [0,1,2,3,4,5,6,7]])
 (.cond (.t 25)
 (.seq (.reg [sq 4 (.mv (kB false))])
 .ret)
 .skip)))
 (.reg [sq 15 (.mv (.t 5)),
sq 16 (.bin .add (.t 15) (kI 1)),
sq 5 (.mv (.t 16))])))))))
 (.seq (.reg [sq 4 (.mv (kB true))])
 .ret))))⟩
theorem F71_ok{x0 x1 r}(h:F71 x0 x1=some r):CallD Tryz.prog 71 [.c (dM (x0.map eS)),.c (dM (x1.map eS))] [] (tupV [.c (dB r)]) []:=by
 rw[F71]at h
 refine zc a71 (by kernel_rfl) rfl (ww ?_)
 refine condSh h (fun c1 h=>?_) (fun c1 h=>?_)
 ·refine ww ?_
  cases h
  exact eF []
 refine ww ?_
 obtain⟨o2,ho,h⟩:=bi h
 refine cutS (fun s=>∃po2,o2=Sum.inr po2∧s=⟨[],[]⟩) ?_ ?_
 ·have h0o2:=h
  have h:=ho
  clear ho
  obtain⟨_,hk,h⟩:=bi h
  have hk:=ck_some hk
  refine ww ?_
  refine bL (fun j s=>∃(o2_0:Nat),(o2_0≤x0.length∧j=x0.length-o2_0)∧s=⟨[(0,.one (.c (dM (x0.map eS)))),(1,.one (.c (dM (x1.map eS)))),(5,.one (.c (dI ((o2_0:Int)))))],[]⟩∧F71_l2 x1 (x0.drop o2_0) o2_0=some o2) (x0.length-0) [] ⟨0,⟨hk.1,rfl⟩,rfl,h⟩ ?_
  rintro _ _ ⟨o2_0,⟨hi,rfl⟩,rfl,h⟩
  refine ww ?_
  refine condS (fun c3=>?_) (fun c3=>?_)
  ·obtain⟨xo2,hxo2,hd⟩:=countY (show(o2_0:Int)<(x0.length:Int)from c3)
   rw[hd,F71_l2]at h
   refine ww ?_
   refine t_idxF (enc:=eS) (xs:=x0) rfl rfl hxo2 rfl (ww ?_)
   obtain⟨y4,hy4,h⟩:=bi h
   refine t_idxF (enc:=eS) (xs:=x1) rfl rfl hy4 rfl (ww ?_)
   refine condSh h (fun c5 h=>?_) (fun c5 h=>?_)
   ·refine ww ?_
    obtain⟨fh0o2,hfh0o2,rfl⟩:=Option.map_eq_some_iff.1 h
    have h:=hfh0o2.trans h0o2
    cases h
    exact eF []
   refine ww ?_
   rw[wrapN (by omega)]
   exact eL' (x0.length-(o2_0+1)) [] ⟨o2_0+1,⟨by omega,rfl⟩,rfl,h⟩ (by omega)
  rw[countN (show¬((o2_0:Int)<(x0.length:Int))from c3),F71_l2]at h
  refine ww ?_
  cases h
  exact eM [] ⟨_,rfl,rfl⟩
 rintro _ ⟨po2,rfl,rfl⟩
 clear ho
 dsimp only at h
 refine ww ?_
 cases h
 exact eF []
end Go.Proofs.YtdkmamiedcanfaaGreat
