/- Each Go function as a function over typed data, and its walk. -/
import Derived.Test.YtbopaemngpbdgaaGreatW0
namespace Go.Proofs.YtbopaemngpbdgaaGreat
open Go Go.Fw Go.Shelf
set_option maxRecDepth 100000
set_option maxHeartbeats 4000000
set_option linter.unusedSimpArgs false
set_option linter.unusedVariables false
def F31_l1(rc1:TValue→Option (Int)):List TValue→Nat→Int→Option (Int)
 |[],o1_1,o1_0=>some o1_0
 |xo1::xs,o1_1,o1_0=>(rc1 xo1).bind fun t3=>F31_l1 rc1 xs (o1_1+1) ((IntKind.i64.wrap (o1_0+t3)))
def F31_l5(rc1:TValue→Option (Int)):List TField→Nat→Int→Option (Int)
 |[],o5_1,o5_0=>some o5_0
 |xo5::xs,o5_1,o5_0=>(rc1 xo5.V).bind fun t7=>F31_l5 rc1 xs (o5_1+1) ((IntKind.i64.wrap (o5_0+t7)))
def F31(rc1:TValue→Option (Int))(x0:TValue):Option (Int):=(((ck (0≤x0.List_.length∧x0.List_.length≤4294967290)).bind fun u4=>F31_l1 rc1 x0.List_ 0 1).bind fun o1=>(((ck (0≤x0.Fields.length∧x0.Fields.length≤4294967290)).bind fun u8=>F31_l5 rc1 x0.Fields 0 o1).bind fun o5=>some o5))
def a31:AFn:=⟨38,[(.tmp 2)],
 (.seq (.reg [sq 1 (.box (.t 0)),
sq 2 (.mv (kI 0))])
 (.seq (.reg [sq 3 (.mv (kI 1))])
 (.seq (.seq (.reg [sq 4 (.mv (kI 0))])
 (.sem (.block 0 (.loop (.seq (.seq (.reg [sq 6 (.mv (.t 4)),
sq 7 (.fieldA 3 (.t 1)),
sq 8 (.load none (.t 7)),
sq 9 (.len (.t 8)),
sq 10 (.bin .lss (.t 6) (.t 9))])
 (.cond (.t 10)
 .skip
 (.exit 0)))
 (.seq (.block 1 (.reg [sq 13 (.mv (.t 3)),
sq 14 (.fieldA 3 (.t 1)),
sq 15 (.load none (.t 14)),
sq 16 (.mv (.t 4)),
sq 17 (.indexA 5 (.t 15) (.t 16)),
sq 18 (.load (some 5) (.t 17)),
sq 19 (.call 31 [(.t 18)]),
sq 20 (.bin .add (.t 13) (.t 19)),
sq 3 (.mv (.t 20))]))
 (.reg [sq 11 (.mv (.t 4)),
sq 12 (.bin .add (.t 11) (kI 1)),
sq 4 (.mv (.t 12))])))))))
 (.seq (.seq (.reg [sq 5 (.mv (kI 0))])
 (.sem (.block 2 (.loop (.seq (.seq (.reg [sq 21 (.mv (.t 5)),
sq 22 (.fieldA 4 (.t 1)),
sq 23 (.load none (.t 22)),
sq 24 (.len (.t 23)),
sq 25 (.bin .lss (.t 21) (.t 24))])
 (.cond (.t 25)
 .skip
 (.exit 2)))
 (.seq (.block 3 (.reg [sq 28 (.mv (.t 3)),
sq 29 (.fieldA 4 (.t 1)),
sq 30 (.load none (.t 29)),
sq 31 (.mv (.t 5)),
sq 32 (.indexA 6 (.t 30) (.t 31)),
sq 33 (.fieldA 1 (.t 32)),
sq 34 (.load (some 5) (.t 33)),
sq 35 (.call 31 [(.t 34)]),
sq 36 (.bin .add (.t 28) (.t 35)),
sq 3 (.mv (.t 36))]))
 (.reg [sq 26 (.mv (.t 5)),
sq 27 (.bin .add (.t 26) (kI 1)),
sq 5 (.mv (.t 27))])))))))
 (.seq (.reg [sq 37 (.mv (.t 3)),
sq 2 (.mv (.t 37))])
 .ret)))))⟩
theorem F31_ok{rc1:TValue→Option (Int)}(ih1:∀{x0:TValue} {r:Int} (h:rc1 x0=some r),CallD Tryz.prog 31 [.agg [dI x0.Kind,dI x0.N,dS x0.S,dM (x0.List_.map eTValue),dM (x0.Fields.map eTField)]] [] (tupV [.c (dI r)]) []){x0:TValue}{r:Int}(h:F31 rc1 x0=some r):CallD Tryz.prog 31 [.agg [dI x0.Kind,dI x0.N,dS x0.S,dM (x0.List_.map eTValue),dM (x0.Fields.map eTField)]] [] (tupV [.c (dI r)]) []:=by
 rw[F31]at h
 refine zc a31 (by kernel_rfl) rfl (ww ?_)
 obtain⟨o1,ho,h⟩:=bi h
 refine cutS (fun s=>s=⟨[(1,.one (.c (.pt 0 0))),(3,.one (.c (dI o1)))],[some (.box [dI x0.Kind,dI x0.N,dS x0.S,dM (x0.List_.map eTValue),dM (x0.Fields.map eTField)])]⟩) ?_ ?_
 ·have h:=ho
  clear ho
  obtain⟨_,hk,h⟩:=bi h
  have hk:=ck_some hk
  refine ww ?_
  refine bL (fun j s=>∃(o1_1:Nat) (o1_0:Int),(o1_1≤x0.List_.length∧j=x0.List_.length-o1_1)∧s=⟨[(1,.one (.c (.pt 0 0))),(3,.one (.c (dI o1_0))),(4,.one (.c (dI ((o1_1:Int)))))],[some (.box [dI x0.Kind,dI x0.N,dS x0.S,dM (x0.List_.map eTValue),dM (x0.Fields.map eTField)])]⟩∧F31_l1 rc1 (x0.List_.drop o1_1) o1_1 o1_0=some o1) (x0.List_.length-0) [some 0] ⟨0,1,⟨hk.1,rfl⟩,rfl,h⟩ ?_
  rintro _ _ ⟨o1_1,o1_0,⟨hi,rfl⟩,rfl,h⟩
  refine ww ?_
  refine condS (fun c2=>?_) (fun c2=>?_)
  ·obtain⟨xo1,hxo1,hd⟩:=countY (show(o1_1:Int)<(x0.List_.length:Int)from c2)
   rw[hd,F31_l1]at h
   refine ww ?_
   refine t_idxF (enc:=eTValue) (xs:=x0.List_) rfl rfl hxo1 (by rw[eTValue_u];rfl) (ww ?_)
   obtain⟨t3,ht3,h⟩:=bi h
   refine cN [] (ih1 ht3) trivial (ww ?_)
   rw[wrapN (by omega)]
   exact eL' (x0.List_.length-(o1_1+1)) [some 0] ⟨o1_1+1,(IntKind.i64.wrap (o1_0+t3)),⟨by omega,rfl⟩,rfl,h⟩ (by omega)
  rw[countN (show¬((o1_1:Int)<(x0.List_.length:Int))from c2),F31_l1]at h
  refine ww ?_
  cases h
  exact eM [some 0] rfl
 rintro _ rfl
 clear ho
 refine ww ?_
 obtain⟨o5,ho,h⟩:=bi h
 refine cutS (fun s=>s=⟨[(3,.one (.c (dI o5)))],[]⟩) ?_ ?_
 ·have h:=ho
  clear ho
  obtain⟨_,hk,h⟩:=bi h
  have hk:=ck_some hk
  refine ww ?_
  refine bL (fun j s=>∃(o5_1:Nat) (o5_0:Int),(o5_1≤x0.Fields.length∧j=x0.Fields.length-o5_1)∧s=⟨[(1,.one (.c (.pt 0 0))),(3,.one (.c (dI o5_0))),(5,.one (.c (dI ((o5_1:Int)))))],[some (.box [dI x0.Kind,dI x0.N,dS x0.S,dM (x0.List_.map eTValue),dM (x0.Fields.map eTField)])]⟩∧F31_l5 rc1 (x0.Fields.drop o5_1) o5_1 o5_0=some o5) (x0.Fields.length-0) [some 0] ⟨0,o1,⟨hk.1,rfl⟩,rfl,h⟩ ?_
  rintro _ _ ⟨o5_1,o5_0,⟨hi,rfl⟩,rfl,h⟩
  refine ww ?_
  refine condS (fun c6=>?_) (fun c6=>?_)
  ·obtain⟨xo5,hxo5,hd⟩:=countY (show(o5_1:Int)<(x0.Fields.length:Int)from c6)
   rw[hd,F31_l5]at h
   refine ww ?_
   refine t_idxF (enc:=eTField) (xs:=x0.Fields) rfl rfl hxo5 (by rw[eTField_u];rfl) (ww ?_)
   obtain⟨t7,ht7,h⟩:=bi h
   refine cN [] (ih1 ht7) trivial (ww ?_)
   rw[wrapN (by omega)]
   exact eL' (x0.Fields.length-(o5_1+1)) [some 0] ⟨o5_1+1,(IntKind.i64.wrap (o5_0+t7)),⟨by omega,rfl⟩,rfl,h⟩ (by omega)
  rw[countN (show¬((o5_1:Int)<(x0.Fields.length:Int))from c6),F31_l5]at h
  refine ww ?_
  cases h
  exact eM [] rfl
 rintro _ rfl
 clear ho
 refine ww ?_
 cases h
 exact eF []
def F31k:Nat→TValue→Option (Int)
 |0=>fun _=>none
 |k+1=>F31 (F31k k)
theorem F31k_ok(k:Nat){x0:TValue}{r:Int}(h:F31k k x0=some r):CallD Tryz.prog 31 [.agg [dI x0.Kind,dI x0.N,dS x0.S,dM (x0.List_.map eTValue),dM (x0.Fields.map eTField)]] [] (tupV [.c (dI r)]) []:=by
 induction k generalizing x0 r with
 |zero=>cases(show(none:Option (Int))=some _ from h)
 |succ k ih=>exact F31_ok (fun h=>ih h) h
def F20:Option (Unit):=some (())
def a20:AFn:=⟨2,[(.cell 0 (some 6))],
 (.seq (.reg [zl 0 (.zbox [dI 0,dI 0,dI 0,dN,dN,dN]) [] []])
 (.seq (.reg [sq 1 (.build [dI 0,dI 0,dI 0,dN,dN,dN] [(2,1,(kI 1))]),
su (.store 6 (.t 0) (.t 1))])
 .ret))⟩
theorem F20_ok{r}(h:F20=some r):CallD Tryz.prog 20 [] [] (tupV [.agg [dI 0,dI 0,dI 1,dM (([]:List Object).map eObject),dM (([]:List Object).map eObject),dM (([]:List Change).map eChange)]]) []:=by
 rw[F20]at h
 refine zc a20 (by kernel_rfl) rfl (ww ?_)
 cases h
 exact eF []
def F33(x0:ByteArray)(x1:Int):Option (Unit):=some (())
def a33:AFn:=⟨10,[(.cell 4 (some 23))],
 (.seq (.reg [zl 4 (.zbox [dS ⟨#[]⟩,dS ⟨#[]⟩,dS ⟨#[]⟩,dI 0,dI 0,dI 0,dI 0,dB false,dI 0,dN,dN,dN,dN,dI 0,dI 0,dS ⟨#[]⟩,dN,dN,dI 0,dI 0,dS ⟨#[]⟩,dN,dN]) [] []])
 (.seq (.reg [sq 5 (.mv (.t 0)),
sq 6 (.build [dS ⟨#[]⟩,dS ⟨#[]⟩,dS ⟨#[]⟩,dI 0,dI 0,dI 0,dI 0,dB false,dI 0,dN,dN,dN,dN] [(0,1,(kS ⟨#[80,111,100]⟩)),(1,1,(kS ⟨#[110]⟩)),(2,1,(.t 5))]),
sq 7 (.mv (.t 1)),
sq 8 (.build [dI 0,dI 0,dS ⟨#[]⟩,dN,dN] [(0,1,(kI 2)),(1,1,(.t 7))]),
sq 9 (.build [dS ⟨#[]⟩,dS ⟨#[]⟩,dS ⟨#[]⟩,dI 0,dI 0,dI 0,dI 0,dB false,dI 0,dN,dN,dN,dN,dI 0,dI 0,dS ⟨#[]⟩,dN,dN,dI 0,dI 0,dS ⟨#[]⟩,dN,dN] [(0,13,(.t 6)),(13,5,(.t 8))]),
su (.store 23 (.t 4) (.t 9))])
 .ret))⟩
theorem F33_ok{x0 x1 r}(h:F33 x0 x1=some r):CallD Tryz.prog 33 [.c (dS x0),.c (dI x1)] [] (tupV [.agg [dS ((⟨#[80,111,100]⟩:ByteArray)),dS ((⟨#[110]⟩:ByteArray)),dS x0,dI 0,dI 0,dI 0,dI 0,dB false,dI 0,dM (([]:List Label).map eLabel),dM (([]:List Owner).map eOwner),dM (([]:List ByteArray).map eS),dM (([]:List Manager).map eManager),dI 2,dI x1,dS ((⟨#[]⟩:ByteArray)),dM (([]:List TValue).map eTValue),dM (([]:List TField).map eTField),dI 0,dI 0,dS ((⟨#[]⟩:ByteArray)),dM (([]:List TValue).map eTValue),dM (([]:List TField).map eTField)]]) []:=by
 rw[F33]at h
 refine zc a33 (by kernel_rfl) rfl (ww ?_)
 cases h
 exact eF []
def F78(x0:ByteArray)(x1:ByteArray)(x2:ByteArray):Option (ByteArray):=(catI x0 ((⟨#[47]⟩:ByteArray))).bind fun s1=>(catI s1 x1).bind fun s2=>(catI s2 ((⟨#[47]⟩:ByteArray))).bind fun s3=>(catI s3 x2).bind fun s4=>some s4
def a78:AFn:=⟨14,[(.tmp 6)],
 (.seq (.reg [sq 6 (.mv (kS ⟨#[]⟩))])
 (.seq (.reg [sq 7 (.mv (.t 0)),
sq 8 (.bin .add (.t 7) (kS ⟨#[47]⟩)),
sq 9 (.mv (.t 1)),
sq 10 (.bin .add (.t 8) (.t 9)),
sq 11 (.bin .add (.t 10) (kS ⟨#[47]⟩)),
sq 12 (.mv (.t 2)),
sq 13 (.bin .add (.t 11) (.t 12)),
sq 6 (.mv (.t 13))])
 .ret))⟩
theorem F78_ok{x0 x1 x2 r}(h:F78 x0 x1 x2=some r):CallD Tryz.prog 78 [.c (dS x0),.c (dS x1),.c (dS x2)] [] (tupV [.c (dS r)]) []:=by
 rw[F78]at h
 refine zc a78 (by kernel_rfl) rfl (ww ?_)
 obtain⟨s1,hs1,h⟩:=bi h
 obtain⟨hle,es1⟩:=cat_some hs1
 refine⟨hle,?_⟩
 first|rw[←es1]|subst es1
 refine ww ?_
 obtain⟨s2,hs2,h⟩:=bi h
 obtain⟨hle,es2⟩:=cat_some hs2
 refine⟨hle,?_⟩
 first|rw[←es2]|subst es2
 refine ww ?_
 obtain⟨s3,hs3,h⟩:=bi h
 obtain⟨hle,es3⟩:=cat_some hs3
 refine⟨hle,?_⟩
 first|rw[←es3]|subst es3
 refine ww ?_
 obtain⟨s4,hs4,h⟩:=bi h
 obtain⟨hle,es4⟩:=cat_some hs4
 refine⟨hle,?_⟩
 first|rw[←es4]|subst es4
 refine ww ?_
 cases h
 exact eF []
noncomputable def fn128:Func:=(Tryz.prog.funcs[128]?).getD default
theorem fn128_ok:Tryz.prog.funcs[128]? =some fn128:=by kernel_rfl
theorem F128_ok{a b:ByteArray}{r:Int}(h:cmpS a b=some r):CallD Tryz.prog 128 [.c (dS a),.c (dS b)] [] (tupV [.c (dI r)]) []:=L_cmp fn128_ok (by kernel_rfl) (by kernel_rfl) (by kernel_rfl) (by kernel_rfl) h
def F105_l1(x0:ByteArray):Nat→Int→Option ((Bool) ⊕ (Unit))
 |0,_=>none
 |k+1,o1_0=>(if o1_0<(x0.size:Int)then(byI x0 o1_0).bind fun y3=>(((if 97≤y3 then(if y3≤122 then some false else(if 48≤y3 then(if y3≤57 then some false else some (decide (¬(y3=45))))else some (decide (¬(y3=45)))))else(if 48≤y3 then(if y3≤57 then some false else some (decide (¬(y3=45))))else some (decide (¬(y3=45)))))).bind fun o4=>(if o4=true then(some false).map Sum.inl else F105_l1 x0 k ((IntKind.i64.wrap (o1_0+1)))))else some (Sum.inr (())))
def F105(x0:ByteArray):Option (Bool):=((F105_l1 x0 1099511627776 0:Option ((Bool) ⊕ (Unit))).bind fun o1=>match o1 with|Sum.inl f=>some f|Sum.inr po1=>(((if 1≤(x0.size:Int)then(if(x0.size:Int)≤40 then(byI x0 0).bind fun y15=>(if¬(y15=45)then(byI x0 ((IntKind.i64.wrap (((x0.size:Int))-1)))).bind fun y17=>some (decide (¬(y17=45)))else some false)else some false)else some false)).bind fun o12=>some o12))
def a105:AFn:=⟨54,[(.tmp 2)],
 (.seq (.reg [sq 2 (.mv (kB false))])
 (.seq (.seq (.reg [sq 5 (.mv (.t 0)),
sq 6 (.slen (.t 5)),
sq 7 (.mv (kI 0))])
 (.sem (.block 0 (.loop (.seq (.reg [sq 8 (.bin .lss (.t 7) (.t 6))])
 (.seq (.cond (.t 8)
 .skip
 (.exit 0))
 (.seq (.block 1 (.seq (.reg [sq 9 (.mv (.t 7)),
sq 3 (.mv (.t 9))])
 (.seq (.reg [sq 10 (.mv (.t 0)),
sq 11 (.mv (.t 3)),
sq 12 (.sidx (.t 10) (.t 11)),
sq 4 (.mv (.t 12))])
 (.seq (.sem (.reg [sq 13 (.mv (.t 4)),
sq 14 (.bin .geq (.t 13) (.k (.c (.d (.v (.int .u8 97)))))),
sq 15 (.mv (.t 14)),
zg 16 15 true (.mv (.t 4)),
zg 17 15 true (.bin .leq (.t 16) (.k (.c (.d (.v (.int .u8 122)))))),
sq 18 (.pick (.t 15) (.t 17) (kB false)),
sq 19 (.mv (.t 18)),
zg 20 19 false (.mv (.t 4)),
zg 21 19 false (.bin .geq (.t 20) (.k (.c (.d (.v (.int .u8 48)))))),
zg 22 19 false (.mv (.t 21)),
zg 23 22 true (.mv (.t 4)),
zg 24 22 true (.bin .leq (.t 23) (.k (.c (.d (.v (.int .u8 57)))))),
zg 25 19 false (.pick (.t 22) (.t 24) (kB false)),
sq 26 (.pick (.t 19) (kB true) (.t 25)),
sq 27 (.mv (.t 26)),
zg 28 27 false (.mv (.t 4)),
zg 29 27 false (.bin .eql (.t 28) (.k (.c (.d (.v (.int .u8 45)))))),
sq 30 (.pick (.t 27) (kB true) (.t 29)),
sq 31 (.not (.t 30))]))
 (.cond (.t 31)
 (.seq (.reg [sq 2 (.mv (kB false))])
 .ret)
 .skip)))))
 (.reg [sq 32 (.bin .add (.t 7) (kI 1)),
sq 7 (.mv (.t 32))]))))))))
 (.seq (.sem (.reg [sq 33 (.mv (.t 0)),
sq 34 (.slen (.t 33)),
sq 35 (.bin .geq (.t 34) (kI 1)),
sq 36 (.mv (.t 35)),
zg 37 36 true (.mv (.t 0)),
zg 38 36 true (.slen (.t 37)),
zg 39 36 true (.bin .leq (.t 38) (kI 40)),
sq 40 (.pick (.t 36) (.t 39) (kB false)),
sq 41 (.mv (.t 40)),
zg 42 41 true (.mv (.t 0)),
zg 43 41 true (.sidx (.t 42) (kI 0)),
zg 44 41 true (.bin .neq (.t 43) (.k (.c (.d (.v (.int .u8 45)))))),
sq 45 (.pick (.t 41) (.t 44) (kB false)),
sq 46 (.mv (.t 45)),
zg 47 46 true (.mv (.t 0)),
zg 48 46 true (.mv (.t 0)),
zg 49 46 true (.slen (.t 48)),
zg 50 46 true (.bin .sub (.t 49) (kI 1)),
zg 51 46 true (.sidx (.t 47) (.t 50)),
zg 52 46 true (.bin .neq (.t 51) (.k (.c (.d (.v (.int .u8 45)))))),
sq 53 (.pick (.t 46) (.t 52) (kB false)),
sq 2 (.mv (.t 53))]))
 .ret)))⟩
theorem F105_ok{x0 r}(h:F105 x0=some r):CallD Tryz.prog 105 [.c (dS x0)] [] (tupV [.c (dB r)]) []:=by
 rw[F105]at h
 refine zc a105 (by kernel_rfl) rfl (ww ?_)
 obtain⟨o1,ho,h⟩:=bi h
 refine cutS (fun s=>∃po1,o1=Sum.inr po1∧s=⟨[(0,.one (.c (dS x0)))],[]⟩) ?_ ?_
 ·have h0o1:=h
  have h:=ho
  clear ho
  refine ww ?_
  refine bL (fun j s=>∃(o1_0:Int),s=⟨[(0,.one (.c (dS x0))),(6,.one (.c (dI ((x0.size:Int))))),(7,.one (.c (dI o1_0)))],[]⟩∧F105_l1 x0 j o1_0=some o1) 1099511627776 [] ⟨0,rfl,h⟩ ?_
  rintro j _ ⟨o1_0,rfl,h⟩
  cases j with
  |zero=>cases(show(none:Option _)=some _ from h)
  |succ j=>
   rw[F105_l1]at h
   refine ww ?_
   refine condSh h (fun c2 h=>?_) (fun c2 h=>?_)
   ·refine ww ?_
    obtain⟨y3,hy3,h⟩:=bi h
    refine t_sidx rfl rfl hy3 (ww ?_)
    obtain⟨o4,ho,h⟩:=bi h
    refine cutS (fun s=>s=⟨[(0,.one (.c (dS x0))),(6,.one (.c (dI ((x0.size:Int))))),(7,.one (.c (dI o1_0))),(31,.one (.c (dB o4)))],[]⟩) ?_ ?_
    ·have h:=ho
     clear ho
     refine ww ?_
     refine guardSh h (fun g5 h=>?_) (fun g5 h=>?_)
     ·refine ww ?_
      refine guardSh h (fun g6 h=>?_) (fun g6 h=>?_)
      ·refine ww ?_
       cases h
       exact eM [] rfl
      ·refine ww ?_
       refine guardSh h (fun g7 h=>?_) (fun g7 h=>?_)
       ·refine ww ?_
        refine guardSh h (fun g8 h=>?_) (fun g8 h=>?_)
        ·refine ww ?_
         cases h
         exact eM [] rfl
        ·refine ww ?_
         cases h
         exact eM [] rfl
       ·refine ww ?_
        cases h
        exact eM [] rfl
     ·refine ww ?_
      refine guardSh h (fun g9 h=>?_) (fun g9 h=>?_)
      ·refine ww ?_
       refine guardSh h (fun g10 h=>?_) (fun g10 h=>?_)
       ·refine ww ?_
        cases h
        exact eM [] rfl
       ·refine ww ?_
        cases h
        exact eM [] rfl
      ·refine ww ?_
       cases h
       exact eM [] rfl
    ·rintro _ rfl
     clear ho
     refine ww ?_
     refine condBh h (fun c11 h=>?_) (fun c11 h=>?_)
     ·refine ww ?_
      obtain⟨fh0o1,hfh0o1,rfl⟩:=Option.map_eq_some_iff.1 h
      have h:=hfh0o1.trans h0o1
      cases h
      exact eF []
     ·refine ww ?_
      exact eL' j [] ⟨(IntKind.i64.wrap (o1_0+1)),rfl,h⟩ (Nat.lt_succ_self _)
   ·refine ww ?_
    cases h
    exact eM [] ⟨_,rfl,rfl⟩
 rintro _ ⟨po1,rfl,rfl⟩
 clear ho
 dsimp only at h
 refine ww ?_
 obtain⟨o12,ho,h⟩:=bi h
 refine cutS (fun s=>s=⟨[(2,.one (.c (dB o12)))],[]⟩) ?_ ?_
 ·have h:=ho
  clear ho
  refine ww ?_
  refine guardSh h (fun g13 h=>?_) (fun g13 h=>?_)
  ·refine ww ?_
   refine guardSh h (fun g14 h=>?_) (fun g14 h=>?_)
   ·refine ww ?_
    obtain⟨y15,hy15,h⟩:=bi h
    refine t_sidx rfl rfl hy15 (ww ?_)
    refine guardSh h (fun g16 h=>?_) (fun g16 h=>?_)
    ·refine ww ?_
     obtain⟨y17,hy17,h⟩:=bi h
     refine t_sidx rfl rfl hy17 (ww ?_)
     cases h
     exact eM [] rfl
    refine ww ?_
    cases h
    exact eM [] rfl
   refine ww ?_
   cases h
   exact eM [] rfl
  refine ww ?_
  cases h
  exact eM [] rfl
 rintro _ rfl
 clear ho
 refine ww ?_
 cases h
 exact eF []
def F144(x0:Int):Option (Bool):=(((if 97≤x0 then(if x0≤122 then some true else(if 48≤x0 then(if x0≤57 then some true else(if x0=45 then some true else(if x0=46 then some true else some (decide (x0=47)))))else(if x0=45 then some true else(if x0=46 then some true else some (decide (x0=47))))))else(if 48≤x0 then(if x0≤57 then some true else(if x0=45 then some true else(if x0=46 then some true else some (decide (x0=47)))))else(if x0=45 then some true else(if x0=46 then some true else some (decide (x0=47))))))).bind fun o1=>some o1)
def a144:AFn:=⟨29,[(.tmp 2)],
 (.seq (.reg [sq 2 (.mv (kB false))])
 (.seq (.sem (.reg [sq 3 (.mv (.t 0)),
sq 4 (.bin .geq (.t 3) (.k (.c (.d (.v (.int .u8 97)))))),
sq 5 (.mv (.t 4)),
zg 6 5 true (.mv (.t 0)),
zg 7 5 true (.bin .leq (.t 6) (.k (.c (.d (.v (.int .u8 122)))))),
sq 8 (.pick (.t 5) (.t 7) (kB false)),
sq 9 (.mv (.t 8)),
zg 10 9 false (.mv (.t 0)),
zg 11 9 false (.bin .geq (.t 10) (.k (.c (.d (.v (.int .u8 48)))))),
zg 12 9 false (.mv (.t 11)),
zg 13 12 true (.mv (.t 0)),
zg 14 12 true (.bin .leq (.t 13) (.k (.c (.d (.v (.int .u8 57)))))),
zg 15 9 false (.pick (.t 12) (.t 14) (kB false)),
sq 16 (.pick (.t 9) (kB true) (.t 15)),
sq 17 (.mv (.t 16)),
zg 18 17 false (.mv (.t 0)),
zg 19 17 false (.bin .eql (.t 18) (.k (.c (.d (.v (.int .u8 45)))))),
sq 20 (.pick (.t 17) (kB true) (.t 19)),
sq 21 (.mv (.t 20)),
zg 22 21 false (.mv (.t 0)),
zg 23 21 false (.bin .eql (.t 22) (.k (.c (.d (.v (.int .u8 46)))))),
sq 24 (.pick (.t 21) (kB true) (.t 23)),
sq 25 (.mv (.t 24)),
zg 26 25 false (.mv (.t 0)),
zg 27 25 false (.bin .eql (.t 26) (.k (.c (.d (.v (.int .u8 47)))))),
sq 28 (.pick (.t 25) (kB true) (.t 27)),
sq 2 (.mv (.t 28))]))
 .ret))⟩
theorem F144_ok{x0 r}(h:F144 x0=some r):CallD Tryz.prog 144 [.c (.d (.v (.int .u8 x0)))] [] (tupV [.c (dB r)]) []:=by
 rw[F144]at h
 refine zc a144 (by kernel_rfl) rfl (ww ?_)
 obtain⟨o1,ho,h⟩:=bi h
 refine cutS (fun s=>s=⟨[(2,.one (.c (dB o1)))],[]⟩) ?_ ?_
 ·have h:=ho
  clear ho
  refine ww ?_
  refine guardSh h (fun g2 h=>?_) (fun g2 h=>?_)
  ·refine ww ?_
   refine guardSh h (fun g3 h=>?_) (fun g3 h=>?_)
   ·refine ww ?_
    cases h
    exact eM [] rfl
   refine ww ?_
   refine guardSh h (fun g4 h=>?_) (fun g4 h=>?_)
   ·refine ww ?_
    refine guardSh h (fun g5 h=>?_) (fun g5 h=>?_)
    ·refine ww ?_
     cases h
     exact eM [] rfl
    refine ww ?_
    refine guardSh h (fun g6 h=>?_) (fun g6 h=>?_)
    ·refine ww ?_
     cases h
     exact eM [] rfl
    refine ww ?_
    refine guardSh h (fun g7 h=>?_) (fun g7 h=>?_)
    ·refine ww ?_
     cases h
     exact eM [] rfl
    refine ww ?_
    cases h
    exact eM [] rfl
   refine ww ?_
   refine guardSh h (fun g8 h=>?_) (fun g8 h=>?_)
   ·refine ww ?_
    cases h
    exact eM [] rfl
   refine ww ?_
   refine guardSh h (fun g9 h=>?_) (fun g9 h=>?_)
   ·refine ww ?_
    cases h
    exact eM [] rfl
   refine ww ?_
   cases h
   exact eM [] rfl
  refine ww ?_
  refine guardSh h (fun g10 h=>?_) (fun g10 h=>?_)
  ·refine ww ?_
   refine guardSh h (fun g11 h=>?_) (fun g11 h=>?_)
   ·refine ww ?_
    cases h
    exact eM [] rfl
   refine ww ?_
   refine guardSh h (fun g12 h=>?_) (fun g12 h=>?_)
   ·refine ww ?_
    cases h
    exact eM [] rfl
   refine ww ?_
   refine guardSh h (fun g13 h=>?_) (fun g13 h=>?_)
   ·refine ww ?_
    cases h
    exact eM [] rfl
   refine ww ?_
   cases h
   exact eM [] rfl
  refine ww ?_
  refine guardSh h (fun g14 h=>?_) (fun g14 h=>?_)
  ·refine ww ?_
   cases h
   exact eM [] rfl
  refine ww ?_
  refine guardSh h (fun g15 h=>?_) (fun g15 h=>?_)
  ·refine ww ?_
   cases h
   exact eM [] rfl
  refine ww ?_
  cases h
  exact eM [] rfl
 rintro _ rfl
 clear ho
 refine ww ?_
 cases h
 exact eF []
def F132_l1(x0:(List ByteArray)):Nat→Int→Option ((Bool) ⊕ (Unit))
 |0,_=>none
 |k+1,o1_0=>(if o1_0<(x0.length:Int)then(rdI x0 ((IntKind.i64.wrap (o1_0-1)))).bind fun y3=>(rdI x0 o1_0).bind fun y4=>(if(nb (Op.bytesLess y3.toList y4.toList))=true then(some false).map Sum.inl else F132_l1 x0 k ((IntKind.i64.wrap (o1_0+1))))else some (Sum.inr (())))
def F132(x0:(List ByteArray)):Option (Bool):=((F132_l1 x0 1099511627776 1:Option ((Bool) ⊕ (Unit))).bind fun o1=>match o1 with|Sum.inl f=>some f|Sum.inr po1=>some true)
def a132:AFn:=⟨20,[(.tmp 2)],
 (.seq (.reg [sq 2 (.mv (kB false))])
 (.seq (.seq (.reg [sq 3 (.mv (kI 1))])
 (.sem (.block 0 (.loop (.seq (.seq (.reg [sq 4 (.mv (.t 3)),
sq 5 (.mv (.t 0)),
sq 6 (.len (.t 5)),
sq 7 (.bin .lss (.t 4) (.t 6))])
 (.cond (.t 7)
 .skip
 (.exit 0)))
 (.seq (.block 1 (.seq (.regd [sq 10 (.mv (.t 0)),
sq 11 (.mv (.t 3)),
sd 12 (.bin .sub (.t 11) (kI 1)) [1],
sd 13 (.indexA 1 (.t 10) (.t 12)) [0,1,2],
sd 14 (.load none (.t 13)) [0,1,2,3],
sq 15 (.mv (.t 0)),
sq 16 (.mv (.t 3)),
sd 17 (.indexA 1 (.t 15) (.t 16)) [5,6],
sd 18 (.load none (.t 17)) [5,6,7],
sd 19 (.bin .geq (.t 14) (.t 18)) [0,1,2,3,4,5,6,7,8]])
 (.cond (.t 19)
 (.seq (.reg [sq 2 (.mv (kB false))])
 .ret)
 .skip)))
 (.reg [sq 8 (.mv (.t 3)),
sq 9 (.bin .add (.t 8) (kI 1)),
sq 3 (.mv (.t 9))])))))))
 (.seq (.reg [sq 2 (.mv (kB true))])
 .ret)))⟩
theorem F132_ok{x0 r}(h:F132 x0=some r):CallD Tryz.prog 132 [.c (dM (x0.map eS))] [] (tupV [.c (dB r)]) []:=by
 rw[F132]at h
 refine zc a132 (by kernel_rfl) rfl (ww ?_)
 obtain⟨o1,ho,h⟩:=bi h
 refine cutS (fun s=>∃po1,o1=Sum.inr po1∧s=⟨[],[]⟩) ?_ ?_
 ·have h0o1:=h
  have h:=ho
  clear ho
  refine ww ?_
  refine bL (fun j s=>∃(o1_0:Int),s=⟨[(0,.one (.c (dM (x0.map eS)))),(3,.one (.c (dI o1_0)))],[]⟩∧F132_l1 x0 j o1_0=some o1) 1099511627776 [] ⟨1,rfl,h⟩ ?_
  rintro j _ ⟨o1_0,rfl,h⟩
  cases j with
  |zero=>cases(show(none:Option _)=some _ from h)
  |succ j=>
   rw[F132_l1]at h
   refine ww ?_
   refine condSh h (fun c2 h=>?_) (fun c2 h=>?_)
   ·refine ww ?_
    obtain⟨y3,hy3,h⟩:=bi h
    refine t_idxF (enc:=eS) (xs:=x0) rfl rfl hy3 rfl (ww ?_)
    obtain⟨y4,hy4,h⟩:=bi h
    refine t_idxF (enc:=eS) (xs:=x0) rfl rfl hy4 rfl (ww ?_)
    refine condBh h (fun c5 h=>?_) (fun c5 h=>?_)
    ·refine ww ?_
     obtain⟨fh0o1,hfh0o1,rfl⟩:=Option.map_eq_some_iff.1 h
     have h:=hfh0o1.trans h0o1
     cases h
     exact eF []
    ·refine ww ?_
     exact eL' j [] ⟨(IntKind.i64.wrap (o1_0+1)),rfl,h⟩ (Nat.lt_succ_self _)
   ·refine ww ?_
    cases h
    exact eM [] ⟨_,rfl,rfl⟩
 rintro _ ⟨po1,rfl,rfl⟩
 clear ho
 dsimp only at h
 refine ww ?_
 cases h
 exact eF []
theorem a74_ok:afn Tryz.prog 74=some (cloneA 5 48):=by kernel_rfl
theorem F74_ok{x0 r:List Owner}(h:cloneI x0=some r):CallD Tryz.prog 74 [.c (dM (x0.map eOwner))] [] (tupV [.c (.own 0 1 0 r.length none)]) [some (.arr 1 5 (r.map eOwner))]:=L_clone a74_ok (fun _=>rfl) h
theorem a76_ok:afn Tryz.prog 76=some (cloneA 2 40):=by kernel_rfl
theorem F76_ok{x0 r:List Manager}(h:cloneI x0=some r):CallD Tryz.prog 76 [.c (dM (x0.map eManager))] [] (tupV [.c (.own 0 1 0 r.length none)]) [some (.arr 1 2 (r.map eManager))]:=L_clone a76_ok (fun _=>rfl) h
theorem a142_ok:afn Tryz.prog 142=some (cloneA 5 80):=by kernel_rfl
theorem F142_ok{x0 r:List TValue}(h:cloneI x0=some r):CallD Tryz.prog 142 [.c (dM (x0.map eTValue))] [] (tupV [.c (.own 0 1 0 r.length none)]) [some (.arr 1 5 (r.map eTValue))]:=L_clone a142_ok (fun _=>by rw[eTValue_u];rfl) h
theorem a51_ok:afn Tryz.prog 51=some (cloneA 23 352):=by kernel_rfl
theorem F51_ok{x0 r:List Object}(h:cloneI x0=some r):CallD Tryz.prog 51 [.c (dM (x0.map eObject))] [] (tupV [.c (.own 0 1 0 r.length none)]) [some (.arr 1 23 (r.map eObject))]:=L_clone a51_ok (fun _=>rfl) h
theorem a90_ok:afn Tryz.prog 90=some (deleteA 23 352 [.v (.string ⟨#[]⟩),.v (.string ⟨#[]⟩),.v (.string ⟨#[]⟩),.v (.int .i64 0),.v (.int .i64 0),.v (.int .i64 0),.v (.int .i64 0),.v (.bool false),.v (.int .i64 0),.sl [],.sl [],.sl [],.sl [],.v (.int .i64 0),.v (.int .i64 0),.v (.string ⟨#[]⟩),.sl [],.sl [],.v (.int .i64 0),.v (.int .i64 0),.v (.string ⟨#[]⟩),.sl [],.sl []]):=by kernel_rfl
theorem F90_ok{x0 r:List Object}{i j:Int}{e0:Nat}(h:delI x0 i j=some r):CallD Tryz.prog 90 [.c (.own 0 e0 0 x0.length none),aI i,aI j] [some (.arr e0 23 (x0.map eObject))] (tupV [.c (.own 0 (e0+1) 0 r.length none)]) [some (.arr (e0+1) 23 (r.map eObject))]:=L_delete a90_ok (fun _=>rfl) h
def F114_l1(rc49:TValue→TValue→Option (Int))(x1:(List TValue)):List TValue→Nat→Option ((Int) ⊕ (Unit))
 |[],o1_0=>some (Sum.inr (()))
 |xo1::xs,o1_0=>(if(x1.length:Int)≤(o1_0:Int)then(some 1).map Sum.inl else(rdI x1 ((o1_0:Int))).bind fun y4=>(rc49 xo1 y4).bind fun t5=>(if¬(t5=0)then(some t5).map Sum.inl else F114_l1 rc49 x1 xs (o1_0+1)))
def F114(rc49:TValue→TValue→Option (Int))(x0:(List TValue))(x1:(List TValue)):Option (Int):=(((ck (0≤x0.length∧x0.length≤4294967290)).bind fun u7=>F114_l1 rc49 x1 x0 0:Option ((Int) ⊕ (Unit))).bind fun o1=>match o1 with|Sum.inl f=>some f|Sum.inr po1=>(if(x0.length:Int)<(x1.length:Int)then some ((-1))else some 0))
def a114:AFn:=⟨39,[(.tmp 6)],
 (.seq (.reg [sq 6 (.mv (kI 0))])
 (.seq (.seq (.reg [sq 11 (.mv (.t 0)),
sq 12 (.len (.t 11)),
sq 13 (.mv (kI 0))])
 (.sem (.block 0 (.loop (.seq (.reg [sq 14 (.bin .lss (.t 13) (.t 12))])
 (.seq (.cond (.t 14)
 .skip
 (.exit 0))
 (.seq (.block 1 (.seq (.reg [sq 15 (.mv (.t 13)),
sq 16 (.indexA 5 (.t 11) (.t 13)),
sq 17 (.load (some 5) (.t 16)),
sq 8 (.zbox [dI 0,dI 0,dS ⟨#[]⟩,dN,dN]),
sq 7 (.mv (.t 15)),
su (.store 5 (.t 8) (.t 17))])
 (.seq (.seq (.reg [sq 18 (.mv (.t 7)),
sq 19 (.mv (.t 1)),
sq 20 (.len (.t 19)),
sq 21 (.bin .geq (.t 18) (.t 20))])
 (.cond (.t 21)
 (.seq (.reg [sq 6 (.mv (kI 1))])
 .ret)
 .skip))
 (.seq (.reg [sq 22 (.mv (.t 1)),
sq 23 (.mv (.t 7)),
sq 24 (.indexA 5 (.t 22) (.t 23)),
sq 25 (.load (some 5) (.t 24)),
sq 9 (.zbox [dI 0,dI 0,dS ⟨#[]⟩,dN,dN]),
su (.store 5 (.t 9) (.t 25))])
 (.seq (.reg [sq 26 (.mv (.t 2)),
sq 27 (.load (some 5) (.t 8)),
sq 28 (.load (some 5) (.t 9)),
sq 29 (.callv (.t 26) [(.t 27),(.t 28)]),
sq 10 (.mv (.t 29))])
 (.seq (.reg [sq 30 (.mv (.t 10)),
sq 31 (.bin .neq (.t 30) (kI 0))])
 (.cond (.t 31)
 (.seq (.reg [sq 32 (.mv (.t 10)),
sq 6 (.mv (.t 32))])
 .ret)
 .skip)))))))
 (.reg [sq 33 (.bin .add (.t 13) (kI 1)),
sq 13 (.mv (.t 33))]))))))))
 (.seq (.seq (.reg [sq 34 (.mv (.t 0)),
sq 35 (.len (.t 34)),
sq 36 (.mv (.t 1)),
sq 37 (.len (.t 36)),
sq 38 (.bin .lss (.t 35) (.t 37))])
 (.cond (.t 38)
 (.seq (.reg [sq 6 (.mv (kI (-1)))])
 .ret)
 .skip))
 (.seq (.reg [sq 6 (.mv (kI 0))])
 .ret))))⟩
theorem F114_ok{rc49:TValue→TValue→Option (Int)}(ih49:∀{x0:TValue} {x1:TValue} {r:Int} (h:rc49 x0 x1=some r),CallD Tryz.prog 82 [.agg [dI x0.Kind,dI x0.N,dS x0.S,dM (x0.List_.map eTValue),dM (x0.Fields.map eTField)],.agg [dI x1.Kind,dI x1.N,dS x1.S,dM (x1.List_.map eTValue),dM (x1.Fields.map eTField)]] [] (tupV [.c (dI r)]) []){x0:(List TValue)}{x1:(List TValue)}{r:Int}(h:F114 rc49 x0 x1=some r):CallD Tryz.prog 114 [.c (dM (x0.map eTValue)),.c (dM (x1.map eTValue)),.c (.fn 82 [])] [] (tupV [.c (dI r)]) []:=by
 rw[F114]at h
 refine zc a114 (by kernel_rfl) rfl (ww ?_)
 obtain⟨o1,ho,h⟩:=bi h
 refine cutS (fun s=>∃po1,o1=Sum.inr po1∧s=⟨[(0,.one (.c (dM (x0.map eTValue)))),(1,.one (.c (dM (x1.map eTValue))))],[]⟩) ?_ ?_
 ·have h0o1:=h
  have h:=ho
  clear ho
  obtain⟨_,hk,h⟩:=bi h
  have hk:=ck_some hk
  refine ww ?_
  refine bL (fun j s=>∃(o1_0:Nat),(o1_0≤x0.length∧j=x0.length-o1_0)∧s=⟨[(0,.one (.c (dM (x0.map eTValue)))),(1,.one (.c (dM (x1.map eTValue)))),(2,.one (.c (.fn 82 []))),(11,.one (.c (dM (x0.map eTValue)))),(12,.one (.c (dI ((x0.length:Int))))),(13,.one (.c (dI ((o1_0:Int)))))],[]⟩∧F114_l1 rc49 x1 (x0.drop o1_0) o1_0=some o1) (x0.length-0) [] ⟨0,⟨hk.1,rfl⟩,rfl,h⟩ ?_
  rintro _ _ ⟨o1_0,⟨hi,rfl⟩,rfl,h⟩
  refine ww ?_
  refine condS (fun c2=>?_) (fun c2=>?_)
  ·obtain⟨xo1,hxo1,hd⟩:=countY (show(o1_0:Int)<(x0.length:Int)from c2)
   rw[hd,F114_l1]at h
   refine ww ?_
   refine t_idxF (enc:=eTValue) (xs:=x0) rfl rfl hxo1 (by rw[eTValue_u];rfl) (ww ?_)
   refine condSh h (fun c3 h=>?_) (fun c3 h=>?_)
   ·refine ww ?_
    obtain⟨fh0o1,hfh0o1,rfl⟩:=Option.map_eq_some_iff.1 h
    have h:=hfh0o1.trans h0o1
    cases h
    exact eF []
   refine ww ?_
   obtain⟨y4,hy4,h⟩:=bi h
   refine t_idxF (enc:=eTValue) (xs:=x1) rfl rfl hy4 (by rw[eTValue_u];rfl) (ww ?_)
   obtain⟨t5,ht5,h⟩:=bi h
   refine cN [] (ih49 ht5) trivial (ww ?_)
   refine condSh h (fun c6 h=>?_) (fun c6 h=>?_)
   ·refine ww ?_
    obtain⟨fh0o1,hfh0o1,rfl⟩:=Option.map_eq_some_iff.1 h
    have h:=hfh0o1.trans h0o1
    cases h
    exact eF []
   refine ww ?_
   rw[wrapN (by omega)]
   exact eL' (x0.length-(o1_0+1)) [] ⟨o1_0+1,⟨by omega,rfl⟩,rfl,h⟩ (by omega)
  rw[countN (show¬((o1_0:Int)<(x0.length:Int))from c2),F114_l1]at h
  refine ww ?_
  cases h
  exact eM [] ⟨_,rfl,rfl⟩
 rintro _ ⟨po1,rfl,rfl⟩
 clear ho
 dsimp only at h
 refine ww ?_
 refine condSh h (fun c8 h=>?_) (fun c8 h=>?_)
 ·refine ww ?_
  cases h
  exact eF []
 refine ww ?_
 cases h
 exact eF []
def F47_l2(x1:(List ByteArray)):List ByteArray→Nat→Option ((Bool) ⊕ (Unit))
 |[],o2_0=>some (Sum.inr (()))
 |xo2::xs,o2_0=>(rdI x1 ((o2_0:Int))).bind fun y4=>(if¬(xo2=y4)then(some false).map Sum.inl else F47_l2 x1 xs (o2_0+1))
def F47(x0:(List ByteArray))(x1:(List ByteArray)):Option (Bool):=(if¬((x0.length:Int)=(x1.length:Int))then some false else(((ck (0≤x0.length∧x0.length≤4294967290)).bind fun u6=>F47_l2 x1 x0 0:Option ((Bool) ⊕ (Unit))).bind fun o2=>match o2 with|Sum.inl f=>some f|Sum.inr po2=>some true))
def a47:AFn:=⟨26,[(.tmp 4)],
 (.seq (.reg [sq 4 (.mv (kB false))])
 (.seq (.seq (.reg [sq 6 (.mv (.t 0)),
sq 7 (.len (.t 6)),
sq 8 (.mv (.t 1)),
sq 9 (.len (.t 8)),
sq 10 (.bin .neq (.t 7) (.t 9))])
 (.cond (.t 10)
 (.seq (.reg [sq 4 (.mv (kB false))])
 .ret)
 .skip))
 (.seq (.seq (.reg [sq 11 (.mv (.t 0)),
sq 12 (.len (.t 11)),
sq 13 (.mv (kI 0))])
 (.sem (.block 0 (.loop (.seq (.reg [sq 14 (.bin .lss (.t 13) (.t 12))])
 (.seq (.cond (.t 14)
 .skip
 (.exit 0))
 (.seq (.block 1 (.seq (.reg [sq 15 (.mv (.t 13)),
sq 5 (.mv (.t 15))])
 (.seq (.regd [sq 16 (.mv (.t 0)),
sq 17 (.mv (.t 5)),
sd 18 (.indexA 1 (.t 16) (.t 17)) [0,1],
sd 19 (.load none (.t 18)) [0,1,2],
sq 20 (.mv (.t 1)),
sq 21 (.mv (.t 5)),
sd 22 (.indexA 1 (.t 20) (.t 21)) [4,5],
sd 23 (.load none (.t 22)) [4,5,6],
sd 24 (.bin .neq (.t 19) (.t 23)) [0,1,2,3,4,5,6,7]])
 (.cond (.t 24)
 (.seq (.reg [sq 4 (.mv (kB false))])
 .ret)
 .skip))))
 (.reg [sq 25 (.bin .add (.t 13) (kI 1)),
sq 13 (.mv (.t 25))]))))))))
 (.seq (.reg [sq 4 (.mv (kB true))])
 .ret))))⟩
theorem F47_ok{x0 x1 r}(h:F47 x0 x1=some r):CallD Tryz.prog 47 [.c (dM (x0.map eS)),.c (dM (x1.map eS))] [] (tupV [.c (dB r)]) []:=by
 rw[F47]at h
 refine zc a47 (by kernel_rfl) rfl (ww ?_)
 refine condSh h (fun c1 h=>?_) (fun c1 h=>?_)
 ·refine ww ?_
  cases h
  exact eF []
 refine ww ?_
 obtain⟨o2,ho,h⟩:=bi h
 refine cutS (fun s=>∃po2,o2=Sum.inr po2∧s=⟨[],[]⟩) ?_ ?_
 ·have h0o2:=h
  have h:=ho
  clear ho
  obtain⟨_,hk,h⟩:=bi h
  have hk:=ck_some hk
  refine ww ?_
  refine bL (fun j s=>∃(o2_0:Nat),(o2_0≤x0.length∧j=x0.length-o2_0)∧s=⟨[(0,.one (.c (dM (x0.map eS)))),(1,.one (.c (dM (x1.map eS)))),(12,.one (.c (dI ((x0.length:Int))))),(13,.one (.c (dI ((o2_0:Int)))))],[]⟩∧F47_l2 x1 (x0.drop o2_0) o2_0=some o2) (x0.length-0) [] ⟨0,⟨hk.1,rfl⟩,rfl,h⟩ ?_
  rintro _ _ ⟨o2_0,⟨hi,rfl⟩,rfl,h⟩
  refine ww ?_
  refine condS (fun c3=>?_) (fun c3=>?_)
  ·obtain⟨xo2,hxo2,hd⟩:=countY (show(o2_0:Int)<(x0.length:Int)from c3)
   rw[hd,F47_l2]at h
   refine ww ?_
   refine t_idxF (enc:=eS) (xs:=x0) rfl rfl hxo2 rfl (ww ?_)
   obtain⟨y4,hy4,h⟩:=bi h
   refine t_idxF (enc:=eS) (xs:=x1) rfl rfl hy4 rfl (ww ?_)
   refine condSh h (fun c5 h=>?_) (fun c5 h=>?_)
   ·refine ww ?_
    obtain⟨fh0o2,hfh0o2,rfl⟩:=Option.map_eq_some_iff.1 h
    have h:=hfh0o2.trans h0o2
    cases h
    exact eF []
   refine ww ?_
   rw[wrapN (by omega)]
   exact eL' (x0.length-(o2_0+1)) [] ⟨o2_0+1,⟨by omega,rfl⟩,rfl,h⟩ (by omega)
  rw[countN (show¬((o2_0:Int)<(x0.length:Int))from c3),F47_l2]at h
  refine ww ?_
  cases h
  exact eM [] ⟨_,rfl,rfl⟩
 rintro _ ⟨po2,rfl,rfl⟩
 clear ho
 dsimp only at h
 refine ww ?_
 cases h
 exact eF []
def F84_l8(x0:ByteArray):Nat→Int→Option ((Bool) ⊕ (Unit))
 |0,_=>none
 |k+1,o8_0=>(if o8_0<(x0.size:Int)then(((byI x0 o8_0).bind fun y11=>(if 97≤y11 then(byI x0 o8_0).bind fun y13=>(if¬(y13≤122)then(byI x0 o8_0).bind fun y15=>(if 48≤y15 then(byI x0 o8_0).bind fun y17=>(if¬(y17≤57)then(byI x0 o8_0).bind fun y19=>some (decide (¬(y19=45)))else some false)else(byI x0 o8_0).bind fun y20=>some (decide (¬(y20=45))))else some false)else(byI x0 o8_0).bind fun y21=>(if 48≤y21 then(byI x0 o8_0).bind fun y23=>(if¬(y23≤57)then(byI x0 o8_0).bind fun y25=>some (decide (¬(y25=45)))else some false)else(byI x0 o8_0).bind fun y26=>some (decide (¬(y26=45)))))).bind fun o10=>(if o10=true then(some false).map Sum.inl else F84_l8 x0 k ((IntKind.i64.wrap (o8_0+1)))))else some (Sum.inr (())))
def F84(x0:ByteArray):Option (Bool):=(((if x0=(⟨#[]⟩:ByteArray)then some true else(if 40<(x0.size:Int)then some true else(byI x0 0).bind fun y4=>(if y4=45 then some true else(byI x0 ((IntKind.i64.wrap (((x0.size:Int))-1)))).bind fun y6=>some (decide (y6=45)))))).bind fun o1=>(if o1=true then some false else((F84_l8 x0 1099511627776 0:Option ((Bool) ⊕ (Unit))).bind fun o8=>match o8 with|Sum.inl f=>some f|Sum.inr po8=>some true)))
def a84:AFn:=⟨60,[(.tmp 2)],
 (.seq (.reg [sq 2 (.mv (kB false))])
 (.seq (.seq (.sem (.reg [sq 4 (.mv (.t 0)),
sq 5 (.bin .eql (.t 4) (kS ⟨#[]⟩)),
sq 6 (.mv (.t 5)),
zg 7 6 false (.mv (.t 0)),
zg 8 6 false (.slen (.t 7)),
zg 9 6 false (.bin .gtr (.t 8) (kI 40)),
sq 10 (.pick (.t 6) (kB true) (.t 9)),
sq 11 (.mv (.t 10)),
zg 12 11 false (.mv (.t 0)),
zg 13 11 false (.sidx (.t 12) (kI 0)),
zg 14 11 false (.bin .eql (.t 13) (.k (.c (.d (.v (.int .u8 45)))))),
sq 15 (.pick (.t 11) (kB true) (.t 14)),
sq 16 (.mv (.t 15)),
zg 17 16 false (.mv (.t 0)),
zg 18 16 false (.mv (.t 0)),
zg 19 16 false (.slen (.t 18)),
zg 20 16 false (.bin .sub (.t 19) (kI 1)),
zg 21 16 false (.sidx (.t 17) (.t 20)),
zg 22 16 false (.bin .eql (.t 21) (.k (.c (.d (.v (.int .u8 45)))))),
sq 23 (.pick (.t 16) (kB true) (.t 22))]))
 (.cond (.t 23)
 (.seq (.reg [sq 2 (.mv (kB false))])
 .ret)
 .skip))
 (.seq (.seq (.reg [sq 3 (.mv (kI 0))])
 (.sem (.block 0 (.loop (.seq (.seq (.reg [sq 24 (.mv (.t 3)),
sq 25 (.mv (.t 0)),
sq 26 (.slen (.t 25)),
sq 27 (.bin .lss (.t 24) (.t 26))])
 (.cond (.t 27)
 .skip
 (.exit 0)))
 (.seq (.block 1 (.seq (.sem (.reg [sq 30 (.mv (.t 0)),
sq 31 (.mv (.t 3)),
sq 32 (.sidx (.t 30) (.t 31)),
sq 33 (.bin .geq (.t 32) (.k (.c (.d (.v (.int .u8 97)))))),
sq 34 (.mv (.t 33)),
zg 35 34 true (.mv (.t 0)),
zg 36 34 true (.mv (.t 3)),
zg 37 34 true (.sidx (.t 35) (.t 36)),
zg 38 34 true (.bin .leq (.t 37) (.k (.c (.d (.v (.int .u8 122)))))),
sq 39 (.pick (.t 34) (.t 38) (kB false)),
sq 40 (.not (.t 39)),
sq 41 (.mv (.t 40)),
zg 42 41 true (.mv (.t 0)),
zg 43 41 true (.mv (.t 3)),
zg 44 41 true (.sidx (.t 42) (.t 43)),
zg 45 41 true (.bin .geq (.t 44) (.k (.c (.d (.v (.int .u8 48)))))),
zg 46 41 true (.mv (.t 45)),
zg 47 46 true (.mv (.t 0)),
zg 48 46 true (.mv (.t 3)),
zg 49 46 true (.sidx (.t 47) (.t 48)),
zg 50 46 true (.bin .leq (.t 49) (.k (.c (.d (.v (.int .u8 57)))))),
zg 51 41 true (.pick (.t 46) (.t 50) (kB false)),
zg 52 41 true (.not (.t 51)),
sq 53 (.pick (.t 41) (.t 52) (kB false)),
sq 54 (.mv (.t 53)),
zg 55 54 true (.mv (.t 0)),
zg 56 54 true (.mv (.t 3)),
zg 57 54 true (.sidx (.t 55) (.t 56)),
zg 58 54 true (.bin .neq (.t 57) (.k (.c (.d (.v (.int .u8 45)))))),
sq 59 (.pick (.t 54) (.t 58) (kB false))]))
 (.cond (.t 59)
 (.seq (.reg [sq 2 (.mv (kB false))])
 .ret)
 .skip)))
 (.reg [sq 28 (.mv (.t 3)),
sq 29 (.bin .add (.t 28) (kI 1)),
sq 3 (.mv (.t 29))])))))))
 (.seq (.reg [sq 2 (.mv (kB true))])
 .ret))))⟩
theorem F84_ok{x0 r}(h:F84 x0=some r):CallD Tryz.prog 84 [.c (dS x0)] [] (tupV [.c (dB r)]) []:=by
 rw[F84]at h
 refine zc a84 (by kernel_rfl) rfl (ww ?_)
 obtain⟨o1,ho,h⟩:=bi h
 refine cutS (fun s=>s=⟨[(0,.one (.c (dS x0))),(23,.one (.c (dB o1)))],[]⟩) ?_ ?_
 ·have h:=ho
  clear ho
  refine ww ?_
  refine guardSh h (fun g2 h=>?_) (fun g2 h=>?_)
  ·refine ww ?_
   cases h
   exact eM [] rfl
  refine ww ?_
  refine guardSh h (fun g3 h=>?_) (fun g3 h=>?_)
  ·refine ww ?_
   cases h
   exact eM [] rfl
  refine ww ?_
  obtain⟨y4,hy4,h⟩:=bi h
  refine t_sidx rfl rfl hy4 (ww ?_)
  refine guardSh h (fun g5 h=>?_) (fun g5 h=>?_)
  ·refine ww ?_
   cases h
   exact eM [] rfl
  refine ww ?_
  obtain⟨y6,hy6,h⟩:=bi h
  refine t_sidx rfl rfl hy6 (ww ?_)
  cases h
  exact eM [] rfl
 rintro _ rfl
 clear ho
 refine ww ?_
 refine condBh h (fun c7 h=>?_) (fun c7 h=>?_)
 ·refine ww ?_
  cases h
  exact eF []
 refine ww ?_
 obtain⟨o8,ho,h⟩:=bi h
 refine cutS (fun s=>∃po8,o8=Sum.inr po8∧s=⟨[],[]⟩) ?_ ?_
 ·have h0o8:=h
  have h:=ho
  clear ho
  refine ww ?_
  refine bL (fun j s=>∃(o8_0:Int),s=⟨[(0,.one (.c (dS x0))),(3,.one (.c (dI o8_0)))],[]⟩∧F84_l8 x0 j o8_0=some o8) 1099511627776 [] ⟨0,rfl,h⟩ ?_
  rintro j _ ⟨o8_0,rfl,h⟩
  cases j with
  |zero=>cases(show(none:Option _)=some _ from h)
  |succ j=>
   rw[F84_l8]at h
   refine ww ?_
   refine condSh h (fun c9 h=>?_) (fun c9 h=>?_)
   ·refine ww ?_
    obtain⟨o10,ho,h⟩:=bi h
    refine cutS (fun s=>s=⟨[(0,.one (.c (dS x0))),(3,.one (.c (dI o8_0))),(59,.one (.c (dB o10)))],[]⟩) ?_ ?_
    ·have h:=ho
     clear ho
     refine ww ?_
     obtain⟨y11,hy11,h⟩:=bi h
     refine t_sidx rfl rfl hy11 (ww ?_)
     refine guardSh h (fun g12 h=>?_) (fun g12 h=>?_)
     ·refine ww ?_
      obtain⟨y13,hy13,h⟩:=bi h
      refine t_sidx rfl rfl hy13 (ww ?_)
      refine guardSh h (fun g14 h=>?_) (fun g14 h=>?_)
      ·refine ww ?_
       obtain⟨y15,hy15,h⟩:=bi h
       refine t_sidx rfl rfl hy15 (ww ?_)
       refine guardSh h (fun g16 h=>?_) (fun g16 h=>?_)
       ·refine ww ?_
        obtain⟨y17,hy17,h⟩:=bi h
        refine t_sidx rfl rfl hy17 (ww ?_)
        refine guardSh h (fun g18 h=>?_) (fun g18 h=>?_)
        ·refine ww ?_
         obtain⟨y19,hy19,h⟩:=bi h
         refine t_sidx rfl rfl hy19 (ww ?_)
         cases h
         exact eM [] rfl
        ·refine ww ?_
         cases h
         exact eM [] rfl
       ·refine ww ?_
        obtain⟨y20,hy20,h⟩:=bi h
        refine t_sidx rfl rfl hy20 (ww ?_)
        cases h
        exact eM [] rfl
      ·refine ww ?_
       cases h
       exact eM [] rfl
     ·refine ww ?_
      obtain⟨y21,hy21,h⟩:=bi h
      refine t_sidx rfl rfl hy21 (ww ?_)
      refine guardSh h (fun g22 h=>?_) (fun g22 h=>?_)
      ·refine ww ?_
       obtain⟨y23,hy23,h⟩:=bi h
       refine t_sidx rfl rfl hy23 (ww ?_)
       refine guardSh h (fun g24 h=>?_) (fun g24 h=>?_)
       ·refine ww ?_
        obtain⟨y25,hy25,h⟩:=bi h
        refine t_sidx rfl rfl hy25 (ww ?_)
        cases h
        exact eM [] rfl
       ·refine ww ?_
        cases h
        exact eM [] rfl
      ·refine ww ?_
       obtain⟨y26,hy26,h⟩:=bi h
       refine t_sidx rfl rfl hy26 (ww ?_)
       cases h
       exact eM [] rfl
    ·rintro _ rfl
     clear ho
     refine ww ?_
     refine condBh h (fun c27 h=>?_) (fun c27 h=>?_)
     ·refine ww ?_
      obtain⟨fh0o8,hfh0o8,rfl⟩:=Option.map_eq_some_iff.1 h
      have h:=hfh0o8.trans h0o8
      cases h
      exact eF []
     ·refine ww ?_
      exact eL' j [] ⟨(IntKind.i64.wrap (o8_0+1)),rfl,h⟩ (Nat.lt_succ_self _)
   ·refine ww ?_
    cases h
    exact eM [] ⟨_,rfl,rfl⟩
 rintro _ ⟨po8,rfl,rfl⟩
 clear ho
 dsimp only at h
 refine ww ?_
 cases h
 exact eF []
def F136(x0:Int):Option (Bool):=(((if 97≤x0 then(if x0≤122 then some true else(if 48≤x0 then(if x0≤57 then some true else(if x0=45 then some true else(if x0=46 then some true else some (decide (x0=47)))))else(if x0=45 then some true else(if x0=46 then some true else some (decide (x0=47))))))else(if 48≤x0 then(if x0≤57 then some true else(if x0=45 then some true else(if x0=46 then some true else some (decide (x0=47)))))else(if x0=45 then some true else(if x0=46 then some true else some (decide (x0=47))))))).bind fun o1=>some o1)
def a136:AFn:=⟨29,[(.tmp 2)],
 (.seq (.reg [sq 2 (.mv (kB false))])
 (.seq (.sem (.reg [sq 3 (.mv (.t 0)),
sq 4 (.bin .geq (.t 3) (.k (.c (.d (.v (.int .u8 97)))))),
sq 5 (.mv (.t 4)),
zg 6 5 true (.mv (.t 0)),
zg 7 5 true (.bin .leq (.t 6) (.k (.c (.d (.v (.int .u8 122)))))),
sq 8 (.pick (.t 5) (.t 7) (kB false)),
sq 9 (.mv (.t 8)),
zg 10 9 false (.mv (.t 0)),
zg 11 9 false (.bin .geq (.t 10) (.k (.c (.d (.v (.int .u8 48)))))),
zg 12 9 false (.mv (.t 11)),
zg 13 12 true (.mv (.t 0)),
zg 14 12 true (.bin .leq (.t 13) (.k (.c (.d (.v (.int .u8 57)))))),
zg 15 9 false (.pick (.t 12) (.t 14) (kB false)),
sq 16 (.pick (.t 9) (kB true) (.t 15)),
sq 17 (.mv (.t 16)),
zg 18 17 false (.mv (.t 0)),
zg 19 17 false (.bin .eql (.t 18) (.k (.c (.d (.v (.int .u8 45)))))),
sq 20 (.pick (.t 17) (kB true) (.t 19)),
sq 21 (.mv (.t 20)),
zg 22 21 false (.mv (.t 0)),
zg 23 21 false (.bin .eql (.t 22) (.k (.c (.d (.v (.int .u8 46)))))),
sq 24 (.pick (.t 21) (kB true) (.t 23)),
sq 25 (.mv (.t 24)),
zg 26 25 false (.mv (.t 0)),
zg 27 25 false (.bin .eql (.t 26) (.k (.c (.d (.v (.int .u8 47)))))),
sq 28 (.pick (.t 25) (kB true) (.t 27)),
sq 2 (.mv (.t 28))]))
 .ret))⟩
theorem F136_ok{x0 r}(h:F136 x0=some r):CallD Tryz.prog 136 [.c (.d (.v (.int .u8 x0)))] [] (tupV [.c (dB r)]) []:=by
 rw[F136]at h
 refine zc a136 (by kernel_rfl) rfl (ww ?_)
 obtain⟨o1,ho,h⟩:=bi h
 refine cutS (fun s=>s=⟨[(2,.one (.c (dB o1)))],[]⟩) ?_ ?_
 ·have h:=ho
  clear ho
  refine ww ?_
  refine guardSh h (fun g2 h=>?_) (fun g2 h=>?_)
  ·refine ww ?_
   refine guardSh h (fun g3 h=>?_) (fun g3 h=>?_)
   ·refine ww ?_
    cases h
    exact eM [] rfl
   refine ww ?_
   refine guardSh h (fun g4 h=>?_) (fun g4 h=>?_)
   ·refine ww ?_
    refine guardSh h (fun g5 h=>?_) (fun g5 h=>?_)
    ·refine ww ?_
     cases h
     exact eM [] rfl
    refine ww ?_
    refine guardSh h (fun g6 h=>?_) (fun g6 h=>?_)
    ·refine ww ?_
     cases h
     exact eM [] rfl
    refine ww ?_
    refine guardSh h (fun g7 h=>?_) (fun g7 h=>?_)
    ·refine ww ?_
     cases h
     exact eM [] rfl
    refine ww ?_
    cases h
    exact eM [] rfl
   refine ww ?_
   refine guardSh h (fun g8 h=>?_) (fun g8 h=>?_)
   ·refine ww ?_
    cases h
    exact eM [] rfl
   refine ww ?_
   refine guardSh h (fun g9 h=>?_) (fun g9 h=>?_)
   ·refine ww ?_
    cases h
    exact eM [] rfl
   refine ww ?_
   cases h
   exact eM [] rfl
  refine ww ?_
  refine guardSh h (fun g10 h=>?_) (fun g10 h=>?_)
  ·refine ww ?_
   refine guardSh h (fun g11 h=>?_) (fun g11 h=>?_)
   ·refine ww ?_
    cases h
    exact eM [] rfl
   refine ww ?_
   refine guardSh h (fun g12 h=>?_) (fun g12 h=>?_)
   ·refine ww ?_
    cases h
    exact eM [] rfl
   refine ww ?_
   refine guardSh h (fun g13 h=>?_) (fun g13 h=>?_)
   ·refine ww ?_
    cases h
    exact eM [] rfl
   refine ww ?_
   cases h
   exact eM [] rfl
  refine ww ?_
  refine guardSh h (fun g14 h=>?_) (fun g14 h=>?_)
  ·refine ww ?_
   cases h
   exact eM [] rfl
  refine ww ?_
  refine guardSh h (fun g15 h=>?_) (fun g15 h=>?_)
  ·refine ww ?_
   cases h
   exact eM [] rfl
  refine ww ?_
  cases h
  exact eM [] rfl
 rintro _ rfl
 clear ho
 refine ww ?_
 cases h
 exact eF []
def F119_l1(x0:(List ByteArray)):Nat→Int→Option ((Bool) ⊕ (Unit))
 |0,_=>none
 |k+1,o1_0=>(if o1_0<(x0.length:Int)then(rdI x0 o1_0).bind fun y3=>(rdI x0 ((IntKind.i64.wrap (o1_0-1)))).bind fun y4=>(if((Op.bytesLess y3.toList y4.toList||decide (y3=y4)))=true then(some false).map Sum.inl else F119_l1 x0 k ((IntKind.i64.wrap (o1_0+1))))else some (Sum.inr (())))
def F119(x0:(List ByteArray)):Option (Bool):=((F119_l1 x0 1099511627776 1:Option ((Bool) ⊕ (Unit))).bind fun o1=>match o1 with|Sum.inl f=>some f|Sum.inr po1=>some true)
def a119:AFn:=⟨20,[(.tmp 2)],
 (.seq (.reg [sq 2 (.mv (kB false))])
 (.seq (.seq (.reg [sq 3 (.mv (kI 1))])
 (.sem (.block 0 (.loop (.seq (.seq (.reg [sq 4 (.mv (.t 3)),
sq 5 (.mv (.t 0)),
sq 6 (.len (.t 5)),
sq 7 (.bin .lss (.t 4) (.t 6))])
 (.cond (.t 7)
 .skip
 (.exit 0)))
 (.seq (.block 1 (.seq (.regd [sq 10 (.mv (.t 0)),
sq 11 (.mv (.t 3)),
sd 12 (.indexA 1 (.t 10) (.t 11)) [0,1],
sd 13 (.load none (.t 12)) [0,1,2],
sq 14 (.mv (.t 0)),
sq 15 (.mv (.t 3)),
sd 16 (.bin .sub (.t 15) (kI 1)) [5],
sd 17 (.indexA 1 (.t 14) (.t 16)) [4,5,6],
sd 18 (.load none (.t 17)) [4,5,6,7],
sd 19 (.bin .leq (.t 13) (.t 18)) [0,1,2,3,4,5,6,7,8]])
 (.cond (.t 19)
 (.seq (.reg [sq 2 (.mv (kB false))])
 .ret)
 .skip)))
 (.reg [sq 8 (.mv (.t 3)),
sq 9 (.bin .add (.t 8) (kI 1)),
sq 3 (.mv (.t 9))])))))))
 (.seq (.reg [sq 2 (.mv (kB true))])
 .ret)))⟩
theorem F119_ok{x0 r}(h:F119 x0=some r):CallD Tryz.prog 119 [.c (dM (x0.map eS))] [] (tupV [.c (dB r)]) []:=by
 rw[F119]at h
 refine zc a119 (by kernel_rfl) rfl (ww ?_)
 obtain⟨o1,ho,h⟩:=bi h
 refine cutS (fun s=>∃po1,o1=Sum.inr po1∧s=⟨[],[]⟩) ?_ ?_
 ·have h0o1:=h
  have h:=ho
  clear ho
  refine ww ?_
  refine bL (fun j s=>∃(o1_0:Int),s=⟨[(0,.one (.c (dM (x0.map eS)))),(3,.one (.c (dI o1_0)))],[]⟩∧F119_l1 x0 j o1_0=some o1) 1099511627776 [] ⟨1,rfl,h⟩ ?_
  rintro j _ ⟨o1_0,rfl,h⟩
  cases j with
  |zero=>cases(show(none:Option _)=some _ from h)
  |succ j=>
   rw[F119_l1]at h
   refine ww ?_
   refine condSh h (fun c2 h=>?_) (fun c2 h=>?_)
   ·refine ww ?_
    obtain⟨y3,hy3,h⟩:=bi h
    refine t_idxF (enc:=eS) (xs:=x0) rfl rfl hy3 rfl (ww ?_)
    obtain⟨y4,hy4,h⟩:=bi h
    refine t_idxF (enc:=eS) (xs:=x0) rfl rfl hy4 rfl (ww ?_)
    refine condBh h (fun c5 h=>?_) (fun c5 h=>?_)
    ·refine ww ?_
     obtain⟨fh0o1,hfh0o1,rfl⟩:=Option.map_eq_some_iff.1 h
     have h:=hfh0o1.trans h0o1
     cases h
     exact eF []
    ·refine ww ?_
     exact eL' j [] ⟨(IntKind.i64.wrap (o1_0+1)),rfl,h⟩ (Nat.lt_succ_self _)
   ·refine ww ?_
    cases h
    exact eM [] ⟨_,rfl,rfl⟩
 rintro _ ⟨po1,rfl,rfl⟩
 clear ho
 dsimp only at h
 refine ww ?_
 cases h
 exact eF []
def F121_l1(x0:ByteArray):Nat→Int→Option ((Bool) ⊕ (Unit))
 |0,_=>none
 |k+1,o1_0=>(if o1_0<(x0.size:Int)then(byI x0 o1_0).bind fun y3=>(((if 97≤y3 then(if y3≤122 then some true else(if 65≤y3 then some (decide (y3≤90))else some false))else(if 65≤y3 then some (decide (y3≤90))else some false))).bind fun o4=>(((if(nb o4)=true then(if 48≤y3 then(if¬(y3≤57)then(if¬(y3=45)then(if¬(y3=95)then some (decide (¬(y3=47)))else some false)else some false)else some false)else(if¬(y3=45)then(if¬(y3=95)then some (decide (¬(y3=47)))else some false)else some false))else some false)).bind fun o9=>(if o9=true then(some false).map Sum.inl else F121_l1 x0 k ((IntKind.i64.wrap (o1_0+1))))))else some (Sum.inr (())))
def F121(x0:ByteArray):Option (Bool):=((F121_l1 x0 1099511627776 0:Option ((Bool) ⊕ (Unit))).bind fun o1=>match o1 with|Sum.inl f=>some f|Sum.inr po1=>(((if 1≤(x0.size:Int)then some (decide ((x0.size:Int)≤40))else some false)).bind fun o18=>some o18))
def a121:AFn:=⟨60,[(.tmp 2)],
 (.seq (.reg [sq 2 (.mv (kB false))])
 (.seq (.seq (.reg [sq 3 (.mv (kI 0))])
 (.sem (.block 0 (.loop (.seq (.seq (.reg [sq 6 (.mv (.t 3)),
sq 7 (.mv (.t 0)),
sq 8 (.slen (.t 7)),
sq 9 (.bin .lss (.t 6) (.t 8))])
 (.cond (.t 9)
 .skip
 (.exit 0)))
 (.seq (.block 1 (.seq (.reg [sq 12 (.mv (.t 0)),
sq 13 (.mv (.t 3)),
sq 14 (.sidx (.t 12) (.t 13)),
sq 4 (.mv (.t 14))])
 (.seq (.sem (.reg [sq 15 (.mv (.t 4)),
sq 16 (.bin .geq (.t 15) (.k (.c (.d (.v (.int .u8 97)))))),
sq 17 (.mv (.t 16)),
zg 18 17 true (.mv (.t 4)),
zg 19 17 true (.bin .leq (.t 18) (.k (.c (.d (.v (.int .u8 122)))))),
sq 20 (.pick (.t 17) (.t 19) (kB false)),
sq 21 (.mv (.t 20)),
zg 22 21 false (.mv (.t 4)),
zg 23 21 false (.bin .geq (.t 22) (.k (.c (.d (.v (.int .u8 65)))))),
zg 24 21 false (.mv (.t 23)),
zg 25 24 true (.mv (.t 4)),
zg 26 24 true (.bin .leq (.t 25) (.k (.c (.d (.v (.int .u8 90)))))),
zg 27 21 false (.pick (.t 24) (.t 26) (kB false)),
sq 28 (.pick (.t 21) (kB true) (.t 27)),
sq 5 (.mv (.t 28))]))
 (.seq (.sem (.reg [sq 29 (.mv (.t 5)),
sq 30 (.not (.t 29)),
sq 31 (.mv (.t 30)),
zg 32 31 true (.mv (.t 4)),
zg 33 31 true (.bin .geq (.t 32) (.k (.c (.d (.v (.int .u8 48)))))),
zg 34 31 true (.mv (.t 33)),
zg 35 34 true (.mv (.t 4)),
zg 36 34 true (.bin .leq (.t 35) (.k (.c (.d (.v (.int .u8 57)))))),
zg 37 31 true (.pick (.t 34) (.t 36) (kB false)),
zg 38 31 true (.not (.t 37)),
sq 39 (.pick (.t 31) (.t 38) (kB false)),
sq 40 (.mv (.t 39)),
zg 41 40 true (.mv (.t 4)),
zg 42 40 true (.bin .neq (.t 41) (.k (.c (.d (.v (.int .u8 45)))))),
sq 43 (.pick (.t 40) (.t 42) (kB false)),
sq 44 (.mv (.t 43)),
zg 45 44 true (.mv (.t 4)),
zg 46 44 true (.bin .neq (.t 45) (.k (.c (.d (.v (.int .u8 95)))))),
sq 47 (.pick (.t 44) (.t 46) (kB false)),
sq 48 (.mv (.t 47)),
zg 49 48 true (.mv (.t 4)),
zg 50 48 true (.bin .neq (.t 49) (.k (.c (.d (.v (.int .u8 47)))))),
sq 51 (.pick (.t 48) (.t 50) (kB false))]))
 (.cond (.t 51)
 (.seq (.reg [sq 2 (.mv (kB false))])
 .ret)
 .skip)))))
 (.reg [sq 10 (.mv (.t 3)),
sq 11 (.bin .add (.t 10) (kI 1)),
sq 3 (.mv (.t 11))])))))))
 (.seq (.sem (.reg [sq 52 (.mv (.t 0)),
sq 53 (.slen (.t 52)),
sq 54 (.bin .geq (.t 53) (kI 1)),
sq 55 (.mv (.t 54)),
zg 56 55 true (.mv (.t 0)),
zg 57 55 true (.slen (.t 56)),
zg 58 55 true (.bin .leq (.t 57) (kI 40)),
sq 59 (.pick (.t 55) (.t 58) (kB false)),
sq 2 (.mv (.t 59))]))
 .ret)))⟩
theorem F121_ok{x0 r}(h:F121 x0=some r):CallD Tryz.prog 121 [.c (dS x0)] [] (tupV [.c (dB r)]) []:=by
 rw[F121]at h
 refine zc a121 (by kernel_rfl) rfl (ww ?_)
 obtain⟨o1,ho,h⟩:=bi h
 refine cutS (fun s=>∃po1,o1=Sum.inr po1∧s=⟨[(0,.one (.c (dS x0)))],[]⟩) ?_ ?_
 ·have h0o1:=h
  have h:=ho
  clear ho
  refine ww ?_
  refine bL (fun j s=>∃(o1_0:Int),s=⟨[(0,.one (.c (dS x0))),(3,.one (.c (dI o1_0)))],[]⟩∧F121_l1 x0 j o1_0=some o1) 1099511627776 [] ⟨0,rfl,h⟩ ?_
  rintro j _ ⟨o1_0,rfl,h⟩
  cases j with
  |zero=>cases(show(none:Option _)=some _ from h)
  |succ j=>
   rw[F121_l1]at h
   refine ww ?_
   refine condSh h (fun c2 h=>?_) (fun c2 h=>?_)
   ·refine ww ?_
    obtain⟨y3,hy3,h⟩:=bi h
    refine t_sidx rfl rfl hy3 (ww ?_)
    obtain⟨o4,ho,h⟩:=bi h
    refine cutS (fun s=>s=⟨[(0,.one (.c (dS x0))),(3,.one (.c (dI o1_0))),(4,.one (.c (.d (.v (.int .u8 y3))))),(5,.one (.c (dB o4)))],[]⟩) ?_ ?_
    ·have h:=ho
     clear ho
     refine ww ?_
     refine guardSh h (fun g5 h=>?_) (fun g5 h=>?_)
     ·refine ww ?_
      refine guardSh h (fun g6 h=>?_) (fun g6 h=>?_)
      ·refine ww ?_
       cases h
       exact eM [] rfl
      ·refine ww ?_
       refine guardSh h (fun g7 h=>?_) (fun g7 h=>?_)
       ·refine ww ?_
        cases h
        exact eM [] rfl
       ·refine ww ?_
        cases h
        exact eM [] rfl
     ·refine ww ?_
      refine guardSh h (fun g8 h=>?_) (fun g8 h=>?_)
      ·refine ww ?_
       cases h
       exact eM [] rfl
      ·refine ww ?_
       cases h
       exact eM [] rfl
    ·rintro _ rfl
     clear ho
     refine ww ?_
     obtain⟨o9,ho,h⟩:=bi h
     refine cutS (fun s=>s=⟨[(0,.one (.c (dS x0))),(3,.one (.c (dI o1_0))),(51,.one (.c (dB o9)))],[]⟩) ?_ ?_
     ·have h:=ho
      clear ho
      refine ww ?_
      refine guardSBh h (fun g10 h=>?_) (fun g10 h=>?_)
      ·refine ww ?_
       refine guardSh h (fun g11 h=>?_) (fun g11 h=>?_)
       ·refine ww ?_
        refine guardSh h (fun g12 h=>?_) (fun g12 h=>?_)
        ·refine ww ?_
         refine guardSh h (fun g13 h=>?_) (fun g13 h=>?_)
         ·refine ww ?_
          refine guardSh h (fun g14 h=>?_) (fun g14 h=>?_)
          ·refine ww ?_
           cases h
           exact eM [] rfl
          ·refine ww ?_
           cases h
           exact eM [] rfl
         ·refine ww ?_
          cases h
          exact eM [] rfl
        ·refine ww ?_
         cases h
         exact eM [] rfl
       ·refine ww ?_
        refine guardSh h (fun g15 h=>?_) (fun g15 h=>?_)
        ·refine ww ?_
         refine guardSh h (fun g16 h=>?_) (fun g16 h=>?_)
         ·refine ww ?_
          cases h
          exact eM [] rfl
         ·refine ww ?_
          cases h
          exact eM [] rfl
        ·refine ww ?_
         cases h
         exact eM [] rfl
      ·refine ww ?_
       cases h
       exact eM [] rfl
     ·rintro _ rfl
      clear ho
      refine ww ?_
      refine condBh h (fun c17 h=>?_) (fun c17 h=>?_)
      ·refine ww ?_
       obtain⟨fh0o1,hfh0o1,rfl⟩:=Option.map_eq_some_iff.1 h
       have h:=hfh0o1.trans h0o1
       cases h
       exact eF []
      ·refine ww ?_
       exact eL' j [] ⟨(IntKind.i64.wrap (o1_0+1)),rfl,h⟩ (Nat.lt_succ_self _)
   ·refine ww ?_
    cases h
    exact eM [] ⟨_,rfl,rfl⟩
 rintro _ ⟨po1,rfl,rfl⟩
 clear ho
 dsimp only at h
 refine ww ?_
 obtain⟨o18,ho,h⟩:=bi h
 refine cutS (fun s=>s=⟨[(2,.one (.c (dB o18)))],[]⟩) ?_ ?_
 ·have h:=ho
  clear ho
  refine ww ?_
  refine guardSh h (fun g19 h=>?_) (fun g19 h=>?_)
  ·refine ww ?_
   cases h
   exact eM [] rfl
  refine ww ?_
  cases h
  exact eM [] rfl
 rintro _ rfl
 clear ho
 refine ww ?_
 cases h
 exact eF []
end Go.Proofs.YtbopaemngpbdgaaGreat
