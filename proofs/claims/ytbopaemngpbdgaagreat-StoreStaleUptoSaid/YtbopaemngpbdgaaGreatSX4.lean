/- Each Go function as a function over typed data, and its walk. -/
import Derived.Test.YtbopaemngpbdgaaGreatSX
namespace Go.Proofs.YtbopaemngpbdgaaGreat
open Go Go.Fw Go.Shelf
set_option maxRecDepth 100000
set_option maxHeartbeats 4000000
set_option linter.unusedSimpArgs false
set_option linter.unusedVariables false
def F20:Option (Unit):=some (())
def a20:AFn:=⟨2,[(.cell 0 (some 6))],
 (.seq (.reg [zl 0 (.zbox [dI 0,dI 0,dI 0,dN,dN,dN]) [] []])
 (.seq (.reg [sq 1 (.build [dI 0,dI 0,dI 0,dN,dN,dN] [(2,1,(kI 1))]),
su (.store 6 (.t 0) (.t 1))])
 .ret))⟩
theorem a20_ok:afn Tryz.prog 20=some a20.er:=by kernel_rfl
theorem F20_ok{r}(h:F20=some r):CallD Tryz.prog 20 [] [] (tupV [.agg [dI 0,dI 0,dI 1,dM (([]:List Object).map eObject),dM (([]:List Object).map eObject),dM (([]:List Change).map eChange)]]) []:=by
 refine callS a20_ok (by simp[a20]) ?_
 rw[F20]at h
 simp only[a20,VW.down,Nat.reduceEqDiff,reduceCtorEq,Nat.reduceAdd,Nat.reduceLeDiff,Nat.reduceLT,Nat.reduceBEq,Nat.reduceSub,EE.down]
 cases h
 exact eF []
def F78(x0:ByteArray)(x1:ByteArray)(x2:ByteArray):Option (ByteArray):=(catI x0 ((⟨#[47]⟩:ByteArray))).bind fun s1=>(catI s1 x1).bind fun s2=>(catI s2 ((⟨#[47]⟩:ByteArray))).bind fun s3=>(catI s3 x2).bind fun s4=>some s4
def a78:AFn:=⟨14,[(.tmp 6)],
 (.seq (.reg [sq 6 (.mv (kS ⟨#[]⟩))])
 (.seq (.reg [sq 7 (.mv (.t 0)),
sq 8 (.bin .add (.t 7) (kS ⟨#[47]⟩)),
sq 9 (.mv (.t 1)),
sq 10 (.bin .add (.t 8) (.t 9)),
sq 11 (.bin .add (.t 10) (kS ⟨#[47]⟩)),
sq 12 (.mv (.t 2)),
sq 13 (.bin .add (.t 11) (.t 12)),
sq 6 (.mv (.t 13))])
 .ret))⟩
theorem a78_ok:afn Tryz.prog 78=some a78.er:=by kernel_rfl
theorem F78_ok{x0 x1 x2 r}(h:F78 x0 x1 x2=some r):CallD Tryz.prog 78 [.c (dS x0),.c (dS x1),.c (dS x2)] [] (tupV [.c (dS r)]) []:=by
 refine callS a78_ok (by simp[a78]) ?_
 rw[F78]at h
 simp only[a78,VW.down,Nat.reduceEqDiff,reduceCtorEq,Nat.reduceAdd,Nat.reduceLeDiff,Nat.reduceLT,Nat.reduceBEq,Nat.reduceSub,EE.down]
 obtain⟨s1,hs1,h⟩:=bi h
 obtain⟨hle,es1⟩:=cat_some hs1
 refine⟨hle,?_⟩
 first|rw[←es1]|subst es1
 refine ww ?_
 obtain⟨s2,hs2,h⟩:=bi h
 obtain⟨hle,es2⟩:=cat_some hs2
 refine⟨hle,?_⟩
 first|rw[←es2]|subst es2
 refine ww ?_
 obtain⟨s3,hs3,h⟩:=bi h
 obtain⟨hle,es3⟩:=cat_some hs3
 refine⟨hle,?_⟩
 first|rw[←es3]|subst es3
 refine ww ?_
 obtain⟨s4,hs4,h⟩:=bi h
 obtain⟨hle,es4⟩:=cat_some hs4
 refine⟨hle,?_⟩
 first|rw[←es4]|subst es4
 refine ww ?_
 cases h
 exact eF []
def F144(x0:Int):Option (Bool):=(((if 97≤x0 then(if x0≤122 then some true else(if 48≤x0 then(if x0≤57 then some true else(if x0=45 then some true else(if x0=46 then some true else some (decide (x0=47)))))else(if x0=45 then some true else(if x0=46 then some true else some (decide (x0=47))))))else(if 48≤x0 then(if x0≤57 then some true else(if x0=45 then some true else(if x0=46 then some true else some (decide (x0=47)))))else(if x0=45 then some true else(if x0=46 then some true else some (decide (x0=47))))))).bind fun o1=>some o1)
def a144:AFn:=⟨29,[(.tmp 2)],
 (.seq (.reg [sq 2 (.mv (kB false))])
 (.seq (.sem (.reg [sq 3 (.mv (.t 0)),
sq 4 (.bin .geq (.t 3) (.k (.c (.d (.v (.int .u8 97)))))),
sq 5 (.mv (.t 4)),
zg 6 5 true (.mv (.t 0)),
zg 7 5 true (.bin .leq (.t 6) (.k (.c (.d (.v (.int .u8 122)))))),
sq 8 (.pick (.t 5) (.t 7) (kB false)),
sq 9 (.mv (.t 8)),
zg 10 9 false (.mv (.t 0)),
zg 11 9 false (.bin .geq (.t 10) (.k (.c (.d (.v (.int .u8 48)))))),
zg 12 9 false (.mv (.t 11)),
zg 13 12 true (.mv (.t 0)),
zg 14 12 true (.bin .leq (.t 13) (.k (.c (.d (.v (.int .u8 57)))))),
zg 15 9 false (.pick (.t 12) (.t 14) (kB false)),
sq 16 (.pick (.t 9) (kB true) (.t 15)),
sq 17 (.mv (.t 16)),
zg 18 17 false (.mv (.t 0)),
zg 19 17 false (.bin .eql (.t 18) (.k (.c (.d (.v (.int .u8 45)))))),
sq 20 (.pick (.t 17) (kB true) (.t 19)),
sq 21 (.mv (.t 20)),
zg 22 21 false (.mv (.t 0)),
zg 23 21 false (.bin .eql (.t 22) (.k (.c (.d (.v (.int .u8 46)))))),
sq 24 (.pick (.t 21) (kB true) (.t 23)),
sq 25 (.mv (.t 24)),
zg 26 25 false (.mv (.t 0)),
zg 27 25 false (.bin .eql (.t 26) (.k (.c (.d (.v (.int .u8 47)))))),
sq 28 (.pick (.t 25) (kB true) (.t 27)),
sq 2 (.mv (.t 28))]))
 .ret))⟩
theorem a144_ok:afn Tryz.prog 144=some a144.er:=by kernel_rfl
theorem F144_ok{x0 r}(h:F144 x0=some r):CallD Tryz.prog 144 [.c (.d (.v (.int .u8 x0)))] [] (tupV [.c (dB r)]) []:=by
 refine callS a144_ok (by simp[a144]) ?_
 rw[F144]at h
 simp only[a144,VW.down,Nat.reduceEqDiff,reduceCtorEq,Nat.reduceAdd,Nat.reduceLeDiff,Nat.reduceLT,Nat.reduceBEq,Nat.reduceSub,EE.down]
 obtain⟨o1,ho,h⟩:=bi h
 refine cutS (fun s=>s=⟨[(2,.one (.c (dB o1)))],[]⟩) ?_ ?_
 ·have h:=ho
  clear ho
  refine ww ?_
  refine guardSh h (fun g2 h=>?_) (fun g2 h=>?_)
  ·refine ww ?_
   refine guardSh h (fun g3 h=>?_) (fun g3 h=>?_)
   ·refine ww ?_
    cases h
    exact eM [] rfl
   refine ww ?_
   refine guardSh h (fun g4 h=>?_) (fun g4 h=>?_)
   ·refine ww ?_
    refine guardSh h (fun g5 h=>?_) (fun g5 h=>?_)
    ·refine ww ?_
     cases h
     exact eM [] rfl
    refine ww ?_
    refine guardSh h (fun g6 h=>?_) (fun g6 h=>?_)
    ·refine ww ?_
     cases h
     exact eM [] rfl
    refine ww ?_
    refine guardSh h (fun g7 h=>?_) (fun g7 h=>?_)
    ·refine ww ?_
     cases h
     exact eM [] rfl
    refine ww ?_
    cases h
    exact eM [] rfl
   refine ww ?_
   refine guardSh h (fun g8 h=>?_) (fun g8 h=>?_)
   ·refine ww ?_
    cases h
    exact eM [] rfl
   refine ww ?_
   refine guardSh h (fun g9 h=>?_) (fun g9 h=>?_)
   ·refine ww ?_
    cases h
    exact eM [] rfl
   refine ww ?_
   cases h
   exact eM [] rfl
  refine ww ?_
  refine guardSh h (fun g10 h=>?_) (fun g10 h=>?_)
  ·refine ww ?_
   refine guardSh h (fun g11 h=>?_) (fun g11 h=>?_)
   ·refine ww ?_
    cases h
    exact eM [] rfl
   refine ww ?_
   refine guardSh h (fun g12 h=>?_) (fun g12 h=>?_)
   ·refine ww ?_
    cases h
    exact eM [] rfl
   refine ww ?_
   refine guardSh h (fun g13 h=>?_) (fun g13 h=>?_)
   ·refine ww ?_
    cases h
    exact eM [] rfl
   refine ww ?_
   cases h
   exact eM [] rfl
  refine ww ?_
  refine guardSh h (fun g14 h=>?_) (fun g14 h=>?_)
  ·refine ww ?_
   cases h
   exact eM [] rfl
  refine ww ?_
  refine guardSh h (fun g15 h=>?_) (fun g15 h=>?_)
  ·refine ww ?_
   cases h
   exact eM [] rfl
  refine ww ?_
  cases h
  exact eM [] rfl
 rintro _ rfl
 clear ho
 refine ww ?_
 cases h
 exact eF []
def F145_l1(x0:ByteArray):Nat→Int→Option ((Bool) ⊕ (Unit))
 |0,_=>none
 |k+1,o1_0=>(if o1_0<(x0.size:Int)then(((byI x0 o1_0).bind fun y4=>(if¬(y4=10)then(byI x0 o1_0).bind fun y6=>(if y6<32 then some true else(byI x0 o1_0).bind fun y8=>some (decide (126<y8)))else some false)).bind fun o3=>(if o3=true then(some false).map Sum.inl else F145_l1 x0 k ((IntKind.i64.wrap (o1_0+1)))))else some (Sum.inr (())))
def F145(x0:ByteArray):Option (Bool):=((F145_l1 x0 1099511627776 0:Option ((Bool) ⊕ (Unit))).bind fun o1=>match o1 with|Sum.inl f=>some f|Sum.inr po1=>some (decide ((x0.size:Int)≤200)))
def a145:AFn:=⟨29,[(.tmp 2)],
 (.seq (.reg [sq 2 (.mv (kB false))])
 (.seq (.seq (.reg [sq 4 (.mv (.t 0)),
sq 5 (.slen (.t 4)),
sq 6 (.mv (kI 0))])
 (.sem (.block 0 (.loop (.seq (.reg [sq 7 (.bin .lss (.t 6) (.t 5))])
 (.seq (.cond (.t 7)
 .skip
 (.exit 0))
 (.seq (.block 1 (.seq (.reg [sq 8 (.mv (.t 6)),
sq 3 (.mv (.t 8))])
 (.seq (.sem (.reg [sq 9 (.mv (.t 0)),
sq 10 (.mv (.t 3)),
sq 11 (.sidx (.t 9) (.t 10)),
sq 12 (.bin .neq (.t 11) (.k (.c (.d (.v (.int .u8 10)))))),
sq 13 (.mv (.t 12)),
zg 14 13 true (.mv (.t 0)),
zg 15 13 true (.mv (.t 3)),
zg 16 13 true (.sidx (.t 14) (.t 15)),
zg 17 13 true (.bin .lss (.t 16) (.k (.c (.d (.v (.int .u8 32)))))),
zg 18 13 true (.mv (.t 17)),
zg 19 18 false (.mv (.t 0)),
zg 20 18 false (.mv (.t 3)),
zg 21 18 false (.sidx (.t 19) (.t 20)),
zg 22 18 false (.bin .gtr (.t 21) (.k (.c (.d (.v (.int .u8 126)))))),
zg 23 13 true (.pick (.t 18) (kB true) (.t 22)),
sq 24 (.pick (.t 13) (.t 23) (kB false))]))
 (.cond (.t 24)
 (.seq (.reg [sq 2 (.mv (kB false))])
 .ret)
 .skip))))
 (.reg [sq 25 (.bin .add (.t 6) (kI 1)),
sq 6 (.mv (.t 25))]))))))))
 (.seq (.reg [sq 26 (.mv (.t 0)),
sq 27 (.slen (.t 26)),
sq 28 (.bin .leq (.t 27) (kI 200)),
sq 2 (.mv (.t 28))])
 .ret)))⟩
theorem a145_ok:afn Tryz.prog 145=some a145.er:=by kernel_rfl
theorem F145_ok{x0 r}(h:F145 x0=some r):CallD Tryz.prog 145 [.c (dS x0)] [] (tupV [.c (dB r)]) []:=by
 refine callS a145_ok (by simp[a145]) ?_
 rw[F145]at h
 simp only[a145,VW.down,Nat.reduceEqDiff,reduceCtorEq,Nat.reduceAdd,Nat.reduceLeDiff,Nat.reduceLT,Nat.reduceBEq,Nat.reduceSub,EE.down]
 obtain⟨o1,ho,h⟩:=bi h
 refine cutS (fun s=>∃po1,o1=Sum.inr po1∧s=⟨[(0,.one (.c (dS x0)))],[]⟩) ?_ ?_
 ·have h0o1:=h
  have h:=ho
  clear ho
  refine ww ?_
  refine bL (fun j s=>∃(o1_0:Int),s=⟨[(0,.one (.c (dS x0))),(5,.one (.c (dI ((x0.size:Int))))),(6,.one (.c (dI o1_0)))],[]⟩∧F145_l1 x0 j o1_0=some o1) 1099511627776 [] ⟨0,rfl,h⟩ ?_
  rintro j _ ⟨o1_0,rfl,h⟩
  cases j with
  |zero=>cases(show(none:Option _)=some _ from h)
  |succ j=>
   rw[F145_l1]at h
   refine ww ?_
   refine condSh h (fun c2 h=>?_) (fun c2 h=>?_)
   ·refine ww ?_
    obtain⟨o3,ho,h⟩:=bi h
    refine cutS (fun s=>s=⟨[(0,.one (.c (dS x0))),(5,.one (.c (dI ((x0.size:Int))))),(6,.one (.c (dI o1_0))),(24,.one (.c (dB o3)))],[]⟩) ?_ ?_
    ·have h:=ho
     clear ho
     refine ww ?_
     obtain⟨y4,hy4,h⟩:=bi h
     refine t_sidx rfl rfl hy4 (ww ?_)
     refine guardSh h (fun g5 h=>?_) (fun g5 h=>?_)
     ·refine ww ?_
      obtain⟨y6,hy6,h⟩:=bi h
      refine t_sidx rfl rfl hy6 (ww ?_)
      refine guardSh h (fun g7 h=>?_) (fun g7 h=>?_)
      ·refine ww ?_
       cases h
       exact eM [] rfl
      ·refine ww ?_
       obtain⟨y8,hy8,h⟩:=bi h
       refine t_sidx rfl rfl hy8 (ww ?_)
       cases h
       exact eM [] rfl
     ·refine ww ?_
      cases h
      exact eM [] rfl
    ·rintro _ rfl
     clear ho
     refine ww ?_
     refine condBh h (fun c9 h=>?_) (fun c9 h=>?_)
     ·refine ww ?_
      obtain⟨fh0o1,hfh0o1,rfl⟩:=Option.map_eq_some_iff.1 h
      have h:=hfh0o1.trans h0o1
      cases h
      exact eF []
     ·refine ww ?_
      exact eL' j [] ⟨(IntKind.i64.wrap (o1_0+1)),rfl,h⟩ (Nat.lt_succ_self _)
   ·refine ww ?_
    cases h
    exact eM [] ⟨_,rfl,rfl⟩
 rintro _ ⟨po1,rfl,rfl⟩
 clear ho
 dsimp only at h
 refine ww ?_
 cases h
 exact eF []
def F111_l1(rc29:TValue→Option (Int)):List TValue→Nat→Int→Option (Int)
 |[],o1_1,o1_0=>some o1_0
 |xo1::xs,o1_1,o1_0=>(rc29 xo1).bind fun t3=>F111_l1 rc29 xs (o1_1+1) ((IntKind.i64.wrap (o1_0+t3)))
def F111_l5(rc29:TValue→Option (Int)):List TField→Nat→Int→Option (Int)
 |[],o5_1,o5_0=>some o5_0
 |xo5::xs,o5_1,o5_0=>(rc29 xo5.V).bind fun t7=>F111_l5 rc29 xs (o5_1+1) ((IntKind.i64.wrap (o5_0+t7)))
def F111(rc29:TValue→Option (Int))(x0:TValue):Option (Int):=(((ck (0≤x0.List_.length∧x0.List_.length≤4294967290)).bind fun u4=>F111_l1 rc29 x0.List_ 0 1).bind fun o1=>(((ck (0≤x0.Fields.length∧x0.Fields.length≤4294967290)).bind fun u8=>F111_l5 rc29 x0.Fields 0 o1).bind fun o5=>some o5))
def a111:AFn:=⟨34,[(.tmp 2)],
 (.seq (.reg [sq 1 (.box (.t 0)),
sq 2 (.mv (kI 0))])
 (.seq (.reg [sq 3 (.mv (kI 1))])
 (.seq (.seq (.reg [sq 8 (.fieldA 3 (.t 1)),
sq 9 (.load none (.t 8)),
sq 10 (.len (.t 9)),
sq 11 (.mv (kI 0))])
 (.sem (.block 0 (.loop (.seq (.reg [sq 12 (.bin .lss (.t 11) (.t 10))])
 (.seq (.cond (.t 12)
 .skip
 (.exit 0))
 (.seq (.block 1 (.seq (.reg [sq 13 (.indexA 5 (.t 9) (.t 11)),
sq 14 (.load (some 5) (.t 13)),
sq 5 (.zbox [dI 0,dI 0,dS ⟨#[]⟩,dN,dN]),
su (.store 5 (.t 5) (.t 14))])
 (.reg [sq 15 (.mv (.t 3)),
sq 16 (.load (some 5) (.t 5)),
sq 17 (.call 111 [(.t 16)]),
sq 18 (.bin .add (.t 15) (.t 17)),
sq 3 (.mv (.t 18))])))
 (.reg [sq 19 (.bin .add (.t 11) (kI 1)),
sq 11 (.mv (.t 19))]))))))))
 (.seq (.seq (.reg [sq 20 (.fieldA 4 (.t 1)),
sq 21 (.load none (.t 20)),
sq 22 (.len (.t 21)),
sq 23 (.mv (kI 0))])
 (.sem (.block 2 (.loop (.seq (.reg [sq 24 (.bin .lss (.t 23) (.t 22))])
 (.seq (.cond (.t 24)
 .skip
 (.exit 2))
 (.seq (.block 3 (.seq (.reg [sq 25 (.indexA 6 (.t 21) (.t 23)),
sq 26 (.load (some 6) (.t 25)),
sq 7 (.zbox [dS ⟨#[]⟩,dI 0,dI 0,dS ⟨#[]⟩,dN,dN]),
su (.store 6 (.t 7) (.t 26))])
 (.reg [sq 27 (.mv (.t 3)),
sq 28 (.fieldA 1 (.t 7)),
sq 29 (.load (some 5) (.t 28)),
sq 30 (.call 111 [(.t 29)]),
sq 31 (.bin .add (.t 27) (.t 30)),
sq 3 (.mv (.t 31))])))
 (.reg [sq 32 (.bin .add (.t 23) (kI 1)),
sq 23 (.mv (.t 32))]))))))))
 (.seq (.reg [sq 33 (.mv (.t 3)),
sq 2 (.mv (.t 33))])
 .ret)))))⟩
theorem a111_ok:afn Tryz.prog 111=some a111.er:=by kernel_rfl
theorem F111_ok{rc29:TValue→Option (Int)}(ih29:∀{x0:TValue} {r:Int} (h:rc29 x0=some r),CallD Tryz.prog 111 [.agg [dI x0.Kind,dI x0.N,dS x0.S,dM (x0.List_.map eTValue),dM (x0.Fields.map eTField)]] [] (tupV [.c (dI r)]) []){x0:TValue}{r:Int}(h:F111 rc29 x0=some r):CallD Tryz.prog 111 [.agg [dI x0.Kind,dI x0.N,dS x0.S,dM (x0.List_.map eTValue),dM (x0.Fields.map eTField)]] [] (tupV [.c (dI r)]) []:=by
 refine callS a111_ok (by simp[a111]) ?_
 rw[F111]at h
 simp only[a111,VW.down,Nat.reduceEqDiff,reduceCtorEq,Nat.reduceAdd,Nat.reduceLeDiff,Nat.reduceLT,Nat.reduceBEq,Nat.reduceSub,EE.down]
 obtain⟨o1,ho,h⟩:=bi h
 refine cutS (fun s=>s=⟨[(1,.one (.c (.pt 0 0))),(3,.one (.c (dI o1)))],[some (.box [dI x0.Kind,dI x0.N,dS x0.S,dM (x0.List_.map eTValue),dM (x0.Fields.map eTField)])]⟩) ?_ ?_
 ·have h:=ho
  clear ho
  obtain⟨_,hk,h⟩:=bi h
  have hk:=ck_some hk
  refine ww ?_
  refine bL (fun j s=>∃(o1_1:Nat) (o1_0:Int),(o1_1≤x0.List_.length∧j=x0.List_.length-o1_1)∧s=⟨[(1,.one (.c (.pt 0 0))),(3,.one (.c (dI o1_0))),(9,.one (.c (dM (x0.List_.map eTValue)))),(10,.one (.c (dI ((x0.List_.length:Int))))),(11,.one (.c (dI ((o1_1:Int)))))],[some (.box [dI x0.Kind,dI x0.N,dS x0.S,dM (x0.List_.map eTValue),dM (x0.Fields.map eTField)])]⟩∧F111_l1 rc29 (x0.List_.drop o1_1) o1_1 o1_0=some o1) (x0.List_.length-0) [some 0] ⟨0,1,⟨hk.1,rfl⟩,rfl,h⟩ ?_
  rintro _ _ ⟨o1_1,o1_0,⟨hi,rfl⟩,rfl,h⟩
  refine ww ?_
  refine condS (fun c2=>?_) (fun c2=>?_)
  ·obtain⟨xo1,hxo1,hd⟩:=countY (show(o1_1:Int)<(x0.List_.length:Int)from c2)
   rw[hd,F111_l1]at h
   refine ww ?_
   refine t_idxF (enc:=eTValue) (xs:=x0.List_) rfl rfl hxo1 (by rw[eTValue_u];rfl) (ww ?_)
   obtain⟨t3,ht3,h⟩:=bi h
   refine cN [] (ih29 ht3) trivial (ww ?_)
   rw[wrapN (by omega)]
   exact eL' (x0.List_.length-(o1_1+1)) [some 0] ⟨o1_1+1,(IntKind.i64.wrap (o1_0+t3)),⟨by omega,rfl⟩,rfl,h⟩ (by omega)
  rw[countN (show¬((o1_1:Int)<(x0.List_.length:Int))from c2),F111_l1]at h
  refine ww ?_
  cases h
  exact eM [some 0] rfl
 rintro _ rfl
 clear ho
 refine ww ?_
 obtain⟨o5,ho,h⟩:=bi h
 refine cutS (fun s=>s=⟨[(3,.one (.c (dI o5)))],[]⟩) ?_ ?_
 ·have h:=ho
  clear ho
  obtain⟨_,hk,h⟩:=bi h
  have hk:=ck_some hk
  refine ww ?_
  refine bL (fun j s=>∃(o5_1:Nat) (o5_0:Int),(o5_1≤x0.Fields.length∧j=x0.Fields.length-o5_1)∧s=⟨[(3,.one (.c (dI o5_0))),(21,.one (.c (dM (x0.Fields.map eTField)))),(22,.one (.c (dI ((x0.Fields.length:Int))))),(23,.one (.c (dI ((o5_1:Int)))))],[]⟩∧F111_l5 rc29 (x0.Fields.drop o5_1) o5_1 o5_0=some o5) (x0.Fields.length-0) [] ⟨0,o1,⟨hk.1,rfl⟩,rfl,h⟩ ?_
  rintro _ _ ⟨o5_1,o5_0,⟨hi,rfl⟩,rfl,h⟩
  refine ww ?_
  refine condS (fun c6=>?_) (fun c6=>?_)
  ·obtain⟨xo5,hxo5,hd⟩:=countY (show(o5_1:Int)<(x0.Fields.length:Int)from c6)
   rw[hd,F111_l5]at h
   refine ww ?_
   refine t_idxF (enc:=eTField) (xs:=x0.Fields) rfl rfl hxo5 (by rw[eTField_u];rfl) (ww ?_)
   obtain⟨t7,ht7,h⟩:=bi h
   refine cN [] (ih29 ht7) trivial (ww ?_)
   rw[wrapN (by omega)]
   exact eL' (x0.Fields.length-(o5_1+1)) [] ⟨o5_1+1,(IntKind.i64.wrap (o5_0+t7)),⟨by omega,rfl⟩,rfl,h⟩ (by omega)
  rw[countN (show¬((o5_1:Int)<(x0.Fields.length:Int))from c6),F111_l5]at h
  refine ww ?_
  cases h
  exact eM [] rfl
 rintro _ rfl
 clear ho
 refine ww ?_
 cases h
 exact eF []
def F111k:Nat→TValue→Option (Int)
 |0=>fun _=>none
 |k+1=>F111 (F111k k)
theorem F111k_ok(k:Nat){x0:TValue}{r:Int}(h:F111k k x0=some r):CallD Tryz.prog 111 [.agg [dI x0.Kind,dI x0.N,dS x0.S,dM (x0.List_.map eTValue),dM (x0.Fields.map eTField)]] [] (tupV [.c (dI r)]) []:=by
 induction k generalizing x0 r with
 |zero=>cases(show(none:Option (Int))=some _ from h)
 |succ k ih=>exact F111_ok (fun h=>ih h) h
theorem a51_ok:afn Tryz.prog 51=some (cloneA 23 352):=by kernel_rfl
theorem F51_ok{x0 r:List Object}(h:cloneI x0=some r):CallD Tryz.prog 51 [.c (dM (x0.map eObject))] [] (tupV [.c (.own 0 1 0 r.length none)]) [some (.arr 1 23 (r.map eObject))]:=L_clone a51_ok (fun _=>rfl) h
noncomputable def fn122:Func:=(Tryz.prog.funcs[122]?).getD default
theorem fn122_ok:Tryz.prog.funcs[122]? =some fn122:=by kernel_rfl
theorem ov122(e0 e1 o0 o1 l0 l1:Nat)(c0 c1:Option Nat)(r0 r1:List (List D)):
  CallD Tryz.prog 122 [.c (.own 0 e0 o0 l0 c0),.c (.own 1 e1 o1 l1 c1)] [some (.arr e0 23 r0),some (.arr e1 23 r1)] (.one (aB false)) [some (.arr e0 23 r0),some (.arr e1 23 r1)]:=
 ovl_callD (tS:=38) (tT:=4) (e:=34) (ps:= #[38,38]) (rs:= #[4]) fn122_ok (by kernel_rfl) (by kernel_rfl) (by kernel_rfl) (by kernel_rfl) rfl rfl (by kernel_rfl) (by kernel_rfl) e0 e1 o0 o1 l0 l1 c0 c1 r0 r1
def F121_l1(x0:ByteArray):Nat→Int→Option ((Bool) ⊕ (Unit))
 |0,_=>none
 |k+1,o1_0=>(if o1_0<(x0.size:Int)then(byI x0 o1_0).bind fun y3=>(((if 97≤y3 then(if y3≤122 then some true else(if 65≤y3 then some (decide (y3≤90))else some false))else(if 65≤y3 then some (decide (y3≤90))else some false))).bind fun o4=>(((if(nb o4)=true then(if 48≤y3 then(if¬(y3≤57)then(if¬(y3=45)then(if¬(y3=95)then some (decide (¬(y3=47)))else some false)else some false)else some false)else(if¬(y3=45)then(if¬(y3=95)then some (decide (¬(y3=47)))else some false)else some false))else some false)).bind fun o9=>(if o9=true then(some false).map Sum.inl else F121_l1 x0 k ((IntKind.i64.wrap (o1_0+1))))))else some (Sum.inr (())))
def F121(x0:ByteArray):Option (Bool):=((F121_l1 x0 1099511627776 0:Option ((Bool) ⊕ (Unit))).bind fun o1=>match o1 with|Sum.inl f=>some f|Sum.inr po1=>(((if 1≤(x0.size:Int)then some (decide ((x0.size:Int)≤40))else some false)).bind fun o18=>some o18))
def a121:AFn:=⟨60,[(.tmp 2)],
 (.seq (.reg [sq 2 (.mv (kB false))])
 (.seq (.seq (.reg [sq 3 (.mv (kI 0))])
 (.sem (.block 0 (.loop (.seq (.seq (.reg [sq 6 (.mv (.t 3)),
sq 7 (.mv (.t 0)),
sq 8 (.slen (.t 7)),
sq 9 (.bin .lss (.t 6) (.t 8))])
 (.cond (.t 9)
 .skip
 (.exit 0)))
 (.seq (.block 1 (.seq (.reg [sq 12 (.mv (.t 0)),
sq 13 (.mv (.t 3)),
sq 14 (.sidx (.t 12) (.t 13)),
sq 4 (.mv (.t 14))])
 (.seq (.sem (.reg [sq 15 (.mv (.t 4)),
sq 16 (.bin .geq (.t 15) (.k (.c (.d (.v (.int .u8 97)))))),
sq 17 (.mv (.t 16)),
zg 18 17 true (.mv (.t 4)),
zg 19 17 true (.bin .leq (.t 18) (.k (.c (.d (.v (.int .u8 122)))))),
sq 20 (.pick (.t 17) (.t 19) (kB false)),
sq 21 (.mv (.t 20)),
zg 22 21 false (.mv (.t 4)),
zg 23 21 false (.bin .geq (.t 22) (.k (.c (.d (.v (.int .u8 65)))))),
zg 24 21 false (.mv (.t 23)),
zg 25 24 true (.mv (.t 4)),
zg 26 24 true (.bin .leq (.t 25) (.k (.c (.d (.v (.int .u8 90)))))),
zg 27 21 false (.pick (.t 24) (.t 26) (kB false)),
sq 28 (.pick (.t 21) (kB true) (.t 27)),
sq 5 (.mv (.t 28))]))
 (.seq (.sem (.reg [sq 29 (.mv (.t 5)),
sq 30 (.not (.t 29)),
sq 31 (.mv (.t 30)),
zg 32 31 true (.mv (.t 4)),
zg 33 31 true (.bin .geq (.t 32) (.k (.c (.d (.v (.int .u8 48)))))),
zg 34 31 true (.mv (.t 33)),
zg 35 34 true (.mv (.t 4)),
zg 36 34 true (.bin .leq (.t 35) (.k (.c (.d (.v (.int .u8 57)))))),
zg 37 31 true (.pick (.t 34) (.t 36) (kB false)),
zg 38 31 true (.not (.t 37)),
sq 39 (.pick (.t 31) (.t 38) (kB false)),
sq 40 (.mv (.t 39)),
zg 41 40 true (.mv (.t 4)),
zg 42 40 true (.bin .neq (.t 41) (.k (.c (.d (.v (.int .u8 45)))))),
sq 43 (.pick (.t 40) (.t 42) (kB false)),
sq 44 (.mv (.t 43)),
zg 45 44 true (.mv (.t 4)),
zg 46 44 true (.bin .neq (.t 45) (.k (.c (.d (.v (.int .u8 95)))))),
sq 47 (.pick (.t 44) (.t 46) (kB false)),
sq 48 (.mv (.t 47)),
zg 49 48 true (.mv (.t 4)),
zg 50 48 true (.bin .neq (.t 49) (.k (.c (.d (.v (.int .u8 47)))))),
sq 51 (.pick (.t 48) (.t 50) (kB false))]))
 (.cond (.t 51)
 (.seq (.reg [sq 2 (.mv (kB false))])
 .ret)
 .skip)))))
 (.reg [sq 10 (.mv (.t 3)),
sq 11 (.bin .add (.t 10) (kI 1)),
sq 3 (.mv (.t 11))])))))))
 (.seq (.sem (.reg [sq 52 (.mv (.t 0)),
sq 53 (.slen (.t 52)),
sq 54 (.bin .geq (.t 53) (kI 1)),
sq 55 (.mv (.t 54)),
zg 56 55 true (.mv (.t 0)),
zg 57 55 true (.slen (.t 56)),
zg 58 55 true (.bin .leq (.t 57) (kI 40)),
sq 59 (.pick (.t 55) (.t 58) (kB false)),
sq 2 (.mv (.t 59))]))
 .ret)))⟩
theorem a121_ok:afn Tryz.prog 121=some a121.er:=by kernel_rfl
theorem F121_ok{x0 r}(h:F121 x0=some r):CallD Tryz.prog 121 [.c (dS x0)] [] (tupV [.c (dB r)]) []:=by
 refine callS a121_ok (by simp[a121]) ?_
 rw[F121]at h
 simp only[a121,VW.down,Nat.reduceEqDiff,reduceCtorEq,Nat.reduceAdd,Nat.reduceLeDiff,Nat.reduceLT,Nat.reduceBEq,Nat.reduceSub,EE.down]
 obtain⟨o1,ho,h⟩:=bi h
 refine cutS (fun s=>∃po1,o1=Sum.inr po1∧s=⟨[(0,.one (.c (dS x0)))],[]⟩) ?_ ?_
 ·have h0o1:=h
  have h:=ho
  clear ho
  refine ww ?_
  refine bL (fun j s=>∃(o1_0:Int),s=⟨[(0,.one (.c (dS x0))),(3,.one (.c (dI o1_0)))],[]⟩∧F121_l1 x0 j o1_0=some o1) 1099511627776 [] ⟨0,rfl,h⟩ ?_
  rintro j _ ⟨o1_0,rfl,h⟩
  cases j with
  |zero=>cases(show(none:Option _)=some _ from h)
  |succ j=>
   rw[F121_l1]at h
   refine ww ?_
   refine condSh h (fun c2 h=>?_) (fun c2 h=>?_)
   ·refine ww ?_
    obtain⟨y3,hy3,h⟩:=bi h
    refine t_sidx rfl rfl hy3 (ww ?_)
    obtain⟨o4,ho,h⟩:=bi h
    refine cutS (fun s=>s=⟨[(0,.one (.c (dS x0))),(3,.one (.c (dI o1_0))),(4,.one (.c (.d (.v (.int .u8 y3))))),(5,.one (.c (dB o4)))],[]⟩) ?_ ?_
    ·have h:=ho
     clear ho
     refine ww ?_
     refine guardSh h (fun g5 h=>?_) (fun g5 h=>?_)
     ·refine ww ?_
      refine guardSh h (fun g6 h=>?_) (fun g6 h=>?_)
      ·refine ww ?_
       cases h
       exact eM [] rfl
      ·refine ww ?_
       refine guardSh h (fun g7 h=>?_) (fun g7 h=>?_)
       ·refine ww ?_
        cases h
        exact eM [] rfl
       ·refine ww ?_
        cases h
        exact eM [] rfl
     ·refine ww ?_
      refine guardSh h (fun g8 h=>?_) (fun g8 h=>?_)
      ·refine ww ?_
       cases h
       exact eM [] rfl
      ·refine ww ?_
       cases h
       exact eM [] rfl
    ·rintro _ rfl
     clear ho
     refine ww ?_
     obtain⟨o9,ho,h⟩:=bi h
     refine cutS (fun s=>s=⟨[(0,.one (.c (dS x0))),(3,.one (.c (dI o1_0))),(51,.one (.c (dB o9)))],[]⟩) ?_ ?_
     ·have h:=ho
      clear ho
      refine ww ?_
      refine guardSBh h (fun g10 h=>?_) (fun g10 h=>?_)
      ·refine ww ?_
       refine guardSh h (fun g11 h=>?_) (fun g11 h=>?_)
       ·refine ww ?_
        refine guardSh h (fun g12 h=>?_) (fun g12 h=>?_)
        ·refine ww ?_
         refine guardSh h (fun g13 h=>?_) (fun g13 h=>?_)
         ·refine ww ?_
          refine guardSh h (fun g14 h=>?_) (fun g14 h=>?_)
          ·refine ww ?_
           cases h
           exact eM [] rfl
          ·refine ww ?_
           cases h
           exact eM [] rfl
         ·refine ww ?_
          cases h
          exact eM [] rfl
        ·refine ww ?_
         cases h
         exact eM [] rfl
       ·refine ww ?_
        refine guardSh h (fun g15 h=>?_) (fun g15 h=>?_)
        ·refine ww ?_
         refine guardSh h (fun g16 h=>?_) (fun g16 h=>?_)
         ·refine ww ?_
          cases h
          exact eM [] rfl
         ·refine ww ?_
          cases h
          exact eM [] rfl
        ·refine ww ?_
         cases h
         exact eM [] rfl
      ·refine ww ?_
       cases h
       exact eM [] rfl
     ·rintro _ rfl
      clear ho
      refine ww ?_
      refine condBh h (fun c17 h=>?_) (fun c17 h=>?_)
      ·refine ww ?_
       obtain⟨fh0o1,hfh0o1,rfl⟩:=Option.map_eq_some_iff.1 h
       have h:=hfh0o1.trans h0o1
       cases h
       exact eF []
      ·refine ww ?_
       exact eL' j [] ⟨(IntKind.i64.wrap (o1_0+1)),rfl,h⟩ (Nat.lt_succ_self _)
   ·refine ww ?_
    cases h
    exact eM [] ⟨_,rfl,rfl⟩
 rintro _ ⟨po1,rfl,rfl⟩
 clear ho
 dsimp only at h
 refine ww ?_
 obtain⟨o18,ho,h⟩:=bi h
 refine cutS (fun s=>s=⟨[(2,.one (.c (dB o18)))],[]⟩) ?_ ?_
 ·have h:=ho
  clear ho
  refine ww ?_
  refine guardSh h (fun g19 h=>?_) (fun g19 h=>?_)
  ·refine ww ?_
   cases h
   exact eM [] rfl
  refine ww ?_
  cases h
  exact eM [] rfl
 rintro _ rfl
 clear ho
 refine ww ?_
 cases h
 exact eF []
def F97_l2(x1:(List ByteArray)):List ByteArray→Nat→Option ((Bool) ⊕ (Unit))
 |[],o2_0=>some (Sum.inr (()))
 |xo2::xs,o2_0=>(rdI x1 ((o2_0:Int))).bind fun y4=>(if¬(xo2=y4)then(some false).map Sum.inl else F97_l2 x1 xs (o2_0+1))
def F97(x0:(List ByteArray))(x1:(List ByteArray)):Option (Bool):=(if¬((x0.length:Int)=(x1.length:Int))then some false else(((ck (0≤x0.length∧x0.length≤4294967290)).bind fun u6=>F97_l2 x1 x0 0:Option ((Bool) ⊕ (Unit))).bind fun o2=>match o2 with|Sum.inl f=>some f|Sum.inr po2=>some true))
def a97:AFn:=⟨26,[(.tmp 4)],
 (.seq (.reg [sq 4 (.mv (kB false))])
 (.seq (.seq (.reg [sq 6 (.mv (.t 0)),
sq 7 (.len (.t 6)),
sq 8 (.mv (.t 1)),
sq 9 (.len (.t 8)),
sq 10 (.bin .neq (.t 7) (.t 9))])
 (.cond (.t 10)
 (.seq (.reg [sq 4 (.mv (kB false))])
 .ret)
 .skip))
 (.seq (.seq (.reg [sq 5 (.mv (kI 0))])
 (.sem (.block 0 (.loop (.seq (.seq (.reg [sq 11 (.mv (.t 5)),
sq 12 (.mv (.t 0)),
sq 13 (.len (.t 12)),
sq 14 (.bin .lss (.t 11) (.t 13))])
 (.cond (.t 14)
 .skip
 (.exit 0)))
 (.seq (.block 1 (.seq (.regd [sq 17 (.mv (.t 0)),
sq 18 (.mv (.t 5)),
sd 19 (.indexA 1 (.t 17) (.t 18)) [0,1],
sd 20 (.load none (.t 19)) [0,1,2],
sq 21 (.mv (.t 1)),
sq 22 (.mv (.t 5)),
sd 23 (.indexA 1 (.t 21) (.t 22)) [4,5],
sd 24 (.load none (.t 23)) [4,5,6],
sd 25 (.bin .neq (.t 20) (.t 24)) [0,1,2,3,4,5,6,7]])
 (.cond (.t 25)
 (.seq (.reg [sq 4 (.mv (kB false))])
 .ret)
 .skip)))
 (.reg [sq 15 (.mv (.t 5)),
sq 16 (.bin .add (.t 15) (kI 1)),
sq 5 (.mv (.t 16))])))))))
 (.seq (.reg [sq 4 (.mv (kB true))])
 .ret))))⟩
theorem a97_ok:afn Tryz.prog 97=some a97.er:=by kernel_rfl
theorem F97_ok{x0 x1 r}(h:F97 x0 x1=some r):CallD Tryz.prog 97 [.c (dM (x0.map eS)),.c (dM (x1.map eS))] [] (tupV [.c (dB r)]) []:=by
 refine callS a97_ok (by simp[a97]) ?_
 rw[F97]at h
 simp only[a97,VW.down,Nat.reduceEqDiff,reduceCtorEq,Nat.reduceAdd,Nat.reduceLeDiff,Nat.reduceLT,Nat.reduceBEq,Nat.reduceSub,EE.down]
 refine condSh h (fun c1 h=>?_) (fun c1 h=>?_)
 ·refine ww ?_
  cases h
  exact eF []
 refine ww ?_
 obtain⟨o2,ho,h⟩:=bi h
 refine cutS (fun s=>∃po2,o2=Sum.inr po2∧s=⟨[],[]⟩) ?_ ?_
 ·have h0o2:=h
  have h:=ho
  clear ho
  obtain⟨_,hk,h⟩:=bi h
  have hk:=ck_some hk
  refine ww ?_
  refine bL (fun j s=>∃(o2_0:Nat),(o2_0≤x0.length∧j=x0.length-o2_0)∧s=⟨[(0,.one (.c (dM (x0.map eS)))),(1,.one (.c (dM (x1.map eS)))),(5,.one (.c (dI ((o2_0:Int)))))],[]⟩∧F97_l2 x1 (x0.drop o2_0) o2_0=some o2) (x0.length-0) [] ⟨0,⟨hk.1,rfl⟩,rfl,h⟩ ?_
  rintro _ _ ⟨o2_0,⟨hi,rfl⟩,rfl,h⟩
  refine ww ?_
  refine condS (fun c3=>?_) (fun c3=>?_)
  ·obtain⟨xo2,hxo2,hd⟩:=countY (show(o2_0:Int)<(x0.length:Int)from c3)
   rw[hd,F97_l2]at h
   refine ww ?_
   refine t_idxF (enc:=eS) (xs:=x0) rfl rfl hxo2 rfl (ww ?_)
   obtain⟨y4,hy4,h⟩:=bi h
   refine t_idxF (enc:=eS) (xs:=x1) rfl rfl hy4 rfl (ww ?_)
   refine condSh h (fun c5 h=>?_) (fun c5 h=>?_)
   ·refine ww ?_
    obtain⟨fh0o2,hfh0o2,rfl⟩:=Option.map_eq_some_iff.1 h
    have h:=hfh0o2.trans h0o2
    cases h
    exact eF []
   refine ww ?_
   rw[wrapN (by omega)]
   exact eL' (x0.length-(o2_0+1)) [] ⟨o2_0+1,⟨by omega,rfl⟩,rfl,h⟩ (by omega)
  rw[countN (show¬((o2_0:Int)<(x0.length:Int))from c3),F97_l2]at h
  refine ww ?_
  cases h
  exact eM [] ⟨_,rfl,rfl⟩
 rintro _ ⟨po2,rfl,rfl⟩
 clear ho
 dsimp only at h
 refine ww ?_
 cases h
 exact eF []
end Go.Proofs.YtbopaemngpbdgaaGreat
