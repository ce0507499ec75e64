/- Each Go function as a function over typed data, and its walk. -/
import Derived.Test.YtbopaemngpbdgaaCX
namespace Go.Proofs.Ytbopaemngpbdgaa
open Go Go.Fw Go.Shelf
set_option maxRecDepth 100000
set_option maxHeartbeats 4000000
set_option linter.unusedSimpArgs false
set_option linter.unusedVariables false
def F53_l1(rc1:TValue→Option (Int)):List TValue→Nat→Int→Option (Int)
 |[],o1_1,o1_0=>some o1_0
 |xo1::xs,o1_1,o1_0=>(rc1 xo1).bind fun t3=>F53_l1 rc1 xs (o1_1+1) ((IntKind.i64.wrap (o1_0+t3)))
def F53_l5(rc1:TValue→Option (Int)):List TField→Nat→Int→Option (Int)
 |[],o5_1,o5_0=>some o5_0
 |xo5::xs,o5_1,o5_0=>(rc1 xo5.V).bind fun t7=>F53_l5 rc1 xs (o5_1+1) ((IntKind.i64.wrap (o5_0+t7)))
def F53(rc1:TValue→Option (Int))(x0:TValue):Option (Int):=(((ck (0≤x0.List_.length∧x0.List_.length≤4294967290)).bind fun u4=>F53_l1 rc1 x0.List_ 0 1).bind fun o1=>(((ck (0≤x0.Fields.length∧x0.Fields.length≤4294967290)).bind fun u8=>F53_l5 rc1 x0.Fields 0 o1).bind fun o5=>some o5))
def a53:AFn:=⟨38,[(.tmp 2)],
 (.seq (.reg [sq 1 (.box (.t 0)),
sq 2 (.mv (kI 0))])
 (.seq (.reg [sq 3 (.mv (kI 1))])
 (.seq (.seq (.reg [sq 4 (.mv (kI 0))])
 (.sem (.block 0 (.loop (.seq (.seq (.reg [sq 6 (.mv (.t 4)),
sq 7 (.fieldA 3 (.t 1)),
sq 8 (.load none (.t 7)),
sq 9 (.len (.t 8)),
sq 10 (.bin .lss (.t 6) (.t 9))])
 (.cond (.t 10)
 .skip
 (.exit 0)))
 (.seq (.block 1 (.reg [sq 13 (.mv (.t 3)),
sq 14 (.fieldA 3 (.t 1)),
sq 15 (.load none (.t 14)),
sq 16 (.mv (.t 4)),
sq 17 (.indexA 5 (.t 15) (.t 16)),
sq 18 (.load (some 5) (.t 17)),
sq 19 (.call 53 [(.t 18)]),
sq 20 (.bin .add (.t 13) (.t 19)),
sq 3 (.mv (.t 20))]))
 (.reg [sq 11 (.mv (.t 4)),
sq 12 (.bin .add (.t 11) (kI 1)),
sq 4 (.mv (.t 12))])))))))
 (.seq (.seq (.reg [sq 5 (.mv (kI 0))])
 (.sem (.block 2 (.loop (.seq (.seq (.reg [sq 21 (.mv (.t 5)),
sq 22 (.fieldA 4 (.t 1)),
sq 23 (.load none (.t 22)),
sq 24 (.len (.t 23)),
sq 25 (.bin .lss (.t 21) (.t 24))])
 (.cond (.t 25)
 .skip
 (.exit 2)))
 (.seq (.block 3 (.reg [sq 28 (.mv (.t 3)),
sq 29 (.fieldA 4 (.t 1)),
sq 30 (.load none (.t 29)),
sq 31 (.mv (.t 5)),
sq 32 (.indexA 6 (.t 30) (.t 31)),
sq 33 (.fieldA 1 (.t 32)),
sq 34 (.load (some 5) (.t 33)),
sq 35 (.call 53 [(.t 34)]),
sq 36 (.bin .add (.t 28) (.t 35)),
sq 3 (.mv (.t 36))]))
 (.reg [sq 26 (.mv (.t 5)),
sq 27 (.bin .add (.t 26) (kI 1)),
sq 5 (.mv (.t 27))])))))))
 (.seq (.reg [sq 37 (.mv (.t 3)),
sq 2 (.mv (.t 37))])
 .ret)))))⟩
theorem a53_ok:afn Try.prog 53=some a53.er:=by kernel_rfl
theorem F53_ok{rc1:TValue→Option (Int)}(ih1:∀{x0:TValue} {r:Int} (h:rc1 x0=some r),CallD Try.prog 53 [.agg [dI x0.Kind,dI x0.N,dS x0.S,dM (x0.List_.map eTValue),dM (x0.Fields.map eTField)]] [] (tupV [.c (dI r)]) []){x0:TValue}{r:Int}(h:F53 rc1 x0=some r):CallD Try.prog 53 [.agg [dI x0.Kind,dI x0.N,dS x0.S,dM (x0.List_.map eTValue),dM (x0.Fields.map eTField)]] [] (tupV [.c (dI r)]) []:=by
 refine callS a53_ok (by simp[a53]) ?_
 rw[F53]at h
 simp only[a53,VW.down,Nat.reduceEqDiff,reduceCtorEq,Nat.reduceAdd,Nat.reduceLeDiff,Nat.reduceLT,Nat.reduceBEq,Nat.reduceSub,EE.down]
 obtain⟨o1,ho,h⟩:=bi h
 refine cutS (fun s=>s=⟨[(1,.one (.c (.pt 0 0))),(3,.one (.c (dI o1)))],[some (.box [dI x0.Kind,dI x0.N,dS x0.S,dM (x0.List_.map eTValue),dM (x0.Fields.map eTField)])]⟩) ?_ ?_
 ·have h:=ho
  clear ho
  obtain⟨_,hk,h⟩:=bi h
  have hk:=ck_some hk
  refine ww ?_
  refine bL (fun j s=>∃(o1_1:Nat) (o1_0:Int),(o1_1≤x0.List_.length∧j=x0.List_.length-o1_1)∧s=⟨[(1,.one (.c (.pt 0 0))),(3,.one (.c (dI o1_0))),(4,.one (.c (dI ((o1_1:Int)))))],[some (.box [dI x0.Kind,dI x0.N,dS x0.S,dM (x0.List_.map eTValue),dM (x0.Fields.map eTField)])]⟩∧F53_l1 rc1 (x0.List_.drop o1_1) o1_1 o1_0=some o1) (x0.List_.length-0) [some 0] ⟨0,1,⟨hk.1,rfl⟩,rfl,h⟩ ?_
  rintro _ _ ⟨o1_1,o1_0,⟨hi,rfl⟩,rfl,h⟩
  refine ww ?_
  refine condS (fun c2=>?_) (fun c2=>?_)
  ·obtain⟨xo1,hxo1,hd⟩:=countY (show(o1_1:Int)<(x0.List_.length:Int)from c2)
   rw[hd,F53_l1]at h
   refine ww ?_
   refine t_idxF (enc:=eTValue) (xs:=x0.List_) rfl rfl hxo1 (by rw[eTValue_u];rfl) (ww ?_)
   obtain⟨t3,ht3,h⟩:=bi h
   refine cN [] (ih1 ht3) trivial (ww ?_)
   rw[wrapN (by omega)]
   exact eL' (x0.List_.length-(o1_1+1)) [some 0] ⟨o1_1+1,(IntKind.i64.wrap (o1_0+t3)),⟨by omega,rfl⟩,rfl,h⟩ (by omega)
  rw[countN (show¬((o1_1:Int)<(x0.List_.length:Int))from c2),F53_l1]at h
  refine ww ?_
  cases h
  exact eM [some 0] rfl
 rintro _ rfl
 clear ho
 refine ww ?_
 obtain⟨o5,ho,h⟩:=bi h
 refine cutS (fun s=>s=⟨[(3,.one (.c (dI o5)))],[]⟩) ?_ ?_
 ·have h:=ho
  clear ho
  obtain⟨_,hk,h⟩:=bi h
  have hk:=ck_some hk
  refine ww ?_
  refine bL (fun j s=>∃(o5_1:Nat) (o5_0:Int),(o5_1≤x0.Fields.length∧j=x0.Fields.length-o5_1)∧s=⟨[(1,.one (.c (.pt 0 0))),(3,.one (.c (dI o5_0))),(5,.one (.c (dI ((o5_1:Int)))))],[some (.box [dI x0.Kind,dI x0.N,dS x0.S,dM (x0.List_.map eTValue),dM (x0.Fields.map eTField)])]⟩∧F53_l5 rc1 (x0.Fields.drop o5_1) o5_1 o5_0=some o5) (x0.Fields.length-0) [some 0] ⟨0,o1,⟨hk.1,rfl⟩,rfl,h⟩ ?_
  rintro _ _ ⟨o5_1,o5_0,⟨hi,rfl⟩,rfl,h⟩
  refine ww ?_
  refine condS (fun c6=>?_) (fun c6=>?_)
  ·obtain⟨xo5,hxo5,hd⟩:=countY (show(o5_1:Int)<(x0.Fields.length:Int)from c6)
   rw[hd,F53_l5]at h
   refine ww ?_
   refine t_idxF (enc:=eTField) (xs:=x0.Fields) rfl rfl hxo5 (by rw[eTField_u];rfl) (ww ?_)
   obtain⟨t7,ht7,h⟩:=bi h
   refine cN [] (ih1 ht7) trivial (ww ?_)
   rw[wrapN (by omega)]
   exact eL' (x0.Fields.length-(o5_1+1)) [some 0] ⟨o5_1+1,(IntKind.i64.wrap (o5_0+t7)),⟨by omega,rfl⟩,rfl,h⟩ (by omega)
  rw[countN (show¬((o5_1:Int)<(x0.Fields.length:Int))from c6),F53_l5]at h
  refine ww ?_
  cases h
  exact eM [] rfl
 rintro _ rfl
 clear ho
 refine ww ?_
 cases h
 exact eF []
def F53k:Nat→TValue→Option (Int)
 |0=>fun _=>none
 |k+1=>F53 (F53k k)
theorem F53k_ok(k:Nat){x0:TValue}{r:Int}(h:F53k k x0=some r):CallD Try.prog 53 [.agg [dI x0.Kind,dI x0.N,dS x0.S,dM (x0.List_.map eTValue),dM (x0.Fields.map eTField)]] [] (tupV [.c (dI r)]) []:=by
 induction k generalizing x0 r with
 |zero=>cases(show(none:Option (Int))=some _ from h)
 |succ k ih=>exact F53_ok (fun h=>ih h) h
def F26(x0:ByteArray)(x1:Int):Option (Unit):=some (())
def a26:AFn:=⟨10,[(.cell 4 (some 23))],
 (.seq (.reg [zl 4 (.zbox [dS ⟨#[]⟩,dS ⟨#[]⟩,dS ⟨#[]⟩,dI 0,dI 0,dI 0,dI 0,dB false,dI 0,dN,dN,dN,dN,dI 0,dI 0,dS ⟨#[]⟩,dN,dN,dI 0,dI 0,dS ⟨#[]⟩,dN,dN]) [] []])
 (.seq (.reg [sq 5 (.mv (.t 0)),
sq 6 (.build [dS ⟨#[]⟩,dS ⟨#[]⟩,dS ⟨#[]⟩,dI 0,dI 0,dI 0,dI 0,dB false,dI 0,dN,dN,dN,dN] [(0,1,(kS ⟨#[80,111,100]⟩)),(1,1,(kS ⟨#[110]⟩)),(2,1,(.t 5))]),
sq 7 (.mv (.t 1)),
sq 8 (.build [dI 0,dI 0,dS ⟨#[]⟩,dN,dN] [(0,1,(kI 2)),(1,1,(.t 7))]),
sq 9 (.build [dS ⟨#[]⟩,dS ⟨#[]⟩,dS ⟨#[]⟩,dI 0,dI 0,dI 0,dI 0,dB false,dI 0,dN,dN,dN,dN,dI 0,dI 0,dS ⟨#[]⟩,dN,dN,dI 0,dI 0,dS ⟨#[]⟩,dN,dN] [(0,13,(.t 6)),(13,5,(.t 8))]),
su (.store 23 (.t 4) (.t 9))])
 .ret))⟩
theorem a26_ok:afn Try.prog 26=some a26.er:=by kernel_rfl
theorem F26_ok{x0 x1 r}(h:F26 x0 x1=some r):CallD Try.prog 26 [.c (dS x0),.c (dI x1)] [] (tupV [.agg [dS ((⟨#[80,111,100]⟩:ByteArray)),dS ((⟨#[110]⟩:ByteArray)),dS x0,dI 0,dI 0,dI 0,dI 0,dB false,dI 0,dM (([]:List Label).map eLabel),dM (([]:List Owner).map eOwner),dM (([]:List ByteArray).map eS),dM (([]:List Manager).map eManager),dI 2,dI x1,dS ((⟨#[]⟩:ByteArray)),dM (([]:List TValue).map eTValue),dM (([]:List TField).map eTField),dI 0,dI 0,dS ((⟨#[]⟩:ByteArray)),dM (([]:List TValue).map eTValue),dM (([]:List TField).map eTField)]]) []:=by
 refine callS a26_ok (by simp[a26]) ?_
 rw[F26]at h
 simp only[a26,VW.down,Nat.reduceEqDiff,reduceCtorEq,Nat.reduceAdd,Nat.reduceLeDiff,Nat.reduceLT,Nat.reduceBEq,Nat.reduceSub,EE.down]
 cases h
 exact eF []
noncomputable def fn109:Func:=(Try.prog.funcs[109]?).getD default
theorem fn109_ok:Try.prog.funcs[109]? =some fn109:=by kernel_rfl
theorem F109_ok{a b:ByteArray}{r:Int}(h:cmpS a b=some r):CallD Try.prog 109 [.c (dS a),.c (dS b)] [] (tupV [.c (dI r)]) []:=L_cmp fn109_ok (by kernel_rfl) (by kernel_rfl) (by kernel_rfl) (by kernel_rfl) h
def F80_l1(x0:ByteArray):Nat→Int→Option ((Bool) ⊕ (Unit))
 |0,_=>none
 |k+1,o1_0=>(if o1_0<(x0.size:Int)then(byI x0 o1_0).bind fun y3=>(((if 65≤y3 then(if y3≤90 then some false else(if 0<o1_0 then(if 97≤y3 then some (decide (¬(y3≤122)))else some true)else some true))else(if 0<o1_0 then(if 97≤y3 then some (decide (¬(y3≤122)))else some true)else some true))).bind fun o4=>(if o4=true then(some false).map Sum.inl else F80_l1 x0 k ((IntKind.i64.wrap (o1_0+1)))))else some (Sum.inr (())))
def F80(x0:ByteArray):Option (Bool):=((F80_l1 x0 1099511627776 0:Option ((Bool) ⊕ (Unit))).bind fun o1=>match o1 with|Sum.inl f=>some f|Sum.inr po1=>(((if 1≤(x0.size:Int)then some (decide ((x0.size:Int)≤40))else some false)).bind fun o12=>some o12))
def a80:AFn:=⟨41,[(.tmp 2)],
 (.seq (.reg [sq 2 (.mv (kB false))])
 (.seq (.seq (.reg [sq 5 (.mv (.t 0)),
sq 6 (.slen (.t 5)),
sq 7 (.mv (kI 0))])
 (.sem (.block 0 (.loop (.seq (.reg [sq 8 (.bin .lss (.t 7) (.t 6))])
 (.seq (.cond (.t 8)
 .skip
 (.exit 0))
 (.seq (.block 1 (.seq (.reg [sq 9 (.mv (.t 7)),
sq 3 (.mv (.t 9))])
 (.seq (.reg [sq 10 (.mv (.t 0)),
sq 11 (.mv (.t 3)),
sq 12 (.sidx (.t 10) (.t 11)),
sq 4 (.mv (.t 12))])
 (.seq (.sem (.reg [sq 13 (.mv (.t 4)),
sq 14 (.bin .geq (.t 13) (.k (.c (.d (.v (.int .u8 65)))))),
sq 15 (.mv (.t 14)),
zg 16 15 true (.mv (.t 4)),
zg 17 15 true (.bin .leq (.t 16) (.k (.c (.d (.v (.int .u8 90)))))),
sq 18 (.pick (.t 15) (.t 17) (kB false)),
sq 19 (.mv (.t 18)),
zg 20 19 false (.mv (.t 3)),
zg 21 19 false (.bin .gtr (.t 20) (kI 0)),
zg 22 19 false (.mv (.t 21)),
zg 23 22 true (.mv (.t 4)),
zg 24 22 true (.bin .geq (.t 23) (.k (.c (.d (.v (.int .u8 97)))))),
zg 25 19 false (.pick (.t 22) (.t 24) (kB false)),
zg 26 19 false (.mv (.t 25)),
zg 27 26 true (.mv (.t 4)),
zg 28 26 true (.bin .leq (.t 27) (.k (.c (.d (.v (.int .u8 122)))))),
zg 29 19 false (.pick (.t 26) (.t 28) (kB false)),
sq 30 (.pick (.t 19) (kB true) (.t 29)),
sq 31 (.not (.t 30))]))
 (.cond (.t 31)
 (.seq (.reg [sq 2 (.mv (kB false))])
 .ret)
 .skip)))))
 (.reg [sq 32 (.bin .add (.t 7) (kI 1)),
sq 7 (.mv (.t 32))]))))))))
 (.seq (.sem (.reg [sq 33 (.mv (.t 0)),
sq 34 (.slen (.t 33)),
sq 35 (.bin .geq (.t 34) (kI 1)),
sq 36 (.mv (.t 35)),
zg 37 36 true (.mv (.t 0)),
zg 38 36 true (.slen (.t 37)),
zg 39 36 true (.bin .leq (.t 38) (kI 40)),
sq 40 (.pick (.t 36) (.t 39) (kB false)),
sq 2 (.mv (.t 40))]))
 .ret)))⟩
theorem a80_ok:afn Try.prog 80=some a80.er:=by kernel_rfl
theorem F80_ok{x0 r}(h:F80 x0=some r):CallD Try.prog 80 [.c (dS x0)] [] (tupV [.c (dB r)]) []:=by
 refine callS a80_ok (by simp[a80]) ?_
 rw[F80]at h
 simp only[a80,VW.down,Nat.reduceEqDiff,reduceCtorEq,Nat.reduceAdd,Nat.reduceLeDiff,Nat.reduceLT,Nat.reduceBEq,Nat.reduceSub,EE.down]
 obtain⟨o1,ho,h⟩:=bi h
 refine cutS (fun s=>∃po1,o1=Sum.inr po1∧s=⟨[(0,.one (.c (dS x0)))],[]⟩) ?_ ?_
 ·have h0o1:=h
  have h:=ho
  clear ho
  refine ww ?_
  refine bL (fun j s=>∃(o1_0:Int),s=⟨[(0,.one (.c (dS x0))),(6,.one (.c (dI ((x0.size:Int))))),(7,.one (.c (dI o1_0)))],[]⟩∧F80_l1 x0 j o1_0=some o1) 1099511627776 [] ⟨0,rfl,h⟩ ?_
  rintro j _ ⟨o1_0,rfl,h⟩
  cases j with
  |zero=>cases(show(none:Option _)=some _ from h)
  |succ j=>
   rw[F80_l1]at h
   refine ww ?_
   refine condSh h (fun c2 h=>?_) (fun c2 h=>?_)
   ·refine ww ?_
    obtain⟨y3,hy3,h⟩:=bi h
    refine t_sidx rfl rfl hy3 (ww ?_)
    obtain⟨o4,ho,h⟩:=bi h
    refine cutS (fun s=>s=⟨[(0,.one (.c (dS x0))),(6,.one (.c (dI ((x0.size:Int))))),(7,.one (.c (dI o1_0))),(31,.one (.c (dB o4)))],[]⟩) ?_ ?_
    ·have h:=ho
     clear ho
     refine ww ?_
     refine guardSh h (fun g5 h=>?_) (fun g5 h=>?_)
     ·refine ww ?_
      refine guardSh h (fun g6 h=>?_) (fun g6 h=>?_)
      ·refine ww ?_
       cases h
       exact eM [] rfl
      ·refine ww ?_
       refine guardSh h (fun g7 h=>?_) (fun g7 h=>?_)
       ·refine ww ?_
        refine guardSh h (fun g8 h=>?_) (fun g8 h=>?_)
        ·refine ww ?_
         cases h
         exact eM [] rfl
        ·refine ww ?_
         cases h
         exact eM [] rfl
       ·refine ww ?_
        cases h
        exact eM [] rfl
     ·refine ww ?_
      refine guardSh h (fun g9 h=>?_) (fun g9 h=>?_)
      ·refine ww ?_
       refine guardSh h (fun g10 h=>?_) (fun g10 h=>?_)
       ·refine ww ?_
        cases h
        exact eM [] rfl
       ·refine ww ?_
        cases h
        exact eM [] rfl
      ·refine ww ?_
       cases h
       exact eM [] rfl
    ·rintro _ rfl
     clear ho
     refine ww ?_
     refine condBh h (fun c11 h=>?_) (fun c11 h=>?_)
     ·refine ww ?_
      obtain⟨fh0o1,hfh0o1,rfl⟩:=Option.map_eq_some_iff.1 h
      have h:=hfh0o1.trans h0o1
      cases h
      exact eF []
     ·refine ww ?_
      exact eL' j [] ⟨(IntKind.i64.wrap (o1_0+1)),rfl,h⟩ (Nat.lt_succ_self _)
   ·refine ww ?_
    cases h
    exact eM [] ⟨_,rfl,rfl⟩
 rintro _ ⟨po1,rfl,rfl⟩
 clear ho
 dsimp only at h
 refine ww ?_
 obtain⟨o12,ho,h⟩:=bi h
 refine cutS (fun s=>s=⟨[(2,.one (.c (dB o12)))],[]⟩) ?_ ?_
 ·have h:=ho
  clear ho
  refine ww ?_
  refine guardSh h (fun g13 h=>?_) (fun g13 h=>?_)
  ·refine ww ?_
   cases h
   exact eM [] rfl
  refine ww ?_
  cases h
  exact eM [] rfl
 rintro _ rfl
 clear ho
 refine ww ?_
 cases h
 exact eF []
theorem a112_ok:afn Try.prog 112=some (cloneA 5 80):=by kernel_rfl
theorem F112_ok{x0 r:List TValue}(h:cloneI x0=some r):CallD Try.prog 112 [.c (dM (x0.map eTValue))] [] (tupV [.c (.own 0 1 0 r.length none)]) [some (.arr 1 5 (r.map eTValue))]:=L_clone a112_ok (fun _=>by rw[eTValue_u];rfl) h
theorem a44_ok:afn Try.prog 44=some (cloneA 23 352):=by kernel_rfl
theorem F44_ok{x0 r:List Object}(h:cloneI x0=some r):CallD Try.prog 44 [.c (dM (x0.map eObject))] [] (tupV [.c (.own 0 1 0 r.length none)]) [some (.arr 1 23 (r.map eObject))]:=L_clone a44_ok (fun _=>rfl) h
theorem a68_ok:afn Try.prog 68=some (deleteA 23 352 [.v (.string ⟨#[]⟩),.v (.string ⟨#[]⟩),.v (.string ⟨#[]⟩),.v (.int .i64 0),.v (.int .i64 0),.v (.int .i64 0),.v (.int .i64 0),.v (.bool false),.v (.int .i64 0),.sl [],.sl [],.sl [],.sl [],.v (.int .i64 0),.v (.int .i64 0),.v (.string ⟨#[]⟩),.sl [],.sl [],.v (.int .i64 0),.v (.int .i64 0),.v (.string ⟨#[]⟩),.sl [],.sl []]):=by kernel_rfl
theorem F68_ok{x0 r:List Object}{i j:Int}{e0:Nat}(h:delI x0 i j=some r):CallD Try.prog 68 [.c (.own 0 e0 0 x0.length none),aI i,aI j] [some (.arr e0 23 (x0.map eObject))] (tupV [.c (.own 0 (e0+1) 0 r.length none)]) [some (.arr (e0+1) 23 (r.map eObject))]:=L_delete a68_ok (fun _=>rfl) h
def F40_l2(x1:(List ByteArray)):List ByteArray→Nat→Option ((Bool) ⊕ (Unit))
 |[],o2_0=>some (Sum.inr (()))
 |xo2::xs,o2_0=>(rdI x1 ((o2_0:Int))).bind fun y4=>(if¬(xo2=y4)then(some false).map Sum.inl else F40_l2 x1 xs (o2_0+1))
def F40(x0:(List ByteArray))(x1:(List ByteArray)):Option (Bool):=(if¬((x0.length:Int)=(x1.length:Int))then some false else(((ck (0≤x0.length∧x0.length≤4294967290)).bind fun u6=>F40_l2 x1 x0 0:Option ((Bool) ⊕ (Unit))).bind fun o2=>match o2 with|Sum.inl f=>some f|Sum.inr po2=>some true))
def a40:AFn:=⟨26,[(.tmp 4)],
 (.seq (.reg [sq 4 (.mv (kB false))])
 (.seq (.seq (.reg [sq 6 (.mv (.t 0)),
sq 7 (.len (.t 6)),
sq 8 (.mv (.t 1)),
sq 9 (.len (.t 8)),
sq 10 (.bin .neq (.t 7) (.t 9))])
 (.cond (.t 10)
 (.seq (.reg [sq 4 (.mv (kB false))])
 .ret)
 .skip))
 (.seq (.seq (.reg [sq 11 (.mv (.t 0)),
sq 12 (.len (.t 11)),
sq 13 (.mv (kI 0))])
 (.sem (.block 0 (.loop (.seq (.reg [sq 14 (.bin .lss (.t 13) (.t 12))])
 (.seq (.cond (.t 14)
 .skip
 (.exit 0))
 (.seq (.block 1 (.seq (.reg [sq 15 (.mv (.t 13)),
sq 5 (.mv (.t 15))])
 (.seq (.regd [sq 16 (.mv (.t 0)),
sq 17 (.mv (.t 5)),
sd 18 (.indexA 1 (.t 16) (.t 17)) [0,1],
sd 19 (.load none (.t 18)) [0,1,2],
sq 20 (.mv (.t 1)),
sq 21 (.mv (.t 5)),
sd 22 (.indexA 1 (.t 20) (.t 21)) [4,5],
sd 23 (.load none (.t 22)) [4,5,6],
sd 24 (.bin .neq (.t 19) (.t 23)) [0,1,2,3,4,5,6,7]])
 (.cond (.t 24)
 (.seq (.reg [sq 4 (.mv (kB false))])
 .ret)
 .skip))))
 (.reg [sq 25 (.bin .add (.t 13) (kI 1)),
sq 13 (.mv (.t 25))]))))))))
 (.seq (.reg [sq 4 (.mv (kB true))])
 .ret))))⟩
theorem a40_ok:afn Try.prog 40=some a40.er:=by kernel_rfl
theorem F40_ok{x0 x1 r}(h:F40 x0 x1=some r):CallD Try.prog 40 [.c (dM (x0.map eS)),.c (dM (x1.map eS))] [] (tupV [.c (dB r)]) []:=by
 refine callS a40_ok (by simp[a40]) ?_
 rw[F40]at h
 simp only[a40,VW.down,Nat.reduceEqDiff,reduceCtorEq,Nat.reduceAdd,Nat.reduceLeDiff,Nat.reduceLT,Nat.reduceBEq,Nat.reduceSub,EE.down]
 refine condSh h (fun c1 h=>?_) (fun c1 h=>?_)
 ·refine ww ?_
  cases h
  exact eF []
 refine ww ?_
 obtain⟨o2,ho,h⟩:=bi h
 refine cutS (fun s=>∃po2,o2=Sum.inr po2∧s=⟨[],[]⟩) ?_ ?_
 ·have h0o2:=h
  have h:=ho
  clear ho
  obtain⟨_,hk,h⟩:=bi h
  have hk:=ck_some hk
  refine ww ?_
  refine bL (fun j s=>∃(o2_0:Nat),(o2_0≤x0.length∧j=x0.length-o2_0)∧s=⟨[(0,.one (.c (dM (x0.map eS)))),(1,.one (.c (dM (x1.map eS)))),(12,.one (.c (dI ((x0.length:Int))))),(13,.one (.c (dI ((o2_0:Int)))))],[]⟩∧F40_l2 x1 (x0.drop o2_0) o2_0=some o2) (x0.length-0) [] ⟨0,⟨hk.1,rfl⟩,rfl,h⟩ ?_
  rintro _ _ ⟨o2_0,⟨hi,rfl⟩,rfl,h⟩
  refine ww ?_
  refine condS (fun c3=>?_) (fun c3=>?_)
  ·obtain⟨xo2,hxo2,hd⟩:=countY (show(o2_0:Int)<(x0.length:Int)from c3)
   rw[hd,F40_l2]at h
   refine ww ?_
   refine t_idxF (enc:=eS) (xs:=x0) rfl rfl hxo2 rfl (ww ?_)
   obtain⟨y4,hy4,h⟩:=bi h
   refine t_idxF (enc:=eS) (xs:=x1) rfl rfl hy4 rfl (ww ?_)
   refine condSh h (fun c5 h=>?_) (fun c5 h=>?_)
   ·refine ww ?_
    obtain⟨fh0o2,hfh0o2,rfl⟩:=Option.map_eq_some_iff.1 h
    have h:=hfh0o2.trans h0o2
    cases h
    exact eF []
   refine ww ?_
   rw[wrapN (by omega)]
   exact eL' (x0.length-(o2_0+1)) [] ⟨o2_0+1,⟨by omega,rfl⟩,rfl,h⟩ (by omega)
  rw[countN (show¬((o2_0:Int)<(x0.length:Int))from c3),F40_l2]at h
  refine ww ?_
  cases h
  exact eM [] ⟨_,rfl,rfl⟩
 rintro _ ⟨po2,rfl,rfl⟩
 clear ho
 dsimp only at h
 refine ww ?_
 cases h
 exact eF []
def F76(x0:ByteArray)(x1:ByteArray)(x2:ByteArray):Option (ByteArray):=(catI x0 ((⟨#[47]⟩:ByteArray))).bind fun s1=>(catI s1 x1).bind fun s2=>(catI s2 ((⟨#[47]⟩:ByteArray))).bind fun s3=>(catI s3 x2).bind fun s4=>some s4
def a76:AFn:=⟨14,[(.tmp 6)],
 (.seq (.reg [sq 6 (.mv (kS ⟨#[]⟩))])
 (.seq (.reg [sq 7 (.mv (.t 0)),
sq 8 (.bin .add (.t 7) (kS ⟨#[47]⟩)),
sq 9 (.mv (.t 1)),
sq 10 (.bin .add (.t 8) (.t 9)),
sq 11 (.bin .add (.t 10) (kS ⟨#[47]⟩)),
sq 12 (.mv (.t 2)),
sq 13 (.bin .add (.t 11) (.t 12)),
sq 6 (.mv (.t 13))])
 .ret))⟩
theorem a76_ok:afn Try.prog 76=some a76.er:=by kernel_rfl
theorem F76_ok{x0 x1 x2 r}(h:F76 x0 x1 x2=some r):CallD Try.prog 76 [.c (dS x0),.c (dS x1),.c (dS x2)] [] (tupV [.c (dS r)]) []:=by
 refine callS a76_ok (by simp[a76]) ?_
 rw[F76]at h
 simp only[a76,VW.down,Nat.reduceEqDiff,reduceCtorEq,Nat.reduceAdd,Nat.reduceLeDiff,Nat.reduceLT,Nat.reduceBEq,Nat.reduceSub,EE.down]
 obtain⟨s1,hs1,h⟩:=bi h
 obtain⟨hle,es1⟩:=cat_some hs1
 refine⟨hle,?_⟩
 first|rw[←es1]|subst es1
 refine ww ?_
 obtain⟨s2,hs2,h⟩:=bi h
 obtain⟨hle,es2⟩:=cat_some hs2
 refine⟨hle,?_⟩
 first|rw[←es2]|subst es2
 refine ww ?_
 obtain⟨s3,hs3,h⟩:=bi h
 obtain⟨hle,es3⟩:=cat_some hs3
 refine⟨hle,?_⟩
 first|rw[←es3]|subst es3
 refine ww ?_
 obtain⟨s4,hs4,h⟩:=bi h
 obtain⟨hle,es4⟩:=cat_some hs4
 refine⟨hle,?_⟩
 first|rw[←es4]|subst es4
 refine ww ?_
 cases h
 exact eF []
end Go.Proofs.Ytbopaemngpbdgaa
