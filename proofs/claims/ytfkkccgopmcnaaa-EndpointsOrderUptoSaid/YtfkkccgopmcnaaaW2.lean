/- Each Go function as a function over typed data, and its walk. -/
import Derived.Test.YtfkkccgopmcnaaaW0
namespace Go.Proofs.Ytfkkccgopmcnaaa
open Go Go.Fw Go.Shelf
set_option maxRecDepth 100000
set_option maxHeartbeats 4000000
set_option linter.unusedSimpArgs false
set_option linter.unusedVariables false
def F65(x0:ByteArray):Option (Unit):=some (())
def a65:AFn:=⟨5,[(.cell 2 (some 5))],
 (.seq (.reg [zl 2 (.zbox [dI 0,dI 0,dS ⟨#[]⟩,dN,dN]) [] []])
 (.seq (.reg [sq 3 (.mv (.t 0)),
sq 4 (.build [dI 0,dI 0,dS ⟨#[]⟩,dN,dN] [(0,1,(kI 3)),(2,1,(.t 3))]),
su (.store 5 (.t 2) (.t 4))])
 .ret))⟩
theorem F65_ok{x0 r}(h:F65 x0=some r):CallD Try.prog 65 [.c (dS x0)] [] (tupV [.agg [dI 3,dI 0,dS x0,dM (([]:List TValue).map eTValue),dM (([]:List TField).map eTField)]]) []:=by
 rw[F65]at h
 refine zc a65 (by kernel_rfl) rfl (ww ?_)
 cases h
 exact eF []
def F62(x0:ByteArray)(x1:TValue):Option (Unit):=some (())
def a62:AFn:=⟨8,[(.cell 4 (some 6))],
 (.seq (.reg [sq 3 (.box (.t 1)),
sq 4 (.zbox [dS ⟨#[]⟩,dI 0,dI 0,dS ⟨#[]⟩,dN,dN])])
 (.seq (.reg [sq 5 (.mv (.t 0)),
sq 6 (.load (some 5) (.t 3)),
sq 7 (.build [dS ⟨#[]⟩,dI 0,dI 0,dS ⟨#[]⟩,dN,dN] [(0,1,(.t 5)),(1,5,(.t 6))]),
su (.store 6 (.t 4) (.t 7))])
 .ret))⟩
theorem F62_ok{x0 x1 r}(h:F62 x0 x1=some r):CallD Try.prog 62 [.c (dS x0),.agg [dI x1.Kind,dI x1.N,dS x1.S,dM (x1.List_.map eTValue),dM (x1.Fields.map eTField)]] [] (tupV [.agg [dS x0,dI x1.Kind,dI x1.N,dS x1.S,dM (x1.List_.map eTValue),dM (x1.Fields.map eTField)]]) []:=by
 rw[F62]at h
 refine zc a62 (by kernel_rfl) rfl (ww ?_)
 cases h
 exact eF []
def F72(x0:Bool):Option (Int):=(if x0=true then some 1 else some 0)
def a72:AFn:=⟨6,[(.cell 2 (some 5))],
 (.seq (.reg [zl 2 (.zbox [dI 0,dI 0,dS ⟨#[]⟩,dN,dN]) [] []])
 (.seq (.seq (.reg [sq 3 (.mv (.t 0))])
 (.cond (.t 3)
 (.seq (.reg [sq 4 (.build [dI 0,dI 0,dS ⟨#[]⟩,dN,dN] [(0,1,(kI 1)),(1,1,(kI 1))]),
su (.store 5 (.t 2) (.t 4))])
 .ret)
 .skip))
 (.seq (.reg [sq 5 (.build [dI 0,dI 0,dS ⟨#[]⟩,dN,dN] [(0,1,(kI 1))]),
su (.store 5 (.t 2) (.t 5))])
 .ret)))⟩
theorem F72_ok{x0 r}(h:F72 x0=some r):CallD Try.prog 72 [.c (dB x0)] [] (tupV [.agg [dI 1,dI r,dS ((⟨#[]⟩:ByteArray)),dM (([]:List TValue).map eTValue),dM (([]:List TField).map eTField)]]) []:=by
 rw[F72]at h
 refine zc a72 (by kernel_rfl) rfl (ww ?_)
 refine condBh h (fun c1 h=>?_) (fun c1 h=>?_)
 ·refine ww ?_
  cases h
  exact eF []
 refine ww ?_
 cases h
 exact eF []
def F53_l1(rc23:TValue→Int→Option (Int))(x0:TValue):Nat→Int→Int→Option (Int)
 |0,_,_=>none
 |k+1,o1_0,o1_1=>(((if o1_1<(x0.List_.length:Int)then some (decide (0≤o1_0))else some false)).bind fun o2=>(if o2=true then(rdI x0.List_ o1_1).bind fun y5=>(rc23 y5 o1_0).bind fun t6=>F53_l1 rc23 x0 k t6 ((IntKind.i64.wrap (o1_1+1)))else some o1_0))
def F53_l7(rc23:TValue→Int→Option (Int))(x0:TValue):Nat→Int→Int→Option (Int)
 |0,_,_=>none
 |k+1,o7_0,o7_1=>(((if o7_1<(x0.Fields.length:Int)then some (decide (0≤o7_0))else some false)).bind fun o8=>(if o8=true then(rdI x0.Fields o7_1).bind fun y11=>(rc23 y11.V ((IntKind.i64.wrap (o7_0-((y11.Name.size:Int)))))).bind fun t12=>F53_l7 rc23 x0 k t12 ((IntKind.i64.wrap (o7_1+1)))else some o7_0))
def F53(rc23:TValue→Int→Option (Int))(x0:TValue)(x1:Int):Option (Int):=((F53_l1 rc23 x0 1099511627776 ((IntKind.i64.wrap (((IntKind.i64.wrap (x1-1)))-((x0.S.size:Int))))) 0).bind fun o1=>((F53_l7 rc23 x0 1099511627776 o1 0).bind fun o7=>some o7))
def a53:AFn:=⟨59,[(.tmp 4)],
 (.seq (.reg [sq 2 (.box (.t 0)),
sq 4 (.mv (kI 0))])
 (.seq (.reg [sq 7 (.mv (.t 1)),
sq 8 (.bin .sub (.t 7) (kI 1)),
sq 9 (.fieldA 2 (.t 2)),
sq 10 (.load none (.t 9)),
sq 11 (.slen (.t 10)),
sq 12 (.bin .sub (.t 8) (.t 11)),
sq 1 (.mv (.t 12))])
 (.seq (.seq (.reg [sq 5 (.mv (kI 0))])
 (.sem (.block 0 (.loop (.seq (.seq (.sem (.reg [sq 13 (.mv (.t 5)),
sq 14 (.fieldA 3 (.t 2)),
sq 15 (.load none (.t 14)),
sq 16 (.len (.t 15)),
sq 17 (.bin .lss (.t 13) (.t 16)),
sq 18 (.mv (.t 17)),
zg 19 18 true (.mv (.t 1)),
zg 20 18 true (.bin .geq (.t 19) (kI 0)),
zl 21 (.pick (.t 18) (.t 20) (kB false)) [] [2,14,15]]))
 (.cond (.t 21)
 .skip
 (.exit 0)))
 (.seq (.block 1 (.reg [sq 24 (.fieldA 3 (.t 2)),
sq 25 (.load none (.t 24)),
sq 26 (.mv (.t 5)),
sq 27 (.indexA 5 (.t 25) (.t 26)),
sq 28 (.load (some 5) (.t 27)),
sq 29 (.mv (.t 1)),
sq 30 (.call 53 [(.t 28),(.t 29)]),
sq 1 (.mv (.t 30))]))
 (.reg [sq 22 (.mv (.t 5)),
sq 23 (.bin .add (.t 22) (kI 1)),
sq 5 (.mv (.t 23))])))))))
 (.seq (.seq (.reg [sq 6 (.mv (kI 0))])
 (.sem (.block 2 (.loop (.seq (.seq (.sem (.reg [sq 31 (.mv (.t 6)),
sq 32 (.fieldA 4 (.t 2)),
sq 33 (.load none (.t 32)),
sq 34 (.len (.t 33)),
sq 35 (.bin .lss (.t 31) (.t 34)),
sq 36 (.mv (.t 35)),
zg 37 36 true (.mv (.t 1)),
zg 38 36 true (.bin .geq (.t 37) (kI 0)),
zl 39 (.pick (.t 36) (.t 38) (kB false)) [] [2,32,33]]))
 (.cond (.t 39)
 .skip
 (.exit 2)))
 (.seq (.block 3 (.regd [sq 42 (.fieldA 4 (.t 2)),
sd 43 (.load none (.t 42)) [0],
sq 44 (.mv (.t 6)),
sd 45 (.indexA 6 (.t 43) (.t 44)) [0,1,2],
sd 46 (.fieldA 1 (.t 45)) [0,1,2,3],
sd 47 (.load (some 5) (.t 46)) [0,1,2,3,4],
sq 48 (.mv (.t 1)),
sq 49 (.fieldA 4 (.t 2)),
sd 50 (.load none (.t 49)) [7],
sq 51 (.mv (.t 6)),
sd 52 (.indexA 6 (.t 50) (.t 51)) [7,8,9],
sd 53 (.fieldA 0 (.t 52)) [7,8,9,10],
sd 54 (.load none (.t 53)) [7,8,9,10,11],
sd 55 (.slen (.t 54)) [7,8,9,10,11,12],
sd 56 (.bin .sub (.t 48) (.t 55)) [6,7,8,9,10,11,12,13],
zl 57 (.call 53 [(.t 47),(.t 56)]) [0,1,2,3,4,5,6,7,8,9,10,11,12,13,14] [],
sd 1 (.mv (.t 57)) [0,1,2,3,4,5,6,7,8,9,10,11,12,13,14,15]]))
 (.reg [sq 40 (.mv (.t 6)),
sq 41 (.bin .add (.t 40) (kI 1)),
sq 6 (.mv (.t 41))])))))))
 (.seq (.reg [sq 58 (.mv (.t 1)),
sq 4 (.mv (.t 58))])
 .ret)))))⟩
theorem F53_ok{rc23:TValue→Int→Option (Int)}(ih23:∀{x0:TValue} {x1:Int} {r:Int} (h:rc23 x0 x1=some r),CallD Try.prog 53 [.agg [dI x0.Kind,dI x0.N,dS x0.S,dM (x0.List_.map eTValue),dM (x0.Fields.map eTField)],.c (dI x1)] [] (tupV [.c (dI r)]) []){x0:TValue}{x1:Int}{r:Int}(h:F53 rc23 x0 x1=some r):CallD Try.prog 53 [.agg [dI x0.Kind,dI x0.N,dS x0.S,dM (x0.List_.map eTValue),dM (x0.Fields.map eTField)],.c (dI x1)] [] (tupV [.c (dI r)]) []:=by
 rw[F53]at h
 refine zc a53 (by kernel_rfl) rfl (ww ?_)
 obtain⟨o1,ho,h⟩:=bi h
 refine cutS (fun s=>s=⟨[(1,.one (.c (dI o1))),(2,.one (.c (.pt 0 0)))],[some (.box [dI x0.Kind,dI x0.N,dS x0.S,dM (x0.List_.map eTValue),dM (x0.Fields.map eTField)])]⟩) ?_ ?_
 ·have h:=ho
  clear ho
  refine ww ?_
  refine bL (fun j s=>∃(o1_0:Int) (o1_1:Int),s=⟨[(1,.one (.c (dI o1_0))),(2,.one (.c (.pt 0 0))),(5,.one (.c (dI o1_1)))],[some (.box [dI x0.Kind,dI x0.N,dS x0.S,dM (x0.List_.map eTValue),dM (x0.Fields.map eTField)])]⟩∧F53_l1 rc23 x0 j o1_0 o1_1=some o1) 1099511627776 [some 0] ⟨(IntKind.i64.wrap (((IntKind.i64.wrap (x1-1)))-((x0.S.size:Int)))),0,rfl,h⟩ ?_
  rintro j _ ⟨o1_0,o1_1,rfl,h⟩
  cases j with
  |zero=>cases(show(none:Option _)=some _ from h)
  |succ j=>
   rw[F53_l1]at h
   refine ww ?_
   obtain⟨o2,ho,h⟩:=bi h
   refine cutS (fun s=>s=⟨[(1,.one (.c (dI o1_0))),(2,.one (.c (.pt 0 0))),(5,.one (.c (dI o1_1))),(21,.one (.c (dB o2)))],[some (.box [dI x0.Kind,dI x0.N,dS x0.S,dM (x0.List_.map eTValue),dM (x0.Fields.map eTField)])]⟩) ?_ ?_
   ·have h:=ho
    clear ho
    refine ww ?_
    refine guardSh h (fun g3 h=>?_) (fun g3 h=>?_)
    ·refine ww ?_
     cases h
     exact eM [some 0] rfl
    ·refine ww ?_
     cases h
     exact eM [some 0] rfl
   ·rintro _ rfl
    clear ho
    refine ww ?_
    refine condBh h (fun c4 h=>?_) (fun c4 h=>?_)
    ·refine ww ?_
     obtain⟨y5,hy5,h⟩:=bi h
     refine t_idxF (enc:=eTValue) (xs:=x0.List_) rfl rfl hy5 (by rw[eTValue_u];rfl) (ww ?_)
     obtain⟨t6,ht6,h⟩:=bi h
     refine cN [] (ih23 ht6) trivial (ww ?_)
     exact eL' j [some 0] ⟨t6,(IntKind.i64.wrap (o1_1+1)),rfl,h⟩ (Nat.lt_succ_self _)
    ·refine ww ?_
     cases h
     exact eM [some 0] rfl
 rintro _ rfl
 clear ho
 refine ww ?_
 obtain⟨o7,ho,h⟩:=bi h
 refine cutS (fun s=>s=⟨[(1,.one (.c (dI o7)))],[]⟩) ?_ ?_
 ·have h:=ho
  clear ho
  refine ww ?_
  refine bL (fun j s=>∃(o7_0:Int) (o7_1:Int),s=⟨[(1,.one (.c (dI o7_0))),(2,.one (.c (.pt 0 0))),(6,.one (.c (dI o7_1)))],[some (.box [dI x0.Kind,dI x0.N,dS x0.S,dM (x0.List_.map eTValue),dM (x0.Fields.map eTField)])]⟩∧F53_l7 rc23 x0 j o7_0 o7_1=some o7) 1099511627776 [some 0] ⟨o1,0,rfl,h⟩ ?_
  rintro j _ ⟨o7_0,o7_1,rfl,h⟩
  cases j with
  |zero=>cases(show(none:Option _)=some _ from h)
  |succ j=>
   rw[F53_l7]at h
   refine ww ?_
   obtain⟨o8,ho,h⟩:=bi h
   refine cutS (fun s=>s=⟨[(1,.one (.c (dI o7_0))),(2,.one (.c (.pt 0 0))),(6,.one (.c (dI o7_1))),(39,.one (.c (dB o8)))],[some (.box [dI x0.Kind,dI x0.N,dS x0.S,dM (x0.List_.map eTValue),dM (x0.Fields.map eTField)])]⟩) ?_ ?_
   ·have h:=ho
    clear ho
    refine ww ?_
    refine guardSh h (fun g9 h=>?_) (fun g9 h=>?_)
    ·refine ww ?_
     cases h
     exact eM [some 0] rfl
    ·refine ww ?_
     cases h
     exact eM [some 0] rfl
   ·rintro _ rfl
    clear ho
    refine ww ?_
    refine condBh h (fun c10 h=>?_) (fun c10 h=>?_)
    ·refine ww ?_
     obtain⟨y11,hy11,h⟩:=bi h
     refine t_idxF (enc:=eTField) (xs:=x0.Fields) rfl rfl hy11 (by rw[eTField_u];rfl) (ww ?_)
     refine t_idxF (enc:=eTField) (xs:=x0.Fields) rfl rfl hy11 (by rw[eTField_u];rfl) (ww ?_)
     obtain⟨t12,ht12,h⟩:=bi h
     refine cN [] (ih23 ht12) trivial (ww ?_)
     exact eL' j [some 0] ⟨t12,(IntKind.i64.wrap (o7_1+1)),rfl,h⟩ (Nat.lt_succ_self _)
    ·refine ww ?_
     cases h
     exact eM [] rfl
 rintro _ rfl
 clear ho
 refine ww ?_
 cases h
 exact eF []
def F53k:Nat→TValue→Int→Option (Int)
 |0=>fun _ _=>none
 |k+1=>F53 (F53k k)
theorem F53k_ok(k:Nat){x0:TValue}{x1:Int}{r:Int}(h:F53k k x0 x1=some r):CallD Try.prog 53 [.agg [dI x0.Kind,dI x0.N,dS x0.S,dM (x0.List_.map eTValue),dM (x0.Fields.map eTField)],.c (dI x1)] [] (tupV [.c (dI r)]) []:=by
 induction k generalizing x0 x1 r with
 |zero=>cases(show(none:Option (Int))=some _ from h)
 |succ k ih=>exact F53_ok (fun h=>ih h) h
def F73_l1(x1:ByteArray):List Label→Nat→Option ((ByteArray×Bool) ⊕ (Unit))
 |[],o1_0=>some (Sum.inr (()))
 |xo1::xs,o1_0=>(if xo1.Key=x1 then(some ((xo1.Value,true))).map Sum.inl else F73_l1 x1 xs (o1_0+1))
def F73(x0:(List Label))(x1:ByteArray):Option (ByteArray×Bool):=(((ck (0≤x0.length∧x0.length≤4294967290)).bind fun u4=>F73_l1 x1 x0 0:Option ((ByteArray×Bool) ⊕ (Unit))).bind fun o1=>match o1 with|Sum.inl f=>some f|Sum.inr po1=>some (((⟨#[]⟩:ByteArray),false)))
def a73:AFn:=⟨21,[(.tmp 4),(.tmp 5)],
 (.seq (.reg [sq 4 (.mv (kS ⟨#[]⟩)),
sq 5 (.mv (kB false))])
 (.seq (.seq (.reg [sq 8 (.mv (.t 0)),
sq 9 (.len (.t 8)),
sq 10 (.mv (kI 0))])
 (.sem (.block 0 (.loop (.seq (.reg [sq 11 (.bin .lss (.t 10) (.t 9))])
 (.seq (.cond (.t 11)
 .skip
 (.exit 0))
 (.seq (.block 1 (.seq (.reg [sq 12 (.indexA 2 (.t 8) (.t 10)),
sq 13 (.load (some 2) (.t 12)),
sq 7 (.zbox [dS ⟨#[]⟩,dS ⟨#[]⟩]),
su (.store 2 (.t 7) (.t 13))])
 (.seq (.reg [sq 14 (.fieldA 0 (.t 7)),
sq 15 (.load none (.t 14)),
sq 16 (.mv (.t 1)),
sq 17 (.bin .eql (.t 15) (.t 16))])
 (.cond (.t 17)
 (.seq (.reg [sq 18 (.fieldA 1 (.t 7)),
sq 19 (.load none (.t 18)),
sq 4 (.mv (.t 19)),
sq 5 (.mv (kB true))])
 .ret)
 .skip))))
 (.reg [sq 20 (.bin .add (.t 10) (kI 1)),
sq 10 (.mv (.t 20))]))))))))
 (.seq (.reg [sq 4 (.mv (kS ⟨#[]⟩)),
sq 5 (.mv (kB false))])
 .ret)))⟩
theorem F73_ok{x0 x1 r}(h:F73 x0 x1=some r):CallD Try.prog 73 [.c (dM (x0.map eLabel)),.c (dS x1)] [] (tupV [.c (dS r.1),.c (dB r.2)]) []:=by
 rw[F73]at h
 refine zc a73 (by kernel_rfl) rfl (ww ?_)
 obtain⟨o1,ho,h⟩:=bi h
 refine cutS (fun s=>∃po1,o1=Sum.inr po1∧s=⟨[],[]⟩) ?_ ?_
 ·have h0o1:=h
  have h:=ho
  clear ho
  obtain⟨_,hk,h⟩:=bi h
  have hk:=ck_some hk
  refine ww ?_
  refine bL (fun j s=>∃(o1_0:Nat),(o1_0≤x0.length∧j=x0.length-o1_0)∧s=⟨[(1,.one (.c (dS x1))),(8,.one (.c (dM (x0.map eLabel)))),(9,.one (.c (dI ((x0.length:Int))))),(10,.one (.c (dI ((o1_0:Int)))))],[]⟩∧F73_l1 x1 (x0.drop o1_0) o1_0=some o1) (x0.length-0) [] ⟨0,⟨hk.1,rfl⟩,rfl,h⟩ ?_
  rintro _ _ ⟨o1_0,⟨hi,rfl⟩,rfl,h⟩
  refine ww ?_
  refine condS (fun c2=>?_) (fun c2=>?_)
  ·obtain⟨xo1,hxo1,hd⟩:=countY (show(o1_0:Int)<(x0.length:Int)from c2)
   rw[hd,F73_l1]at h
   refine ww ?_
   refine t_idxF (enc:=eLabel) (xs:=x0) rfl rfl hxo1 rfl (ww ?_)
   refine condSh h (fun c3 h=>?_) (fun c3 h=>?_)
   ·refine ww ?_
    obtain⟨fh0o1,hfh0o1,rfl⟩:=Option.map_eq_some_iff.1 h
    have h:=hfh0o1.trans h0o1
    cases h
    exact eF []
   refine ww ?_
   rw[wrapN (by omega)]
   exact eL' (x0.length-(o1_0+1)) [] ⟨o1_0+1,⟨by omega,rfl⟩,rfl,h⟩ (by omega)
  rw[countN (show¬((o1_0:Int)<(x0.length:Int))from c2),F73_l1]at h
  refine ww ?_
  cases h
  exact eM [] ⟨_,rfl,rfl⟩
 rintro _ ⟨po1,rfl,rfl⟩
 clear ho
 dsimp only at h
 refine ww ?_
 cases h
 exact eF []
noncomputable def fn57:Func:=(Try.prog.funcs[57]?).getD default
theorem fn57_ok:Try.prog.funcs[57]? =some fn57:=by kernel_rfl
theorem F57_ok{a b:ByteArray}{r:Int}(h:cmpS a b=some r):CallD Try.prog 57 [.c (dS a),.c (dS b)] [] (tupV [.c (dI r)]) []:=L_cmp fn57_ok (by kernel_rfl) (by kernel_rfl) (by kernel_rfl) (by kernel_rfl) h
def Try.laysSort_ren:Go.Shelf.Ren:=⟨fun|190=>47|125=>60|258=>59|128=>85|129=>86|302=>76|303=>77|304=>78|305=>79|306=>80|307=>81|308=>82|309=>83|310=>84|333=>93|329=>94|330=>95|334=>96|335=>97|336=>98|344=>99|n=>n,fun|31=>24|9=>9|3=>3|46=>117|0=>0|51=>142|53=>144|4=>4|183=>134|182=>133|131=>139|5=>5|218=>165|222=>169|228=>173|229=>174|n=>n,fun|n=>n⟩
theorem Try.laysSort:Go.Proofs.Lays.n190 Try.prog Try.laysSort_ren:={
 mixed:=by kernel_rfl
 f125:=Try.func60.trans (congrArg some (by kernel_rfl))
 f128:=Try.func85.trans (congrArg some (by kernel_rfl))
 f129:=Try.func86.trans (congrArg some (by kernel_rfl))
 f190:=Try.func47.trans (congrArg some (by kernel_rfl))
 f258:=Try.func59.trans (congrArg some (by kernel_rfl))
 f302:=Try.func76.trans (congrArg some (by kernel_rfl))
 f303:=Try.func77.trans (congrArg some (by kernel_rfl))
 f304:=Try.func78.trans (congrArg some (by kernel_rfl))
 f305:=Try.func79.trans (congrArg some (by kernel_rfl))
 f306:=Try.func80.trans (congrArg some (by kernel_rfl))
 f307:=Try.func81.trans (congrArg some (by kernel_rfl))
 f308:=Try.func82.trans (congrArg some (by kernel_rfl))
 f309:=Try.func83.trans (congrArg some (by kernel_rfl))
 f310:=Try.func84.trans (congrArg some (by kernel_rfl))
 f329:=Try.func94.trans (congrArg some (by kernel_rfl))
 f330:=Try.func95.trans (congrArg some (by kernel_rfl))
 f333:=Try.func93.trans (congrArg some (by kernel_rfl))
 f334:=Try.func96.trans (congrArg some (by kernel_rfl))
 f335:=Try.func97.trans (congrArg some (by kernel_rfl))
 f336:=Try.func98.trans (congrArg some (by kernel_rfl))
 f344:=Try.func99.trans (congrArg some (by kernel_rfl))
 t0:=Try.underlying0
 a0:=Try.isAgg0
 z0:=Try.sizeOf0
 v0:=Try.zeroValue0
 t3:=Try.underlying3
 a3:=Try.isAgg3
 z3:=Try.sizeOf3
 v3:=Try.zeroValue3
 t4:=Try.underlying4
 a4:=Try.isAgg4
 z4:=Try.sizeOf4
 v4:=Try.zeroValue4
 t5:=Try.underlying5
 a5:=Try.isAgg5
 z5:=Try.sizeOf5
 v5:=Try.zeroValue5
 t9:=Try.underlying9
 a9:=Try.isAgg9
 z9:=Try.sizeOf9
 v9:=Try.zeroValue9
 t31:=Try.underlying24
 a31:=Try.isAgg24
 z31:=Try.sizeOf24
 v31:=Try.zeroValue24
 t46:=Try.underlying117
 a46:=Try.isAgg117
 z46:=Try.sizeOf117
 v46:=Try.zeroValue117
 t51:=Try.underlying142
 a51:=Try.isAgg142
 z51:=Try.sizeOf142
 v51:=Try.zeroValue142
 t53:=Try.underlying144
 a53:=Try.isAgg144
 z53:=Try.sizeOf144
 v53:=Try.zeroValue144
 t131:=Try.underlying139
 a131:=Try.isAgg139
 z131:=Try.sizeOf139
 v131:=Try.zeroValue139
 t182:=Try.underlying133
 a182:=Try.isAgg133
 z182:=Try.sizeOf133
 v182:=Try.zeroValue133
 t183:=Try.underlying134
 a183:=Try.isAgg134
 z183:=Try.sizeOf134
 v183:=Try.zeroValue134
 t218:=Try.underlying165
 a218:=Try.isAgg165
 z218:=Try.sizeOf165
 v218:=Try.zeroValue165
 t222:=Try.underlying169
 a222:=Try.isAgg169
 z222:=Try.sizeOf169
 v222:=Try.zeroValue169
 t228:=Try.underlying173
 a228:=Try.isAgg173
 z228:=Try.sizeOf173
 v228:=Try.zeroValue173
 t229:=Try.underlying174
 a229:=Try.isAgg174
 z229:=Try.sizeOf174
 v229:=Try.zeroValue174}
def F13_l2(x1:(List Endpoint)):List Endpoint→Nat→Option ((Bool) ⊕ (Unit))
 |[],o2_0=>some (Sum.inr (()))
 |xo2::xs,o2_0=>(rdI x1 ((o2_0:Int))).bind fun y4=>(if(nb ((decide (xo2.Pod=y4.Pod)&&(decide (xo2.Node=y4.Node)&&(decide (xo2.Address=y4.Address)&&((xo2.Ready==y4.Ready)&&(xo2.Terminating==y4.Terminating)))))))=true then(some false).map Sum.inl else F13_l2 x1 xs (o2_0+1))
def F13(x0:(List Endpoint))(x1:(List Endpoint)):Option (Bool):=(if¬((x0.length:Int)=(x1.length:Int))then some false else(((ck (0≤x0.length∧x0.length≤4294967290)).bind fun u6=>F13_l2 x1 x0 0:Option ((Bool) ⊕ (Unit))).bind fun o2=>match o2 with|Sum.inl f=>some f|Sum.inr po2=>some true))
def a13:AFn:=⟨26,[(.tmp 4)],
 (.seq (.reg [sq 4 (.mv (kB false))])
 (.seq (.seq (.reg [sq 6 (.mv (.t 0)),
sq 7 (.len (.t 6)),
sq 8 (.mv (.t 1)),
sq 9 (.len (.t 8)),
sq 10 (.bin .neq (.t 7) (.t 9))])
 (.cond (.t 10)
 (.seq (.reg [sq 4 (.mv (kB false))])
 .ret)
 .skip))
 (.seq (.seq (.reg [sq 5 (.mv (kI 0))])
 (.sem (.block 0 (.loop (.seq (.seq (.reg [sq 11 (.mv (.t 5)),
sq 12 (.mv (.t 0)),
sq 13 (.len (.t 12)),
sq 14 (.bin .lss (.t 11) (.t 13))])
 (.cond (.t 14)
 .skip
 (.exit 0)))
 (.seq (.block 1 (.seq (.regd [sq 17 (.mv (.t 0)),
sq 18 (.mv (.t 5)),
sd 19 (.indexA 5 (.t 17) (.t 18)) [0,1],
sd 20 (.load (some 5) (.t 19)) [0,1,2],
sq 21 (.mv (.t 1)),
sq 22 (.mv (.t 5)),
sd 23 (.indexA 5 (.t 21) (.t 22)) [4,5],
sd 24 (.load (some 5) (.t 23)) [4,5,6],
zl 25 (.eqs true [(0,2),(1,2),(2,0),(3,1),(4,1)] (.t 20) (.t 24)) [0,1,2,3,4,5,6,7] []])
 (.cond (.t 25)
 (.seq (.reg [sq 4 (.mv (kB false))])
 .ret)
 .skip)))
 (.reg [sq 15 (.mv (.t 5)),
sq 16 (.bin .add (.t 15) (kI 1)),
sq 5 (.mv (.t 16))])))))))
 (.seq (.reg [sq 4 (.mv (kB true))])
 .ret))))⟩
theorem F13_ok{x0 x1 r}(h:F13 x0 x1=some r):CallD Try.prog 13 [.c (dM (x0.map eEndpoint)),.c (dM (x1.map eEndpoint))] [] (tupV [.c (dB r)]) []:=by
 rw[F13]at h
 refine zc a13 (by kernel_rfl) rfl (ww ?_)
 refine condSh h (fun c1 h=>?_) (fun c1 h=>?_)
 ·refine ww ?_
  cases h
  exact eF []
 refine ww ?_
 obtain⟨o2,ho,h⟩:=bi h
 refine cutS (fun s=>∃po2,o2=Sum.inr po2∧s=⟨[],[]⟩) ?_ ?_
 ·have h0o2:=h
  have h:=ho
  clear ho
  obtain⟨_,hk,h⟩:=bi h
  have hk:=ck_some hk
  refine ww ?_
  refine bL (fun j s=>∃(o2_0:Nat),(o2_0≤x0.length∧j=x0.length-o2_0)∧s=⟨[(0,.one (.c (dM (x0.map eEndpoint)))),(1,.one (.c (dM (x1.map eEndpoint)))),(5,.one (.c (dI ((o2_0:Int)))))],[]⟩∧F13_l2 x1 (x0.drop o2_0) o2_0=some o2) (x0.length-0) [] ⟨0,⟨hk.1,rfl⟩,rfl,h⟩ ?_
  rintro _ _ ⟨o2_0,⟨hi,rfl⟩,rfl,h⟩
  refine ww ?_
  refine condS (fun c3=>?_) (fun c3=>?_)
  ·obtain⟨xo2,hxo2,hd⟩:=countY (show(o2_0:Int)<(x0.length:Int)from c3)
   rw[hd,F13_l2]at h
   refine ww ?_
   refine t_idxF (enc:=eEndpoint) (xs:=x0) rfl rfl hxo2 rfl (ww ?_)
   obtain⟨y4,hy4,h⟩:=bi h
   refine t_idxF (enc:=eEndpoint) (xs:=x1) rfl rfl hy4 rfl (ww ?_)
   refine condBh h (fun c5 h=>?_) (fun c5 h=>?_)
   ·refine ww ?_
    obtain⟨fh0o2,hfh0o2,rfl⟩:=Option.map_eq_some_iff.1 h
    have h:=hfh0o2.trans h0o2
    cases h
    exact eF []
   refine ww ?_
   rw[wrapN (by omega)]
   exact eL' (x0.length-(o2_0+1)) [] ⟨o2_0+1,⟨by omega,rfl⟩,rfl,h⟩ (by omega)
  rw[countN (show¬((o2_0:Int)<(x0.length:Int))from c3),F13_l2]at h
  refine ww ?_
  cases h
  exact eM [] ⟨_,rfl,rfl⟩
 rintro _ ⟨po2,rfl,rfl⟩
 clear ho
 dsimp only at h
 refine ww ?_
 cases h
 exact eF []
def F49_l1(x1:ByteArray):List Label→Nat→Option ((ByteArray×Bool) ⊕ (Unit))
 |[],o1_0=>some (Sum.inr (()))
 |xo1::xs,o1_0=>(if xo1.Key=x1 then(some ((xo1.Value,true))).map Sum.inl else F49_l1 x1 xs (o1_0+1))
def F49(x0:(List Label))(x1:ByteArray):Option (ByteArray×Bool):=(((ck (0≤x0.length∧x0.length≤4294967290)).bind fun u4=>F49_l1 x1 x0 0:Option ((ByteArray×Bool) ⊕ (Unit))).bind fun o1=>match o1 with|Sum.inl f=>some f|Sum.inr po1=>some (((⟨#[]⟩:ByteArray),false)))
def a49:AFn:=⟨25,[(.tmp 4),(.tmp 5)],
 (.seq (.reg [sq 4 (.mv (kS ⟨#[]⟩)),
sq 5 (.mv (kB false))])
 (.seq (.seq (.reg [sq 6 (.mv (kI 0))])
 (.sem (.block 0 (.loop (.seq (.seq (.reg [sq 7 (.mv (.t 6)),
sq 8 (.mv (.t 0)),
sq 9 (.len (.t 8)),
sq 10 (.bin .lss (.t 7) (.t 9))])
 (.cond (.t 10)
 .skip
 (.exit 0)))
 (.seq (.block 1 (.seq (.reg [sq 13 (.mv (.t 0)),
sq 14 (.mv (.t 6)),
sq 15 (.indexA 2 (.t 13) (.t 14)),
sq 16 (.fieldA 0 (.t 15)),
sq 17 (.load none (.t 16)),
sq 18 (.mv (.t 1)),
sq 19 (.bin .eql (.t 17) (.t 18))])
 (.cond (.t 19)
 (.seq (.reg [sq 20 (.mv (.t 0)),
sq 21 (.mv (.t 6)),
sq 22 (.indexA 2 (.t 20) (.t 21)),
sq 23 (.fieldA 1 (.t 22)),
sq 24 (.load none (.t 23)),
sq 4 (.mv (.t 24)),
sq 5 (.mv (kB true))])
 .ret)
 .skip)))
 (.reg [sq 11 (.mv (.t 6)),
sq 12 (.bin .add (.t 11) (kI 1)),
sq 6 (.mv (.t 12))])))))))
 (.seq (.reg [sq 4 (.mv (kS ⟨#[]⟩)),
sq 5 (.mv (kB false))])
 .ret)))⟩
theorem F49_ok{x0 x1 r}(h:F49 x0 x1=some r):CallD Try.prog 49 [.c (dM (x0.map eLabel)),.c (dS x1)] [] (tupV [.c (dS r.1),.c (dB r.2)]) []:=by
 rw[F49]at h
 refine zc a49 (by kernel_rfl) rfl (ww ?_)
 obtain⟨o1,ho,h⟩:=bi h
 refine cutS (fun s=>∃po1,o1=Sum.inr po1∧s=⟨[],[]⟩) ?_ ?_
 ·have h0o1:=h
  have h:=ho
  clear ho
  obtain⟨_,hk,h⟩:=bi h
  have hk:=ck_some hk
  refine ww ?_
  refine bL (fun j s=>∃(o1_0:Nat),(o1_0≤x0.length∧j=x0.length-o1_0)∧s=⟨[(0,.one (.c (dM (x0.map eLabel)))),(1,.one (.c (dS x1))),(6,.one (.c (dI ((o1_0:Int)))))],[]⟩∧F49_l1 x1 (x0.drop o1_0) o1_0=some o1) (x0.length-0) [] ⟨0,⟨hk.1,rfl⟩,rfl,h⟩ ?_
  rintro _ _ ⟨o1_0,⟨hi,rfl⟩,rfl,h⟩
  refine ww ?_
  refine condS (fun c2=>?_) (fun c2=>?_)
  ·obtain⟨xo1,hxo1,hd⟩:=countY (show(o1_0:Int)<(x0.length:Int)from c2)
   rw[hd,F49_l1]at h
   refine ww ?_
   refine t_idxF (enc:=eLabel) (xs:=x0) rfl rfl hxo1 rfl (ww ?_)
   refine condSh h (fun c3 h=>?_) (fun c3 h=>?_)
   ·refine ww ?_
    refine t_idxF (enc:=eLabel) (xs:=x0) rfl rfl hxo1 rfl (ww ?_)
    obtain⟨fh0o1,hfh0o1,rfl⟩:=Option.map_eq_some_iff.1 h
    have h:=hfh0o1.trans h0o1
    cases h
    exact eF []
   refine ww ?_
   rw[wrapN (by omega)]
   exact eL' (x0.length-(o1_0+1)) [] ⟨o1_0+1,⟨by omega,rfl⟩,rfl,h⟩ (by omega)
  rw[countN (show¬((o1_0:Int)<(x0.length:Int))from c2),F49_l1]at h
  refine ww ?_
  cases h
  exact eM [] ⟨_,rfl,rfl⟩
 rintro _ ⟨po1,rfl,rfl⟩
 clear ho
 dsimp only at h
 refine ww ?_
 cases h
 exact eF []
def F39(x0:ByteArray)(x1:ByteArray)(x2:ByteArray):Option (ByteArray):=(catI x0 ((⟨#[47]⟩:ByteArray))).bind fun s1=>(catI s1 x1).bind fun s2=>(catI s2 ((⟨#[47]⟩:ByteArray))).bind fun s3=>(catI s3 x2).bind fun s4=>some s4
def a39:AFn:=⟨14,[(.tmp 6)],
 (.seq (.reg [sq 6 (.mv (kS ⟨#[]⟩))])
 (.seq (.reg [sq 7 (.mv (.t 0)),
sq 8 (.bin .add (.t 7) (kS ⟨#[47]⟩)),
sq 9 (.mv (.t 1)),
sq 10 (.bin .add (.t 8) (.t 9)),
sq 11 (.bin .add (.t 10) (kS ⟨#[47]⟩)),
sq 12 (.mv (.t 2)),
sq 13 (.bin .add (.t 11) (.t 12)),
sq 6 (.mv (.t 13))])
 .ret))⟩
theorem F39_ok{x0 x1 x2 r}(h:F39 x0 x1 x2=some r):CallD Try.prog 39 [.c (dS x0),.c (dS x1),.c (dS x2)] [] (tupV [.c (dS r)]) []:=by
 rw[F39]at h
 refine zc a39 (by kernel_rfl) rfl (ww ?_)
 obtain⟨s1,hs1,h⟩:=bi h
 obtain⟨hle,es1⟩:=cat_some hs1
 refine⟨hle,?_⟩
 first|rw[←es1]|subst es1
 refine ww ?_
 obtain⟨s2,hs2,h⟩:=bi h
 obtain⟨hle,es2⟩:=cat_some hs2
 refine⟨hle,?_⟩
 first|rw[←es2]|subst es2
 refine ww ?_
 obtain⟨s3,hs3,h⟩:=bi h
 obtain⟨hle,es3⟩:=cat_some hs3
 refine⟨hle,?_⟩
 first|rw[←es3]|subst es3
 refine ww ?_
 obtain⟨s4,hs4,h⟩:=bi h
 obtain⟨hle,es4⟩:=cat_some hs4
 refine⟨hle,?_⟩
 first|rw[←es4]|subst es4
 refine ww ?_
 cases h
 exact eF []
end Go.Proofs.Ytfkkccgopmcnaaa
