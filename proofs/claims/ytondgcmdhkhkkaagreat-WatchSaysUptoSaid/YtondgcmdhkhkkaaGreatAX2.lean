/- Each Go function as a function over typed data, and its walk. -/
import Derived.Test.YtondgcmdhkhkkaaGreatAX
namespace Go.Proofs.YtondgcmdhkhkkaaGreat
open Go Go.Fw Go.Shelf
set_option maxRecDepth 100000
set_option maxHeartbeats 4000000
set_option linter.unusedSimpArgs false
set_option linter.unusedVariables false
def F9_l2:List Requirement→Nat→Option ((Bool) ⊕ (Unit))
 |[],o2_0=>some (Sum.inr (()))
 |xo2::xs,o2_0=>(if 70<(xo2.Values.length:Int)then(some false).map Sum.inl else F9_l2 xs (o2_0+1))
def F9(x0:Filter):Option (Bool):=(if 20<(x0.Selector.length:Int)then some false else(((ck (0≤x0.Selector.length∧x0.Selector.length≤4294967290)).bind fun u5=>F9_l2 x0.Selector 0:Option ((Bool) ⊕ (Unit))).bind fun o2=>match o2 with|Sum.inl f=>some f|Sum.inr po2=>some true))
def a9:AFn:=⟨23,[(.tmp 2)],
 (.seq (.reg [sq 1 (.box (.t 0)),
sq 2 (.mv (kB false))])
 (.seq (.seq (.reg [sq 4 (.fieldA 2 (.t 1)),
sq 5 (.load none (.t 4)),
sq 6 (.len (.t 5)),
sq 7 (.bin .gtr (.t 6) (kI 20))])
 (.cond (.t 7)
 (.seq (.reg [sq 2 (.mv (kB false))])
 .ret)
 .skip))
 (.seq (.seq (.reg [sq 3 (.mv (kI 0))])
 (.sem (.block 0 (.loop (.seq (.seq (.reg [sq 8 (.mv (.t 3)),
sq 9 (.fieldA 2 (.t 1)),
sq 10 (.load none (.t 9)),
sq 11 (.len (.t 10)),
sq 12 (.bin .lss (.t 8) (.t 11))])
 (.cond (.t 12)
 .skip
 (.exit 0)))
 (.seq (.block 1 (.seq (.reg [sq 15 (.fieldA 2 (.t 1)),
sq 16 (.load none (.t 15)),
sq 17 (.mv (.t 3)),
sq 18 (.indexA 3 (.t 16) (.t 17)),
sq 19 (.fieldA 2 (.t 18)),
sq 20 (.load none (.t 19)),
sq 21 (.len (.t 20)),
sq 22 (.bin .gtr (.t 21) (kI 70))])
 (.cond (.t 22)
 (.seq (.reg [sq 2 (.mv (kB false))])
 .ret)
 .skip)))
 (.reg [sq 13 (.mv (.t 3)),
sq 14 (.bin .add (.t 13) (kI 1)),
sq 3 (.mv (.t 14))])))))))
 (.seq (.reg [sq 2 (.mv (kB true))])
 .ret))))⟩
theorem a9_ok:afn Tryz.prog 9=some a9.er:=by kernel_rfl
theorem F9_ok{x0 r}(h:F9 x0=some r):CallD Tryz.prog 9 [.agg [dS x0.Kind,dS x0.Namespace,dM (x0.Selector.map eRequirement)]] [] (tupV [.c (dB r)]) []:=by
 refine callS a9_ok (by simp[a9]) ?_
 rw[F9]at h
 simp only[a9,VW.down,Nat.reduceEqDiff,reduceCtorEq,Nat.reduceAdd,Nat.reduceLeDiff,Nat.reduceLT,Nat.reduceBEq,Nat.reduceSub,EE.down]
 refine condSh h (fun c1 h=>?_) (fun c1 h=>?_)
 ·refine ww ?_
  cases h
  exact eF []
 refine ww ?_
 obtain⟨o2,ho,h⟩:=bi h
 refine cutS (fun s=>∃po2,o2=Sum.inr po2∧s=⟨[],[]⟩) ?_ ?_
 ·have h0o2:=h
  have h:=ho
  clear ho
  obtain⟨_,hk,h⟩:=bi h
  have hk:=ck_some hk
  refine ww ?_
  refine bL (fun j s=>∃(o2_0:Nat),(o2_0≤x0.Selector.length∧j=x0.Selector.length-o2_0)∧s=⟨[(1,.one (.c (.pt 0 0))),(3,.one (.c (dI ((o2_0:Int)))))],[some (.box [dS x0.Kind,dS x0.Namespace,dM (x0.Selector.map eRequirement)])]⟩∧F9_l2 (x0.Selector.drop o2_0) o2_0=some o2) (x0.Selector.length-0) [some 0] ⟨0,⟨hk.1,rfl⟩,rfl,h⟩ ?_
  rintro _ _ ⟨o2_0,⟨hi,rfl⟩,rfl,h⟩
  refine ww ?_
  refine condS (fun c3=>?_) (fun c3=>?_)
  ·obtain⟨xo2,hxo2,hd⟩:=countY (show(o2_0:Int)<(x0.Selector.length:Int)from c3)
   rw[hd,F9_l2]at h
   refine ww ?_
   refine t_idxF (enc:=eRequirement) (xs:=x0.Selector) rfl rfl hxo2 rfl (ww ?_)
   refine condSh h (fun c4 h=>?_) (fun c4 h=>?_)
   ·refine ww ?_
    obtain⟨fh0o2,hfh0o2,rfl⟩:=Option.map_eq_some_iff.1 h
    have h:=hfh0o2.trans h0o2
    cases h
    exact eF []
   refine ww ?_
   rw[wrapN (by omega)]
   exact eL' (x0.Selector.length-(o2_0+1)) [some 0] ⟨o2_0+1,⟨by omega,rfl⟩,rfl,h⟩ (by omega)
  rw[countN (show¬((o2_0:Int)<(x0.Selector.length:Int))from c3),F9_l2]at h
  refine ww ?_
  cases h
  exact eM [] ⟨_,rfl,rfl⟩
 rintro _ ⟨po2,rfl,rfl⟩
 clear ho
 dsimp only at h
 refine ww ?_
 cases h
 exact eF []
def F32:Option (Unit):=some (())
def a32:AFn:=⟨2,[(.cell 0 (some 6))],
 (.seq (.reg [zl 0 (.zbox [dI 0,dI 0,dI 0,dN,dN,dN]) [] []])
 (.seq (.reg [sq 1 (.build [dI 0,dI 0,dI 0,dN,dN,dN] [(2,1,(kI 1))]),
su (.store 6 (.t 0) (.t 1))])
 .ret))⟩
theorem a32_ok:afn Tryz.prog 32=some a32.er:=by kernel_rfl
theorem F32_ok{r}(h:F32=some r):CallD Tryz.prog 32 [] [] (tupV [.agg [dI 0,dI 0,dI 1,dM (([]:List Object).map eObject),dM (([]:List Object).map eObject),dM (([]:List Change).map eChange)]]) []:=by
 refine callS a32_ok (by simp[a32]) ?_
 rw[F32]at h
 simp only[a32,VW.down,Nat.reduceEqDiff,reduceCtorEq,Nat.reduceAdd,Nat.reduceLeDiff,Nat.reduceLT,Nat.reduceBEq,Nat.reduceSub,EE.down]
 cases h
 exact eF []
def F56(x0:ByteArray)(x1:ByteArray)(x2:ByteArray):Option (ByteArray):=(catI x0 ((⟨#[47]⟩:ByteArray))).bind fun s1=>(catI s1 x1).bind fun s2=>(catI s2 ((⟨#[47]⟩:ByteArray))).bind fun s3=>(catI s3 x2).bind fun s4=>some s4
def a56:AFn:=⟨14,[(.tmp 6)],
 (.seq (.reg [sq 6 (.mv (kS ⟨#[]⟩))])
 (.seq (.reg [sq 7 (.mv (.t 0)),
sq 8 (.bin .add (.t 7) (kS ⟨#[47]⟩)),
sq 9 (.mv (.t 1)),
sq 10 (.bin .add (.t 8) (.t 9)),
sq 11 (.bin .add (.t 10) (kS ⟨#[47]⟩)),
sq 12 (.mv (.t 2)),
sq 13 (.bin .add (.t 11) (.t 12)),
sq 6 (.mv (.t 13))])
 .ret))⟩
theorem a56_ok:afn Tryz.prog 56=some a56.er:=by kernel_rfl
theorem F56_ok{x0 x1 x2 r}(h:F56 x0 x1 x2=some r):CallD Tryz.prog 56 [.c (dS x0),.c (dS x1),.c (dS x2)] [] (tupV [.c (dS r)]) []:=by
 refine callS a56_ok (by simp[a56]) ?_
 rw[F56]at h
 simp only[a56,VW.down,Nat.reduceEqDiff,reduceCtorEq,Nat.reduceAdd,Nat.reduceLeDiff,Nat.reduceLT,Nat.reduceBEq,Nat.reduceSub,EE.down]
 obtain⟨s1,hs1,h⟩:=bi h
 obtain⟨hle,es1⟩:=cat_some hs1
 refine⟨hle,?_⟩
 first|rw[←es1]|subst es1
 refine ww ?_
 obtain⟨s2,hs2,h⟩:=bi h
 obtain⟨hle,es2⟩:=cat_some hs2
 refine⟨hle,?_⟩
 first|rw[←es2]|subst es2
 refine ww ?_
 obtain⟨s3,hs3,h⟩:=bi h
 obtain⟨hle,es3⟩:=cat_some hs3
 refine⟨hle,?_⟩
 first|rw[←es3]|subst es3
 refine ww ?_
 obtain⟨s4,hs4,h⟩:=bi h
 obtain⟨hle,es4⟩:=cat_some hs4
 refine⟨hle,?_⟩
 first|rw[←es4]|subst es4
 refine ww ?_
 cases h
 exact eF []
def F146_l1(x0:ByteArray):Nat→Int→Option ((Bool) ⊕ (Unit))
 |0,_=>none
 |k+1,o1_0=>(if o1_0<(x0.size:Int)then(((byI x0 o1_0).bind fun y4=>(if¬(y4=10)then(byI x0 o1_0).bind fun y6=>(if y6<32 then some true else(byI x0 o1_0).bind fun y8=>some (decide (126<y8)))else some false)).bind fun o3=>(if o3=true then(some false).map Sum.inl else F146_l1 x0 k ((IntKind.i64.wrap (o1_0+1)))))else some (Sum.inr (())))
def F146(x0:ByteArray):Option (Bool):=((F146_l1 x0 1099511627776 0:Option ((Bool) ⊕ (Unit))).bind fun o1=>match o1 with|Sum.inl f=>some f|Sum.inr po1=>some (decide ((x0.size:Int)≤200)))
def a146:AFn:=⟨29,[(.tmp 2)],
 (.seq (.reg [sq 2 (.mv (kB false))])
 (.seq (.seq (.reg [sq 4 (.mv (.t 0)),
sq 5 (.slen (.t 4)),
sq 6 (.mv (kI 0))])
 (.sem (.block 0 (.loop (.seq (.reg [sq 7 (.bin .lss (.t 6) (.t 5))])
 (.seq (.cond (.t 7)
 .skip
 (.exit 0))
 (.seq (.block 1 (.seq (.reg [sq 8 (.mv (.t 6)),
sq 3 (.mv (.t 8))])
 (.seq (.sem (.reg [sq 9 (.mv (.t 0)),
sq 10 (.mv (.t 3)),
sq 11 (.sidx (.t 9) (.t 10)),
sq 12 (.bin .neq (.t 11) (.k (.c (.d (.v (.int .u8 10)))))),
sq 13 (.mv (.t 12)),
zg 14 13 true (.mv (.t 0)),
zg 15 13 true (.mv (.t 3)),
zg 16 13 true (.sidx (.t 14) (.t 15)),
zg 17 13 true (.bin .lss (.t 16) (.k (.c (.d (.v (.int .u8 32)))))),
zg 18 13 true (.mv (.t 17)),
zg 19 18 false (.mv (.t 0)),
zg 20 18 false (.mv (.t 3)),
zg 21 18 false (.sidx (.t 19) (.t 20)),
zg 22 18 false (.bin .gtr (.t 21) (.k (.c (.d (.v (.int .u8 126)))))),
zg 23 13 true (.pick (.t 18) (kB true) (.t 22)),
sq 24 (.pick (.t 13) (.t 23) (kB false))]))
 (.cond (.t 24)
 (.seq (.reg [sq 2 (.mv (kB false))])
 .ret)
 .skip))))
 (.reg [sq 25 (.bin .add (.t 6) (kI 1)),
sq 6 (.mv (.t 25))]))))))))
 (.seq (.reg [sq 26 (.mv (.t 0)),
sq 27 (.slen (.t 26)),
sq 28 (.bin .leq (.t 27) (kI 200)),
sq 2 (.mv (.t 28))])
 .ret)))⟩
theorem a146_ok:afn Tryz.prog 146=some a146.er:=by kernel_rfl
theorem F146_ok{x0 r}(h:F146 x0=some r):CallD Tryz.prog 146 [.c (dS x0)] [] (tupV [.c (dB r)]) []:=by
 refine callS a146_ok (by simp[a146]) ?_
 rw[F146]at h
 simp only[a146,VW.down,Nat.reduceEqDiff,reduceCtorEq,Nat.reduceAdd,Nat.reduceLeDiff,Nat.reduceLT,Nat.reduceBEq,Nat.reduceSub,EE.down]
 obtain⟨o1,ho,h⟩:=bi h
 refine cutS (fun s=>∃po1,o1=Sum.inr po1∧s=⟨[(0,.one (.c (dS x0)))],[]⟩) ?_ ?_
 ·have h0o1:=h
  have h:=ho
  clear ho
  refine ww ?_
  refine bL (fun j s=>∃(o1_0:Int),s=⟨[(0,.one (.c (dS x0))),(5,.one (.c (dI ((x0.size:Int))))),(6,.one (.c (dI o1_0)))],[]⟩∧F146_l1 x0 j o1_0=some o1) 1099511627776 [] ⟨0,rfl,h⟩ ?_
  rintro j _ ⟨o1_0,rfl,h⟩
  cases j with
  |zero=>cases(show(none:Option _)=some _ from h)
  |succ j=>
   rw[F146_l1]at h
   refine ww ?_
   refine condSh h (fun c2 h=>?_) (fun c2 h=>?_)
   ·refine ww ?_
    obtain⟨o3,ho,h⟩:=bi h
    refine cutS (fun s=>s=⟨[(0,.one (.c (dS x0))),(5,.one (.c (dI ((x0.size:Int))))),(6,.one (.c (dI o1_0))),(24,.one (.c (dB o3)))],[]⟩) ?_ ?_
    ·have h:=ho
     clear ho
     refine ww ?_
     obtain⟨y4,hy4,h⟩:=bi h
     refine t_sidx rfl rfl hy4 (ww ?_)
     refine guardSh h (fun g5 h=>?_) (fun g5 h=>?_)
     ·refine ww ?_
      obtain⟨y6,hy6,h⟩:=bi h
      refine t_sidx rfl rfl hy6 (ww ?_)
      refine guardSh h (fun g7 h=>?_) (fun g7 h=>?_)
      ·refine ww ?_
       cases h
       exact eM [] rfl
      ·refine ww ?_
       obtain⟨y8,hy8,h⟩:=bi h
       refine t_sidx rfl rfl hy8 (ww ?_)
       cases h
       exact eM [] rfl
     ·refine ww ?_
      cases h
      exact eM [] rfl
    ·rintro _ rfl
     clear ho
     refine ww ?_
     refine condBh h (fun c9 h=>?_) (fun c9 h=>?_)
     ·refine ww ?_
      obtain⟨fh0o1,hfh0o1,rfl⟩:=Option.map_eq_some_iff.1 h
      have h:=hfh0o1.trans h0o1
      cases h
      exact eF []
     ·refine ww ?_
      exact eL' j [] ⟨(IntKind.i64.wrap (o1_0+1)),rfl,h⟩ (Nat.lt_succ_self _)
   ·refine ww ?_
    cases h
    exact eM [] ⟨_,rfl,rfl⟩
 rintro _ ⟨po1,rfl,rfl⟩
 clear ho
 dsimp only at h
 refine ww ?_
 cases h
 exact eF []
theorem a69_ok:afn Tryz.prog 69=some (cloneA 1 16):=by kernel_rfl
theorem F69_ok{x0 r:List ByteArray}(h:cloneI x0=some r):CallD Tryz.prog 69 [.c (dM (x0.map eS))] [] (tupV [.c (.own 0 1 0 r.length none)]) [some (.arr 1 1 (r.map eS))]:=L_clone a69_ok (fun _=>rfl) h
theorem a90_ok:afn Tryz.prog 90=some (cloneA 25 368):=by kernel_rfl
theorem F90_ok{x0 r:List Change}(h:cloneI x0=some r):CallD Tryz.prog 90 [.c (dM (x0.map eChange))] [] (tupV [.c (.own 0 1 0 r.length none)]) [some (.arr 1 25 (r.map eChange))]:=L_clone a90_ok (fun _=>rfl) h
noncomputable def fn128:Func:=(Tryz.prog.funcs[128]?).getD default
theorem fn128_ok:Tryz.prog.funcs[128]? =some fn128:=by kernel_rfl
theorem ov128(e0 e1 o0 o1 l0 l1:Nat)(c0 c1:Option Nat)(r0 r1:List (List D)):
  CallD Tryz.prog 128 [.c (.own 0 e0 o0 l0 c0),.c (.own 1 e1 o1 l1 c1)] [some (.arr e0 23 r0),some (.arr e1 23 r1)] (.one (aB false)) [some (.arr e0 23 r0),some (.arr e1 23 r1)]:=
 ovl_callD (tS:=31) (tT:=4) (e:=54) (ps:= #[31,31]) (rs:= #[4]) fn128_ok (by kernel_rfl) (by kernel_rfl) (by kernel_rfl) (by kernel_rfl) rfl rfl (by kernel_rfl) (by kernel_rfl) e0 e1 o0 o1 l0 l1 c0 c1 r0 r1
def F48_l2(x1:(List Owner)):List Owner→Nat→Option ((Bool) ⊕ (Unit))
 |[],o2_0=>some (Sum.inr (()))
 |xo2::xs,o2_0=>(rdI x1 ((o2_0:Int))).bind fun y4=>(if(nb ((decide (xo2.Kind=y4.Kind)&&(decide (xo2.Name=y4.Name)&&(decide (xo2.Uid=y4.Uid)&&((xo2.Controller==y4.Controller)&&(xo2.Block==y4.Block)))))))=true then(some false).map Sum.inl else F48_l2 x1 xs (o2_0+1))
def F48(x0:(List Owner))(x1:(List Owner)):Option (Bool):=(if¬((x0.length:Int)=(x1.length:Int))then some false else(((ck (0≤x0.length∧x0.length≤4294967290)).bind fun u6=>F48_l2 x1 x0 0:Option ((Bool) ⊕ (Unit))).bind fun o2=>match o2 with|Sum.inl f=>some f|Sum.inr po2=>some true))
def a48:AFn:=⟨26,[(.tmp 4)],
 (.seq (.reg [sq 4 (.mv (kB false))])
 (.seq (.seq (.reg [sq 6 (.mv (.t 0)),
sq 7 (.len (.t 6)),
sq 8 (.mv (.t 1)),
sq 9 (.len (.t 8)),
sq 10 (.bin .neq (.t 7) (.t 9))])
 (.cond (.t 10)
 (.seq (.reg [sq 4 (.mv (kB false))])
 .ret)
 .skip))
 (.seq (.seq (.reg [sq 11 (.mv (.t 0)),
sq 12 (.len (.t 11)),
sq 13 (.mv (kI 0))])
 (.sem (.block 0 (.loop (.seq (.reg [sq 14 (.bin .lss (.t 13) (.t 12))])
 (.seq (.cond (.t 14)
 .skip
 (.exit 0))
 (.seq (.block 1 (.seq (.reg [sq 15 (.mv (.t 13)),
sq 5 (.mv (.t 15))])
 (.seq (.regd [sq 16 (.mv (.t 0)),
sq 17 (.mv (.t 5)),
sd 18 (.indexA 5 (.t 16) (.t 17)) [0,1],
sd 19 (.load (some 5) (.t 18)) [0,1,2],
sq 20 (.mv (.t 1)),
sq 21 (.mv (.t 5)),
sd 22 (.indexA 5 (.t 20) (.t 21)) [4,5],
sd 23 (.load (some 5) (.t 22)) [4,5,6],
zl 24 (.eqs true [(0,2),(1,2),(2,0),(3,1),(4,1)] (.t 19) (.t 23)) [0,1,2,3,4,5,6,7] []])
 (.cond (.t 24)
 (.seq (.reg [sq 4 (.mv (kB false))])
 .ret)
 .skip))))
 (.reg [sq 25 (.bin .add (.t 13) (kI 1)),
sq 13 (.mv (.t 25))]))))))))
 (.seq (.reg [sq 4 (.mv (kB true))])
 .ret))))⟩
theorem a48_ok:afn Tryz.prog 48=some a48.er:=by kernel_rfl
theorem F48_ok{x0 x1 r}(h:F48 x0 x1=some r):CallD Tryz.prog 48 [.c (dM (x0.map eOwner)),.c (dM (x1.map eOwner))] [] (tupV [.c (dB r)]) []:=by
 refine callS a48_ok (by simp[a48]) ?_
 rw[F48]at h
 simp only[a48,VW.down,Nat.reduceEqDiff,reduceCtorEq,Nat.reduceAdd,Nat.reduceLeDiff,Nat.reduceLT,Nat.reduceBEq,Nat.reduceSub,EE.down]
 refine condSh h (fun c1 h=>?_) (fun c1 h=>?_)
 ·refine ww ?_
  cases h
  exact eF []
 refine ww ?_
 obtain⟨o2,ho,h⟩:=bi h
 refine cutS (fun s=>∃po2,o2=Sum.inr po2∧s=⟨[],[]⟩) ?_ ?_
 ·have h0o2:=h
  have h:=ho
  clear ho
  obtain⟨_,hk,h⟩:=bi h
  have hk:=ck_some hk
  refine ww ?_
  refine bL (fun j s=>∃(o2_0:Nat),(o2_0≤x0.length∧j=x0.length-o2_0)∧s=⟨[(0,.one (.c (dM (x0.map eOwner)))),(1,.one (.c (dM (x1.map eOwner)))),(12,.one (.c (dI ((x0.length:Int))))),(13,.one (.c (dI ((o2_0:Int)))))],[]⟩∧F48_l2 x1 (x0.drop o2_0) o2_0=some o2) (x0.length-0) [] ⟨0,⟨hk.1,rfl⟩,rfl,h⟩ ?_
  rintro _ _ ⟨o2_0,⟨hi,rfl⟩,rfl,h⟩
  refine ww ?_
  refine condS (fun c3=>?_) (fun c3=>?_)
  ·obtain⟨xo2,hxo2,hd⟩:=countY (show(o2_0:Int)<(x0.length:Int)from c3)
   rw[hd,F48_l2]at h
   refine ww ?_
   refine t_idxF (enc:=eOwner) (xs:=x0) rfl rfl hxo2 rfl (ww ?_)
   obtain⟨y4,hy4,h⟩:=bi h
   refine t_idxF (enc:=eOwner) (xs:=x1) rfl rfl hy4 rfl (ww ?_)
   refine condBh h (fun c5 h=>?_) (fun c5 h=>?_)
   ·refine ww ?_
    obtain⟨fh0o2,hfh0o2,rfl⟩:=Option.map_eq_some_iff.1 h
    have h:=hfh0o2.trans h0o2
    cases h
    exact eF []
   refine ww ?_
   rw[wrapN (by omega)]
   exact eL' (x0.length-(o2_0+1)) [] ⟨o2_0+1,⟨by omega,rfl⟩,rfl,h⟩ (by omega)
  rw[countN (show¬((o2_0:Int)<(x0.length:Int))from c3),F48_l2]at h
  refine ww ?_
  cases h
  exact eM [] ⟨_,rfl,rfl⟩
 rintro _ ⟨po2,rfl,rfl⟩
 clear ho
 dsimp only at h
 refine ww ?_
 cases h
 exact eF []
def F122_l1(x1:ByteArray):List ByteArray→Nat→Option ((Int) ⊕ (Unit))
 |[],o1_0=>some (Sum.inr (()))
 |xo1::xs,o1_0=>(if x1=xo1 then(some ((o1_0:Int))).map Sum.inl else F122_l1 x1 xs (o1_0+1))
def F122(x0:(List ByteArray))(x1:ByteArray):Option (Int):=(((ck (0≤x0.length∧x0.length≤4294967290)).bind fun u4=>F122_l1 x1 x0 0:Option ((Int) ⊕ (Unit))).bind fun o1=>match o1 with|Sum.inl f=>some f|Sum.inr po1=>some ((-1)))
def a122:AFn:=⟨19,[(.tmp 4)],
 (.seq (.reg [sq 4 (.mv (kI 0))])
 (.seq (.seq (.reg [sq 6 (.mv (.t 0)),
sq 7 (.len (.t 6)),
sq 8 (.mv (kI 0))])
 (.sem (.block 0 (.loop (.seq (.reg [sq 9 (.bin .lss (.t 8) (.t 7))])
 (.seq (.cond (.t 9)
 .skip
 (.exit 0))
 (.seq (.block 1 (.seq (.reg [sq 10 (.mv (.t 8)),
sq 5 (.mv (.t 10))])
 (.seq (.reg [sq 11 (.mv (.t 1)),
sq 12 (.mv (.t 0)),
sq 13 (.mv (.t 5)),
sq 14 (.indexA 1 (.t 12) (.t 13)),
sq 15 (.load none (.t 14)),
sq 16 (.bin .eql (.t 11) (.t 15))])
 (.cond (.t 16)
 (.seq (.reg [sq 17 (.mv (.t 5)),
sq 4 (.mv (.t 17))])
 .ret)
 .skip))))
 (.reg [sq 18 (.bin .add (.t 8) (kI 1)),
sq 8 (.mv (.t 18))]))))))))
 (.seq (.reg [sq 4 (.mv (kI (-1)))])
 .ret)))⟩
theorem a122_ok:afn Tryz.prog 122=some a122.er:=by kernel_rfl
theorem F122_ok{x0 x1 r}(h:F122 x0 x1=some r):CallD Tryz.prog 122 [.c (dM (x0.map eS)),.c (dS x1)] [] (tupV [.c (dI r)]) []:=by
 refine callS a122_ok (by simp[a122]) ?_
 rw[F122]at h
 simp only[a122,VW.down,Nat.reduceEqDiff,reduceCtorEq,Nat.reduceAdd,Nat.reduceLeDiff,Nat.reduceLT,Nat.reduceBEq,Nat.reduceSub,EE.down]
 obtain⟨o1,ho,h⟩:=bi h
 refine cutS (fun s=>∃po1,o1=Sum.inr po1∧s=⟨[],[]⟩) ?_ ?_
 ·have h0o1:=h
  have h:=ho
  clear ho
  obtain⟨_,hk,h⟩:=bi h
  have hk:=ck_some hk
  refine ww ?_
  refine bL (fun j s=>∃(o1_0:Nat),(o1_0≤x0.length∧j=x0.length-o1_0)∧s=⟨[(0,.one (.c (dM (x0.map eS)))),(1,.one (.c (dS x1))),(7,.one (.c (dI ((x0.length:Int))))),(8,.one (.c (dI ((o1_0:Int)))))],[]⟩∧F122_l1 x1 (x0.drop o1_0) o1_0=some o1) (x0.length-0) [] ⟨0,⟨hk.1,rfl⟩,rfl,h⟩ ?_
  rintro _ _ ⟨o1_0,⟨hi,rfl⟩,rfl,h⟩
  refine ww ?_
  refine condS (fun c2=>?_) (fun c2=>?_)
  ·obtain⟨xo1,hxo1,hd⟩:=countY (show(o1_0:Int)<(x0.length:Int)from c2)
   rw[hd,F122_l1]at h
   refine ww ?_
   refine t_idxF (enc:=eS) (xs:=x0) rfl rfl hxo1 rfl (ww ?_)
   refine condSh h (fun c3 h=>?_) (fun c3 h=>?_)
   ·refine ww ?_
    obtain⟨fh0o1,hfh0o1,rfl⟩:=Option.map_eq_some_iff.1 h
    have h:=hfh0o1.trans h0o1
    cases h
    exact eF []
   refine ww ?_
   rw[wrapN (by omega)]
   exact eL' (x0.length-(o1_0+1)) [] ⟨o1_0+1,⟨by omega,rfl⟩,rfl,h⟩ (by omega)
  rw[countN (show¬((o1_0:Int)<(x0.length:Int))from c2),F122_l1]at h
  refine ww ?_
  cases h
  exact eM [] ⟨_,rfl,rfl⟩
 rintro _ ⟨po1,rfl,rfl⟩
 clear ho
 dsimp only at h
 refine ww ?_
 cases h
 exact eF []
def F44_l12(y7:Requirement):List ByteArray→Nat→Option (((Bool) ⊕ (Unit)) ⊕ (Unit))
 |[],o12_0=>some (Sum.inr (()))
 |xo12::xs,o12_0=>(rdI y7.Values ((o12_0:Int))).bind fun y14=>(if¬(xo12=y14)then((some false).map Sum.inl).map Sum.inl else F44_l12 y7 xs (o12_0+1))
def F44_l5(x1:Filter):List Requirement→Nat→Option ((Bool) ⊕ (Unit))
 |[],o5_0=>some (Sum.inr (()))
 |xo5::xs,o5_0=>(rdI x1.Selector ((o5_0:Int))).bind fun y7=>(((if¬(xo5.Key=y7.Key)then some true else(if¬(xo5.Op=y7.Op)then some true else some (decide (¬((xo5.Values.length:Int)=(y7.Values.length:Int))))))).bind fun o8=>(if o8=true then(some false).map Sum.inl else(((ck (0≤xo5.Values.length∧xo5.Values.length≤4294967290)).bind fun u16=>F44_l12 y7 xo5.Values 0:Option (((Bool) ⊕ (Unit)) ⊕ (Unit))).bind fun o12=>match o12 with|Sum.inl f=>some f|Sum.inr po12=>F44_l5 x1 xs (o5_0+1))))
def F44(x0:Filter)(x1:Filter):Option (Bool):=(((if¬(x0.Kind=x1.Kind)then some true else(if¬(x0.Namespace=x1.Namespace)then some true else some (decide (¬((x0.Selector.length:Int)=(x1.Selector.length:Int))))))).bind fun o1=>(if o1=true then some false else(((ck (0≤x0.Selector.length∧x0.Selector.length≤4294967290)).bind fun u17=>F44_l5 x1 x0.Selector 0:Option ((Bool) ⊕ (Unit))).bind fun o5=>match o5 with|Sum.inl f=>some f|Sum.inr po5=>some true)))
def a44:AFn:=⟨86,[(.tmp 4)],
 (.seq (.reg [sq 2 (.box (.t 0)),
sq 3 (.box (.t 1)),
sq 4 (.mv (kB false))])
 (.seq (.seq (.sem (.reg [sq 9 (.fieldA 0 (.t 2)),
sq 10 (.load none (.t 9)),
sq 11 (.fieldA 0 (.t 3)),
sq 12 (.load none (.t 11)),
sq 13 (.bin .neq (.t 10) (.t 12)),
sq 14 (.mv (.t 13)),
zg 15 14 false (.fieldA 1 (.t 2)),
zg 16 14 false (.load none (.t 15)),
zg 17 14 false (.fieldA 1 (.t 3)),
zg 18 14 false (.load none (.t 17)),
zg 19 14 false (.bin .neq (.t 16) (.t 18)),
sq 20 (.pick (.t 14) (kB true) (.t 19)),
sq 21 (.mv (.t 20)),
zg 22 21 false (.fieldA 2 (.t 2)),
zg 23 21 false (.load none (.t 22)),
zg 24 21 false (.len (.t 23)),
zg 25 21 false (.fieldA 2 (.t 3)),
zg 26 21 false (.load none (.t 25)),
zg 27 21 false (.len (.t 26)),
zg 28 21 false (.bin .neq (.t 24) (.t 27)),
sq 29 (.pick (.t 21) (kB true) (.t 28))]))
 (.cond (.t 29)
 (.seq (.reg [sq 4 (.mv (kB false))])
 .ret)
 .skip))
 (.seq (.seq (.reg [sq 5 (.mv (kI 0))])
 (.sem (.block 0 (.loop (.seq (.seq (.reg [sq 30 (.mv (.t 5)),
sq 31 (.fieldA 2 (.t 2)),
sq 32 (.load none (.t 31)),
sq 33 (.len (.t 32)),
sq 34 (.bin .lss (.t 30) (.t 33))])
 (.cond (.t 34)
 .skip
 (.exit 0)))
 (.seq (.block 1 (.seq (.regd [sq 37 (.fieldA 2 (.t 2)),
sd 38 (.load none (.t 37)) [0],
sq 39 (.mv (.t 5)),
sd 40 (.indexA 3 (.t 38) (.t 39)) [0,1,2],
sd 41 (.load (some 3) (.t 40)) [0,1,2,3],
sq 42 (.fieldA 2 (.t 3)),
sd 43 (.load none (.t 42)) [5],
sq 44 (.mv (.t 5)),
sd 45 (.indexA 3 (.t 43) (.t 44)) [5,6,7],
sd 46 (.load (some 3) (.t 45)) [5,6,7,8],
sq 6 (.zbox [dS ⟨#[]⟩,dI 0,dN]),
sq 7 (.zbox [dS ⟨#[]⟩,dI 0,dN]),
⟨none,none,.store 3 (.t 6) (.t 41),[0,1,2,3,4,10,11],(.lone [3,42,43,45])⟩,
⟨none,none,.store 3 (.t 7) (.t 46),[0,1,2,3,4,5,6,7,8,9,10,11,12],(.lone [])⟩])
 (.seq (.seq (.sem (.reg [sq 47 (.fieldA 0 (.t 6)),
sq 48 (.load none (.t 47)),
sq 49 (.fieldA 0 (.t 7)),
sq 50 (.load none (.t 49)),
sq 51 (.bin .neq (.t 48) (.t 50)),
sq 52 (.mv (.t 51)),
zg 53 52 false (.fieldA 1 (.t 6)),
zg 54 52 false (.load none (.t 53)),
zg 55 52 false (.fieldA 1 (.t 7)),
zg 56 52 false (.load none (.t 55)),
zg 57 52 false (.bin .neq (.t 54) (.t 56)),
sq 58 (.pick (.t 52) (kB true) (.t 57)),
sq 59 (.mv (.t 58)),
zg 60 59 false (.fieldA 2 (.t 6)),
zg 61 59 false (.load none (.t 60)),
zg 62 59 false (.len (.t 61)),
zg 63 59 false (.fieldA 2 (.t 7)),
zg 64 59 false (.load none (.t 63)),
zg 65 59 false (.len (.t 64)),
zg 66 59 false (.bin .neq (.t 62) (.t 65)),
sq 67 (.pick (.t 59) (kB true) (.t 66))]))
 (.cond (.t 67)
 (.seq (.reg [sq 4 (.mv (kB false))])
 .ret)
 .skip))
 (.seq (.reg [sq 8 (.mv (kI 0))])
 (.sem (.block 2 (.loop (.seq (.seq (.reg [sq 68 (.mv (.t 8)),
sq 69 (.fieldA 2 (.t 6)),
sq 70 (.load none (.t 69)),
sq 71 (.len (.t 70)),
sq 72 (.bin .lss (.t 68) (.t 71))])
 (.cond (.t 72)
 .skip
 (.exit 2)))
 (.seq (.block 3 (.seq (.regd [sq 75 (.fieldA 2 (.t 6)),
sd 76 (.load none (.t 75)) [0],
sq 77 (.mv (.t 8)),
sd 78 (.indexA 1 (.t 76) (.t 77)) [0,1,2],
sd 79 (.load none (.t 78)) [0,1,2,3],
sq 80 (.fieldA 2 (.t 7)),
sd 81 (.load none (.t 80)) [5],
sq 82 (.mv (.t 8)),
sd 83 (.indexA 1 (.t 81) (.t 82)) [5,6,7],
sd 84 (.load none (.t 83)) [5,6,7,8],
sd 85 (.bin .neq (.t 79) (.t 84)) [0,1,2,3,4,5,6,7,8,9]])
 (.cond (.t 85)
 (.seq (.reg [sq 4 (.mv (kB false))])
 .ret)
 .skip)))
 (.reg [sq 73 (.mv (.t 8)),
sq 74 (.bin .add (.t 73) (kI 1)),
sq 8 (.mv (.t 74))]))))))))))
 (.reg [sq 35 (.mv (.t 5)),
sq 36 (.bin .add (.t 35) (kI 1)),
sq 5 (.mv (.t 36))])))))))
 (.seq (.reg [sq 4 (.mv (kB true))])
 .ret))))⟩
theorem a44_ok:afn Tryz.prog 44=some a44.er:=by kernel_rfl
theorem F44_ok{x0 x1 r}(h:F44 x0 x1=some r):CallD Tryz.prog 44 [.agg [dS x0.Kind,dS x0.Namespace,dM (x0.Selector.map eRequirement)],.agg [dS x1.Kind,dS x1.Namespace,dM (x1.Selector.map eRequirement)]] [] (tupV [.c (dB r)]) []:=by
 refine callS a44_ok (by simp[a44]) ?_
 rw[F44]at h
 simp only[a44,VW.down,Nat.reduceEqDiff,reduceCtorEq,Nat.reduceAdd,Nat.reduceLeDiff,Nat.reduceLT,Nat.reduceBEq,Nat.reduceSub,EE.down]
 obtain⟨o1,ho,h⟩:=bi h
 refine cutS (fun s=>s=⟨[(2,.one (.c (.pt 0 0))),(3,.one (.c (.pt 1 0))),(29,.one (.c (dB o1)))],[some (.box [dS x0.Kind,dS x0.Namespace,dM (x0.Selector.map eRequirement)]),some (.box [dS x1.Kind,dS x1.Namespace,dM (x1.Selector.map eRequirement)])]⟩) ?_ ?_
 ·have h:=ho
  clear ho
  refine ww ?_
  refine guardSh h (fun g2 h=>?_) (fun g2 h=>?_)
  ·refine ww ?_
   cases h
   exact eM [some 0,some 1] rfl
  refine ww ?_
  refine guardSh h (fun g3 h=>?_) (fun g3 h=>?_)
  ·refine ww ?_
   cases h
   exact eM [some 0,some 1] rfl
  refine ww ?_
  cases h
  exact eM [some 0,some 1] rfl
 rintro _ rfl
 clear ho
 refine ww ?_
 refine condBh h (fun c4 h=>?_) (fun c4 h=>?_)
 ·refine ww ?_
  cases h
  exact eF []
 refine ww ?_
 obtain⟨o5,ho,h⟩:=bi h
 refine cutS (fun s=>∃po5,o5=Sum.inr po5∧s=⟨[],[]⟩) ?_ ?_
 ·have h0o5:=h
  have h:=ho
  clear ho
  obtain⟨_,hk,h⟩:=bi h
  have hk:=ck_some hk
  refine ww ?_
  refine bL (fun j s=>∃(o5_0:Nat),(o5_0≤x0.Selector.length∧j=x0.Selector.length-o5_0)∧s=⟨[(2,.one (.c (.pt 0 0))),(3,.one (.c (.pt 1 0))),(5,.one (.c (dI ((o5_0:Int)))))],[some (.box [dS x0.Kind,dS x0.Namespace,dM (x0.Selector.map eRequirement)]),some (.box [dS x1.Kind,dS x1.Namespace,dM (x1.Selector.map eRequirement)])]⟩∧F44_l5 x1 (x0.Selector.drop o5_0) o5_0=some o5) (x0.Selector.length-0) [some 0,some 1] ⟨0,⟨hk.1,rfl⟩,rfl,h⟩ ?_
  rintro _ _ ⟨o5_0,⟨hi,rfl⟩,rfl,h⟩
  refine ww ?_
  refine condS (fun c6=>?_) (fun c6=>?_)
  ·obtain⟨xo5,hxo5,hd⟩:=countY (show(o5_0:Int)<(x0.Selector.length:Int)from c6)
   rw[hd,F44_l5]at h
   refine ww ?_
   refine t_idxF (enc:=eRequirement) (xs:=x0.Selector) rfl rfl hxo5 rfl (ww ?_)
   obtain⟨y7,hy7,h⟩:=bi h
   refine t_idxF (enc:=eRequirement) (xs:=x1.Selector) rfl rfl hy7 rfl (ww ?_)
   refine kD_new (by simp[wrs,allW,hset]) (ww ?_)
   refine kD_new (by simp[wrs,allW,hset]) (ww ?_)
   obtain⟨o8,ho,h⟩:=bi h
   refine cutS (fun s=>s=⟨[(2,.one (.c (.pt 0 0))),(3,.one (.c (.pt 1 0))),(5,.one (.c (dI ((o5_0:Int))))),(6,.one (.c (.pt 2 0))),(7,.one (.c (.pt 3 0))),(67,.one (.c (dB o8)))],[some (.box [dS x0.Kind,dS x0.Namespace,dM (x0.Selector.map eRequirement)]),some (.box [dS x1.Kind,dS x1.Namespace,dM (x1.Selector.map eRequirement)]),some (.box [dS xo5.Key,dI xo5.Op,dM (xo5.Values.map eS)]),some (.box [dS y7.Key,dI y7.Op,dM (y7.Values.map eS)])]⟩) ?_ ?_
   ·have h:=ho
    clear ho
    refine ww ?_
    refine guardSh h (fun g9 h=>?_) (fun g9 h=>?_)
    ·refine ww ?_
     cases h
     exact eM [some 0,some 1,some 2,some 3] rfl
    refine ww ?_
    refine guardSh h (fun g10 h=>?_) (fun g10 h=>?_)
    ·refine ww ?_
     cases h
     exact eM [some 0,some 1,some 2,some 3] rfl
    refine ww ?_
    cases h
    exact eM [some 0,some 1,some 2,some 3] rfl
   rintro _ rfl
   clear ho
   refine ww ?_
   refine condBh h (fun c11 h=>?_) (fun c11 h=>?_)
   ·refine ww ?_
    obtain⟨fh0o5,hfh0o5,rfl⟩:=Option.map_eq_some_iff.1 h
    have h:=hfh0o5.trans h0o5
    cases h
    exact eF []
   refine ww ?_
   obtain⟨o12,ho,h⟩:=bi h
   refine cutS (fun s=>∃po12,o12=Sum.inr po12∧s=⟨[(2,.one (.c (.pt 0 0))),(3,.one (.c (.pt 1 0))),(5,.one (.c (dI ((o5_0:Int)))))],[some (.box [dS x0.Kind,dS x0.Namespace,dM (x0.Selector.map eRequirement)]),some (.box [dS x1.Kind,dS x1.Namespace,dM (x1.Selector.map eRequirement)])]⟩) ?_ ?_
   ·have h0o12:=h
    have h:=ho
    clear ho
    obtain⟨_,hk,h⟩:=bi h
    have hk:=ck_some hk
    refine ww ?_
    refine bL (fun j s=>∃(o12_0:Nat),(o12_0≤xo5.Values.length∧j=xo5.Values.length-o12_0)∧s=⟨[(2,.one (.c (.pt 0 0))),(3,.one (.c (.pt 1 0))),(5,.one (.c (dI ((o5_0:Int))))),(6,.one (.c (.pt 2 0))),(7,.one (.c (.pt 3 0))),(8,.one (.c (dI ((o12_0:Int)))))],[some (.box [dS x0.Kind,dS x0.Namespace,dM (x0.Selector.map eRequirement)]),some (.box [dS x1.Kind,dS x1.Namespace,dM (x1.Selector.map eRequirement)]),some (.box [dS xo5.Key,dI xo5.Op,dM (xo5.Values.map eS)]),some (.box [dS y7.Key,dI y7.Op,dM (y7.Values.map eS)])]⟩∧F44_l12 y7 (xo5.Values.drop o12_0) o12_0=some o12) (xo5.Values.length-0) [some 0,some 1,some 2,some 3] ⟨0,⟨hk.1,rfl⟩,rfl,h⟩ ?_
    rintro _ _ ⟨o12_0,⟨hi,rfl⟩,rfl,h⟩
    refine ww ?_
    refine condS (fun c13=>?_) (fun c13=>?_)
    ·obtain⟨xo12,hxo12,hd⟩:=countY (show(o12_0:Int)<(xo5.Values.length:Int)from c13)
     rw[hd,F44_l12]at h
     refine ww ?_
     refine t_idxF (enc:=eS) (xs:=xo5.Values) rfl rfl hxo12 rfl (ww ?_)
     obtain⟨y14,hy14,h⟩:=bi h
     refine t_idxF (enc:=eS) (xs:=y7.Values) rfl rfl hy14 rfl (ww ?_)
     refine condSh h (fun c15 h=>?_) (fun c15 h=>?_)
     ·refine ww ?_
      obtain⟨fh0o12,hfh0o12,rfl⟩:=Option.map_eq_some_iff.1 h
      have h:=hfh0o12.trans h0o12
      obtain⟨fh0o5,hfh0o5,rfl⟩:=Option.map_eq_some_iff.1 h
      have h:=hfh0o5.trans h0o5
      cases h
      exact eF []
     refine ww ?_
     rw[wrapN (by omega)]
     exact eL' (xo5.Values.length-(o12_0+1)) [some 0,some 1,some 2,some 3] ⟨o12_0+1,⟨by omega,rfl⟩,rfl,h⟩ (by omega)
    rw[countN (show¬((o12_0:Int)<(xo5.Values.length:Int))from c13),F44_l12]at h
    refine ww ?_
    cases h
    exact eM [some 0,some 1] ⟨_,rfl,rfl⟩
   rintro _ ⟨po12,rfl,rfl⟩
   clear ho
   dsimp only at h
   refine ww ?_
   rw[wrapN (by omega)]
   exact eL' (x0.Selector.length-(o5_0+1)) [some 0,some 1] ⟨o5_0+1,⟨by omega,rfl⟩,rfl,h⟩ (by omega)
  rw[countN (show¬((o5_0:Int)<(x0.Selector.length:Int))from c6),F44_l5]at h
  refine ww ?_
  cases h
  exact eM [] ⟨_,rfl,rfl⟩
 rintro _ ⟨po5,rfl,rfl⟩
 clear ho
 dsimp only at h
 refine ww ?_
 cases h
 exact eF []
end Go.Proofs.YtondgcmdhkhkkaaGreat
