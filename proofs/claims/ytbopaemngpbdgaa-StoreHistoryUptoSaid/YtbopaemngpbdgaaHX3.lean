/- Each Go function as a function over typed data, and its walk. -/
import Derived.Test.YtbopaemngpbdgaaHX
namespace Go.Proofs.Ytbopaemngpbdgaa
open Go Go.Fw Go.Shelf
set_option maxRecDepth 100000
set_option maxHeartbeats 4000000
set_option linter.unusedSimpArgs false
set_option linter.unusedVariables false
def F82_l1(x0:ByteArray):Nat→Int→Option ((Bool) ⊕ (Unit))
 |0,_=>none
 |k+1,o1_0=>(if o1_0<(x0.size:Int)then(byI x0 o1_0).bind fun y3=>(((if 97≤y3 then(if y3≤122 then some false else(if 48≤y3 then(if y3≤57 then some false else some (decide (¬(y3=45))))else some (decide (¬(y3=45)))))else(if 48≤y3 then(if y3≤57 then some false else some (decide (¬(y3=45))))else some (decide (¬(y3=45)))))).bind fun o4=>(if o4=true then(some false).map Sum.inl else F82_l1 x0 k ((IntKind.i64.wrap (o1_0+1)))))else some (Sum.inr (())))
def F82(x0:ByteArray):Option (Bool):=((F82_l1 x0 1099511627776 0:Option ((Bool) ⊕ (Unit))).bind fun o1=>match o1 with|Sum.inl f=>some f|Sum.inr po1=>(((if 1≤(x0.size:Int)then(if(x0.size:Int)≤40 then(byI x0 0).bind fun y15=>(if¬(y15=45)then(byI x0 ((IntKind.i64.wrap (((x0.size:Int))-1)))).bind fun y17=>some (decide (¬(y17=45)))else some false)else some false)else some false)).bind fun o12=>some o12))
def a82:AFn:=⟨54,[(.tmp 2)],
 (.seq (.reg [sq 2 (.mv (kB false))])
 (.seq (.seq (.reg [sq 5 (.mv (.t 0)),
sq 6 (.slen (.t 5)),
sq 7 (.mv (kI 0))])
 (.sem (.block 0 (.loop (.seq (.reg [sq 8 (.bin .lss (.t 7) (.t 6))])
 (.seq (.cond (.t 8)
 .skip
 (.exit 0))
 (.seq (.block 1 (.seq (.reg [sq 9 (.mv (.t 7)),
sq 3 (.mv (.t 9))])
 (.seq (.reg [sq 10 (.mv (.t 0)),
sq 11 (.mv (.t 3)),
sq 12 (.sidx (.t 10) (.t 11)),
sq 4 (.mv (.t 12))])
 (.seq (.sem (.reg [sq 13 (.mv (.t 4)),
sq 14 (.bin .geq (.t 13) (.k (.c (.d (.v (.int .u8 97)))))),
sq 15 (.mv (.t 14)),
zg 16 15 true (.mv (.t 4)),
zg 17 15 true (.bin .leq (.t 16) (.k (.c (.d (.v (.int .u8 122)))))),
sq 18 (.pick (.t 15) (.t 17) (kB false)),
sq 19 (.mv (.t 18)),
zg 20 19 false (.mv (.t 4)),
zg 21 19 false (.bin .geq (.t 20) (.k (.c (.d (.v (.int .u8 48)))))),
zg 22 19 false (.mv (.t 21)),
zg 23 22 true (.mv (.t 4)),
zg 24 22 true (.bin .leq (.t 23) (.k (.c (.d (.v (.int .u8 57)))))),
zg 25 19 false (.pick (.t 22) (.t 24) (kB false)),
sq 26 (.pick (.t 19) (kB true) (.t 25)),
sq 27 (.mv (.t 26)),
zg 28 27 false (.mv (.t 4)),
zg 29 27 false (.bin .eql (.t 28) (.k (.c (.d (.v (.int .u8 45)))))),
sq 30 (.pick (.t 27) (kB true) (.t 29)),
sq 31 (.not (.t 30))]))
 (.cond (.t 31)
 (.seq (.reg [sq 2 (.mv (kB false))])
 .ret)
 .skip)))))
 (.reg [sq 32 (.bin .add (.t 7) (kI 1)),
sq 7 (.mv (.t 32))]))))))))
 (.seq (.sem (.reg [sq 33 (.mv (.t 0)),
sq 34 (.slen (.t 33)),
sq 35 (.bin .geq (.t 34) (kI 1)),
sq 36 (.mv (.t 35)),
zg 37 36 true (.mv (.t 0)),
zg 38 36 true (.slen (.t 37)),
zg 39 36 true (.bin .leq (.t 38) (kI 40)),
sq 40 (.pick (.t 36) (.t 39) (kB false)),
sq 41 (.mv (.t 40)),
zg 42 41 true (.mv (.t 0)),
zg 43 41 true (.sidx (.t 42) (kI 0)),
zg 44 41 true (.bin .neq (.t 43) (.k (.c (.d (.v (.int .u8 45)))))),
sq 45 (.pick (.t 41) (.t 44) (kB false)),
sq 46 (.mv (.t 45)),
zg 47 46 true (.mv (.t 0)),
zg 48 46 true (.mv (.t 0)),
zg 49 46 true (.slen (.t 48)),
zg 50 46 true (.bin .sub (.t 49) (kI 1)),
zg 51 46 true (.sidx (.t 47) (.t 50)),
zg 52 46 true (.bin .neq (.t 51) (.k (.c (.d (.v (.int .u8 45)))))),
sq 53 (.pick (.t 46) (.t 52) (kB false)),
sq 2 (.mv (.t 53))]))
 .ret)))⟩
theorem a82_ok:afn Try.prog 82=some a82.er:=by kernel_rfl
theorem F82_ok{x0 r}(h:F82 x0=some r):CallD Try.prog 82 [.c (dS x0)] [] (tupV [.c (dB r)]) []:=by
 refine callS a82_ok (by simp[a82]) ?_
 rw[F82]at h
 simp only[a82,VW.down,Nat.reduceEqDiff,reduceCtorEq,Nat.reduceAdd,Nat.reduceLeDiff,Nat.reduceLT,Nat.reduceBEq,Nat.reduceSub,EE.down]
 obtain⟨o1,ho,h⟩:=bi h
 refine cutS (fun s=>∃po1,o1=Sum.inr po1∧s=⟨[(0,.one (.c (dS x0)))],[]⟩) ?_ ?_
 ·have h0o1:=h
  have h:=ho
  clear ho
  refine ww ?_
  refine bL (fun j s=>∃(o1_0:Int),s=⟨[(0,.one (.c (dS x0))),(6,.one (.c (dI ((x0.size:Int))))),(7,.one (.c (dI o1_0)))],[]⟩∧F82_l1 x0 j o1_0=some o1) 1099511627776 [] ⟨0,rfl,h⟩ ?_
  rintro j _ ⟨o1_0,rfl,h⟩
  cases j with
  |zero=>cases(show(none:Option _)=some _ from h)
  |succ j=>
   rw[F82_l1]at h
   refine ww ?_
   refine condSh h (fun c2 h=>?_) (fun c2 h=>?_)
   ·refine ww ?_
    obtain⟨y3,hy3,h⟩:=bi h
    refine t_sidx rfl rfl hy3 (ww ?_)
    obtain⟨o4,ho,h⟩:=bi h
    refine cutS (fun s=>s=⟨[(0,.one (.c (dS x0))),(6,.one (.c (dI ((x0.size:Int))))),(7,.one (.c (dI o1_0))),(31,.one (.c (dB o4)))],[]⟩) ?_ ?_
    ·have h:=ho
     clear ho
     refine ww ?_
     refine guardSh h (fun g5 h=>?_) (fun g5 h=>?_)
     ·refine ww ?_
      refine guardSh h (fun g6 h=>?_) (fun g6 h=>?_)
      ·refine ww ?_
       cases h
       exact eM [] rfl
      ·refine ww ?_
       refine guardSh h (fun g7 h=>?_) (fun g7 h=>?_)
       ·refine ww ?_
        refine guardSh h (fun g8 h=>?_) (fun g8 h=>?_)
        ·refine ww ?_
         cases h
         exact eM [] rfl
        ·refine ww ?_
         cases h
         exact eM [] rfl
       ·refine ww ?_
        cases h
        exact eM [] rfl
     ·refine ww ?_
      refine guardSh h (fun g9 h=>?_) (fun g9 h=>?_)
      ·refine ww ?_
       refine guardSh h (fun g10 h=>?_) (fun g10 h=>?_)
       ·refine ww ?_
        cases h
        exact eM [] rfl
       ·refine ww ?_
        cases h
        exact eM [] rfl
      ·refine ww ?_
       cases h
       exact eM [] rfl
    ·rintro _ rfl
     clear ho
     refine ww ?_
     refine condBh h (fun c11 h=>?_) (fun c11 h=>?_)
     ·refine ww ?_
      obtain⟨fh0o1,hfh0o1,rfl⟩:=Option.map_eq_some_iff.1 h
      have h:=hfh0o1.trans h0o1
      cases h
      exact eF []
     ·refine ww ?_
      exact eL' j [] ⟨(IntKind.i64.wrap (o1_0+1)),rfl,h⟩ (Nat.lt_succ_self _)
   ·refine ww ?_
    cases h
    exact eM [] ⟨_,rfl,rfl⟩
 rintro _ ⟨po1,rfl,rfl⟩
 clear ho
 dsimp only at h
 refine ww ?_
 obtain⟨o12,ho,h⟩:=bi h
 refine cutS (fun s=>s=⟨[(2,.one (.c (dB o12)))],[]⟩) ?_ ?_
 ·have h:=ho
  clear ho
  refine ww ?_
  refine guardSh h (fun g13 h=>?_) (fun g13 h=>?_)
  ·refine ww ?_
   refine guardSh h (fun g14 h=>?_) (fun g14 h=>?_)
   ·refine ww ?_
    obtain⟨y15,hy15,h⟩:=bi h
    refine t_sidx rfl rfl hy15 (ww ?_)
    refine guardSh h (fun g16 h=>?_) (fun g16 h=>?_)
    ·refine ww ?_
     obtain⟨y17,hy17,h⟩:=bi h
     refine t_sidx rfl rfl hy17 (ww ?_)
     cases h
     exact eM [] rfl
    refine ww ?_
    cases h
    exact eM [] rfl
   refine ww ?_
   cases h
   exact eM [] rfl
  refine ww ?_
  cases h
  exact eM [] rfl
 rintro _ rfl
 clear ho
 refine ww ?_
 cases h
 exact eF []
def F110(x0:Int):Option (Bool):=(((if 97≤x0 then(if x0≤122 then some true else(if 48≤x0 then(if x0≤57 then some true else(if x0=45 then some true else(if x0=46 then some true else some (decide (x0=47)))))else(if x0=45 then some true else(if x0=46 then some true else some (decide (x0=47))))))else(if 48≤x0 then(if x0≤57 then some true else(if x0=45 then some true else(if x0=46 then some true else some (decide (x0=47)))))else(if x0=45 then some true else(if x0=46 then some true else some (decide (x0=47))))))).bind fun o1=>some o1)
def a110:AFn:=⟨29,[(.tmp 2)],
 (.seq (.reg [sq 2 (.mv (kB false))])
 (.seq (.sem (.reg [sq 3 (.mv (.t 0)),
sq 4 (.bin .geq (.t 3) (.k (.c (.d (.v (.int .u8 97)))))),
sq 5 (.mv (.t 4)),
zg 6 5 true (.mv (.t 0)),
zg 7 5 true (.bin .leq (.t 6) (.k (.c (.d (.v (.int .u8 122)))))),
sq 8 (.pick (.t 5) (.t 7) (kB false)),
sq 9 (.mv (.t 8)),
zg 10 9 false (.mv (.t 0)),
zg 11 9 false (.bin .geq (.t 10) (.k (.c (.d (.v (.int .u8 48)))))),
zg 12 9 false (.mv (.t 11)),
zg 13 12 true (.mv (.t 0)),
zg 14 12 true (.bin .leq (.t 13) (.k (.c (.d (.v (.int .u8 57)))))),
zg 15 9 false (.pick (.t 12) (.t 14) (kB false)),
sq 16 (.pick (.t 9) (kB true) (.t 15)),
sq 17 (.mv (.t 16)),
zg 18 17 false (.mv (.t 0)),
zg 19 17 false (.bin .eql (.t 18) (.k (.c (.d (.v (.int .u8 45)))))),
sq 20 (.pick (.t 17) (kB true) (.t 19)),
sq 21 (.mv (.t 20)),
zg 22 21 false (.mv (.t 0)),
zg 23 21 false (.bin .eql (.t 22) (.k (.c (.d (.v (.int .u8 46)))))),
sq 24 (.pick (.t 21) (kB true) (.t 23)),
sq 25 (.mv (.t 24)),
zg 26 25 false (.mv (.t 0)),
zg 27 25 false (.bin .eql (.t 26) (.k (.c (.d (.v (.int .u8 47)))))),
sq 28 (.pick (.t 25) (kB true) (.t 27)),
sq 2 (.mv (.t 28))]))
 .ret))⟩
theorem a110_ok:afn Try.prog 110=some a110.er:=by kernel_rfl
theorem F110_ok{x0 r}(h:F110 x0=some r):CallD Try.prog 110 [.c (.d (.v (.int .u8 x0)))] [] (tupV [.c (dB r)]) []:=by
 refine callS a110_ok (by simp[a110]) ?_
 rw[F110]at h
 simp only[a110,VW.down,Nat.reduceEqDiff,reduceCtorEq,Nat.reduceAdd,Nat.reduceLeDiff,Nat.reduceLT,Nat.reduceBEq,Nat.reduceSub,EE.down]
 obtain⟨o1,ho,h⟩:=bi h
 refine cutS (fun s=>s=⟨[(2,.one (.c (dB o1)))],[]⟩) ?_ ?_
 ·have h:=ho
  clear ho
  refine ww ?_
  refine guardSh h (fun g2 h=>?_) (fun g2 h=>?_)
  ·refine ww ?_
   refine guardSh h (fun g3 h=>?_) (fun g3 h=>?_)
   ·refine ww ?_
    cases h
    exact eM [] rfl
   refine ww ?_
   refine guardSh h (fun g4 h=>?_) (fun g4 h=>?_)
   ·refine ww ?_
    refine guardSh h (fun g5 h=>?_) (fun g5 h=>?_)
    ·refine ww ?_
     cases h
     exact eM [] rfl
    refine ww ?_
    refine guardSh h (fun g6 h=>?_) (fun g6 h=>?_)
    ·refine ww ?_
     cases h
     exact eM [] rfl
    refine ww ?_
    refine guardSh h (fun g7 h=>?_) (fun g7 h=>?_)
    ·refine ww ?_
     cases h
     exact eM [] rfl
    refine ww ?_
    cases h
    exact eM [] rfl
   refine ww ?_
   refine guardSh h (fun g8 h=>?_) (fun g8 h=>?_)
   ·refine ww ?_
    cases h
    exact eM [] rfl
   refine ww ?_
   refine guardSh h (fun g9 h=>?_) (fun g9 h=>?_)
   ·refine ww ?_
    cases h
    exact eM [] rfl
   refine ww ?_
   cases h
   exact eM [] rfl
  refine ww ?_
  refine guardSh h (fun g10 h=>?_) (fun g10 h=>?_)
  ·refine ww ?_
   refine guardSh h (fun g11 h=>?_) (fun g11 h=>?_)
   ·refine ww ?_
    cases h
    exact eM [] rfl
   refine ww ?_
   refine guardSh h (fun g12 h=>?_) (fun g12 h=>?_)
   ·refine ww ?_
    cases h
    exact eM [] rfl
   refine ww ?_
   refine guardSh h (fun g13 h=>?_) (fun g13 h=>?_)
   ·refine ww ?_
    cases h
    exact eM [] rfl
   refine ww ?_
   cases h
   exact eM [] rfl
  refine ww ?_
  refine guardSh h (fun g14 h=>?_) (fun g14 h=>?_)
  ·refine ww ?_
   cases h
   exact eM [] rfl
  refine ww ?_
  refine guardSh h (fun g15 h=>?_) (fun g15 h=>?_)
  ·refine ww ?_
   cases h
   exact eM [] rfl
  refine ww ?_
  cases h
  exact eM [] rfl
 rintro _ rfl
 clear ho
 refine ww ?_
 cases h
 exact eF []
def F111_l1(x0:ByteArray):Nat→Int→Option ((Bool) ⊕ (Unit))
 |0,_=>none
 |k+1,o1_0=>(if o1_0<(x0.size:Int)then(((byI x0 o1_0).bind fun y4=>(if¬(y4=10)then(byI x0 o1_0).bind fun y6=>(if y6<32 then some true else(byI x0 o1_0).bind fun y8=>some (decide (126<y8)))else some false)).bind fun o3=>(if o3=true then(some false).map Sum.inl else F111_l1 x0 k ((IntKind.i64.wrap (o1_0+1)))))else some (Sum.inr (())))
def F111(x0:ByteArray):Option (Bool):=((F111_l1 x0 1099511627776 0:Option ((Bool) ⊕ (Unit))).bind fun o1=>match o1 with|Sum.inl f=>some f|Sum.inr po1=>some (decide ((x0.size:Int)≤200)))
def a111:AFn:=⟨29,[(.tmp 2)],
 (.seq (.reg [sq 2 (.mv (kB false))])
 (.seq (.seq (.reg [sq 4 (.mv (.t 0)),
sq 5 (.slen (.t 4)),
sq 6 (.mv (kI 0))])
 (.sem (.block 0 (.loop (.seq (.reg [sq 7 (.bin .lss (.t 6) (.t 5))])
 (.seq (.cond (.t 7)
 .skip
 (.exit 0))
 (.seq (.block 1 (.seq (.reg [sq 8 (.mv (.t 6)),
sq 3 (.mv (.t 8))])
 (.seq (.sem (.reg [sq 9 (.mv (.t 0)),
sq 10 (.mv (.t 3)),
sq 11 (.sidx (.t 9) (.t 10)),
sq 12 (.bin .neq (.t 11) (.k (.c (.d (.v (.int .u8 10)))))),
sq 13 (.mv (.t 12)),
zg 14 13 true (.mv (.t 0)),
zg 15 13 true (.mv (.t 3)),
zg 16 13 true (.sidx (.t 14) (.t 15)),
zg 17 13 true (.bin .lss (.t 16) (.k (.c (.d (.v (.int .u8 32)))))),
zg 18 13 true (.mv (.t 17)),
zg 19 18 false (.mv (.t 0)),
zg 20 18 false (.mv (.t 3)),
zg 21 18 false (.sidx (.t 19) (.t 20)),
zg 22 18 false (.bin .gtr (.t 21) (.k (.c (.d (.v (.int .u8 126)))))),
zg 23 13 true (.pick (.t 18) (kB true) (.t 22)),
sq 24 (.pick (.t 13) (.t 23) (kB false))]))
 (.cond (.t 24)
 (.seq (.reg [sq 2 (.mv (kB false))])
 .ret)
 .skip))))
 (.reg [sq 25 (.bin .add (.t 6) (kI 1)),
sq 6 (.mv (.t 25))]))))))))
 (.seq (.reg [sq 26 (.mv (.t 0)),
sq 27 (.slen (.t 26)),
sq 28 (.bin .leq (.t 27) (kI 200)),
sq 2 (.mv (.t 28))])
 .ret)))⟩
theorem a111_ok:afn Try.prog 111=some a111.er:=by kernel_rfl
theorem F111_ok{x0 r}(h:F111 x0=some r):CallD Try.prog 111 [.c (dS x0)] [] (tupV [.c (dB r)]) []:=by
 refine callS a111_ok (by simp[a111]) ?_
 rw[F111]at h
 simp only[a111,VW.down,Nat.reduceEqDiff,reduceCtorEq,Nat.reduceAdd,Nat.reduceLeDiff,Nat.reduceLT,Nat.reduceBEq,Nat.reduceSub,EE.down]
 obtain⟨o1,ho,h⟩:=bi h
 refine cutS (fun s=>∃po1,o1=Sum.inr po1∧s=⟨[(0,.one (.c (dS x0)))],[]⟩) ?_ ?_
 ·have h0o1:=h
  have h:=ho
  clear ho
  refine ww ?_
  refine bL (fun j s=>∃(o1_0:Int),s=⟨[(0,.one (.c (dS x0))),(5,.one (.c (dI ((x0.size:Int))))),(6,.one (.c (dI o1_0)))],[]⟩∧F111_l1 x0 j o1_0=some o1) 1099511627776 [] ⟨0,rfl,h⟩ ?_
  rintro j _ ⟨o1_0,rfl,h⟩
  cases j with
  |zero=>cases(show(none:Option _)=some _ from h)
  |succ j=>
   rw[F111_l1]at h
   refine ww ?_
   refine condSh h (fun c2 h=>?_) (fun c2 h=>?_)
   ·refine ww ?_
    obtain⟨o3,ho,h⟩:=bi h
    refine cutS (fun s=>s=⟨[(0,.one (.c (dS x0))),(5,.one (.c (dI ((x0.size:Int))))),(6,.one (.c (dI o1_0))),(24,.one (.c (dB o3)))],[]⟩) ?_ ?_
    ·have h:=ho
     clear ho
     refine ww ?_
     obtain⟨y4,hy4,h⟩:=bi h
     refine t_sidx rfl rfl hy4 (ww ?_)
     refine guardSh h (fun g5 h=>?_) (fun g5 h=>?_)
     ·refine ww ?_
      obtain⟨y6,hy6,h⟩:=bi h
      refine t_sidx rfl rfl hy6 (ww ?_)
      refine guardSh h (fun g7 h=>?_) (fun g7 h=>?_)
      ·refine ww ?_
       cases h
       exact eM [] rfl
      ·refine ww ?_
       obtain⟨y8,hy8,h⟩:=bi h
       refine t_sidx rfl rfl hy8 (ww ?_)
       cases h
       exact eM [] rfl
     ·refine ww ?_
      cases h
      exact eM [] rfl
    ·rintro _ rfl
     clear ho
     refine ww ?_
     refine condBh h (fun c9 h=>?_) (fun c9 h=>?_)
     ·refine ww ?_
      obtain⟨fh0o1,hfh0o1,rfl⟩:=Option.map_eq_some_iff.1 h
      have h:=hfh0o1.trans h0o1
      cases h
      exact eF []
     ·refine ww ?_
      exact eL' j [] ⟨(IntKind.i64.wrap (o1_0+1)),rfl,h⟩ (Nat.lt_succ_self _)
   ·refine ww ?_
    cases h
    exact eM [] ⟨_,rfl,rfl⟩
 rintro _ ⟨po1,rfl,rfl⟩
 clear ho
 dsimp only at h
 refine ww ?_
 cases h
 exact eF []
theorem a44_ok:afn Try.prog 44=some (cloneA 23 352):=by kernel_rfl
theorem F44_ok{x0 r:List Object}(h:cloneI x0=some r):CallD Try.prog 44 [.c (dM (x0.map eObject))] [] (tupV [.c (.own 0 1 0 r.length none)]) [some (.arr 1 23 (r.map eObject))]:=L_clone a44_ok (fun _=>rfl) h
theorem a68_ok:afn Try.prog 68=some (deleteA 23 352 [.v (.string ⟨#[]⟩),.v (.string ⟨#[]⟩),.v (.string ⟨#[]⟩),.v (.int .i64 0),.v (.int .i64 0),.v (.int .i64 0),.v (.int .i64 0),.v (.bool false),.v (.int .i64 0),.sl [],.sl [],.sl [],.sl [],.v (.int .i64 0),.v (.int .i64 0),.v (.string ⟨#[]⟩),.sl [],.sl [],.v (.int .i64 0),.v (.int .i64 0),.v (.string ⟨#[]⟩),.sl [],.sl []]):=by kernel_rfl
theorem F68_ok{x0 r:List Object}{i j:Int}{e0:Nat}(h:delI x0 i j=some r):CallD Try.prog 68 [.c (.own 0 e0 0 x0.length none),aI i,aI j] [some (.arr e0 23 (x0.map eObject))] (tupV [.c (.own 0 (e0+1) 0 r.length none)]) [some (.arr (e0+1) 23 (r.map eObject))]:=L_delete a68_ok (fun _=>rfl) h
noncomputable def fn95:Func:=(Try.prog.funcs[95]?).getD default
theorem fn95_ok:Try.prog.funcs[95]? =some fn95:=by kernel_rfl
theorem ov95(e0 e1 o0 o1 l0 l1:Nat)(c0 c1:Option Nat)(r0 r1:List (List D)):
  CallD Try.prog 95 [.c (.own 0 e0 o0 l0 c0),.c (.own 1 e1 o1 l1 c1)] [some (.arr e0 23 r0),some (.arr e1 23 r1)] (.one (aB false)) [some (.arr e0 23 r0),some (.arr e1 23 r1)]:=
 ovl_callD (tS:=25) (tT:=4) (e:=41) (ps:= #[25,25]) (rs:= #[4]) fn95_ok (by kernel_rfl) (by kernel_rfl) (by kernel_rfl) (by kernel_rfl) rfl rfl (by kernel_rfl) (by kernel_rfl) e0 e1 o0 o1 l0 l1 c0 c1 r0 r1
def F90_l1:List Int→Nat→Option ((Int) ⊕ (Unit))
 |[],o1_0=>some (Sum.inr (()))
 |xo1::xs,o1_0=>(if¬(xo1=0)then(some xo1).map Sum.inl else F90_l1 xs (o1_0+1))
def F90(x0:(List Int)):Option (Int):=(((ck (0≤x0.length∧x0.length≤4294967290)).bind fun u4=>F90_l1 x0 0:Option ((Int) ⊕ (Unit))).bind fun o1=>match o1 with|Sum.inl f=>some f|Sum.inr po1=>some 0)
def a90:AFn:=⟨18,[(.tmp 2)],
 (.seq (.reg [sq 2 (.mv (kI 0))])
 (.seq (.reg [sq 3 (.mv (kI 0))])
 (.seq (.seq (.reg [sq 6 (.mv (.t 0)),
sq 7 (.len (.t 6)),
sq 8 (.mv (kI 0))])
 (.sem (.block 0 (.loop (.seq (.reg [sq 9 (.bin .lss (.t 8) (.t 7))])
 (.seq (.cond (.t 9)
 .skip
 (.exit 0))
 (.seq (.block 1 (.seq (.reg [sq 10 (.indexA 1 (.t 6) (.t 8)),
sq 11 (.load none (.t 10)),
sq 5 (.mv (.t 11))])
 (.seq (.reg [sq 12 (.mv (.t 5)),
sq 13 (.mv (.t 3)),
sq 14 (.bin .neq (.t 12) (.t 13))])
 (.cond (.t 14)
 (.seq (.reg [sq 15 (.mv (.t 5)),
sq 2 (.mv (.t 15))])
 .ret)
 .skip))))
 (.reg [sq 16 (.bin .add (.t 8) (kI 1)),
sq 8 (.mv (.t 16))]))))))))
 (.seq (.reg [sq 17 (.mv (.t 3)),
sq 2 (.mv (.t 17))])
 .ret))))⟩
theorem a90_ok:afn Try.prog 90=some a90.er:=by kernel_rfl
theorem F90_ok{x0 r}(h:F90 x0=some r):CallD Try.prog 90 [.c (dM (x0.map eI))] [] (tupV [.c (dI r)]) []:=by
 refine callS a90_ok (by simp[a90]) ?_
 rw[F90]at h
 simp only[a90,VW.down,Nat.reduceEqDiff,reduceCtorEq,Nat.reduceAdd,Nat.reduceLeDiff,Nat.reduceLT,Nat.reduceBEq,Nat.reduceSub,EE.down]
 obtain⟨o1,ho,h⟩:=bi h
 refine cutS (fun s=>∃po1,o1=Sum.inr po1∧s=⟨[(3,.one (.c (dI 0)))],[]⟩) ?_ ?_
 ·have h0o1:=h
  have h:=ho
  clear ho
  obtain⟨_,hk,h⟩:=bi h
  have hk:=ck_some hk
  refine ww ?_
  refine bL (fun j s=>∃(o1_0:Nat),(o1_0≤x0.length∧j=x0.length-o1_0)∧s=⟨[(3,.one (.c (dI 0))),(6,.one (.c (dM (x0.map eI)))),(7,.one (.c (dI ((x0.length:Int))))),(8,.one (.c (dI ((o1_0:Int)))))],[]⟩∧F90_l1 (x0.drop o1_0) o1_0=some o1) (x0.length-0) [] ⟨0,⟨hk.1,rfl⟩,rfl,h⟩ ?_
  rintro _ _ ⟨o1_0,⟨hi,rfl⟩,rfl,h⟩
  refine ww ?_
  refine condS (fun c2=>?_) (fun c2=>?_)
  ·obtain⟨xo1,hxo1,hd⟩:=countY (show(o1_0:Int)<(x0.length:Int)from c2)
   rw[hd,F90_l1]at h
   refine ww ?_
   refine t_idxF (enc:=eI) (xs:=x0) rfl rfl hxo1 rfl (ww ?_)
   refine condSh h (fun c3 h=>?_) (fun c3 h=>?_)
   ·refine ww ?_
    obtain⟨fh0o1,hfh0o1,rfl⟩:=Option.map_eq_some_iff.1 h
    have h:=hfh0o1.trans h0o1
    cases h
    exact eF []
   refine ww ?_
   rw[wrapN (by omega)]
   exact eL' (x0.length-(o1_0+1)) [] ⟨o1_0+1,⟨by omega,rfl⟩,rfl,h⟩ (by omega)
  rw[countN (show¬((o1_0:Int)<(x0.length:Int))from c2),F90_l1]at h
  refine ww ?_
  cases h
  exact eM [] ⟨_,rfl,rfl⟩
 rintro _ ⟨po1,rfl,rfl⟩
 clear ho
 dsimp only at h
 refine ww ?_
 cases h
 exact eF []
end Go.Proofs.Ytbopaemngpbdgaa
