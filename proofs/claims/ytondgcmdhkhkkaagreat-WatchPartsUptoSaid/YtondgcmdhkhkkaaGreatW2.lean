/- Each Go function as a function over typed data, and its walk. -/
import Derived.Test.YtondgcmdhkhkkaaGreatW0
namespace Go.Proofs.YtondgcmdhkhkkaaGreat
open Go Go.Fw Go.Shelf
set_option maxRecDepth 100000
set_option maxHeartbeats 4000000
set_option linter.unusedSimpArgs false
set_option linter.unusedVariables false
def F130_l1(x0:ByteArray):Nat→Int→Option ((Bool) ⊕ (Unit))
 |0,_=>none
 |k+1,o1_0=>(if o1_0<(x0.size:Int)then(byI x0 o1_0).bind fun y3=>(((if 65≤y3 then(if y3≤90 then some false else(if 0<o1_0 then(if 97≤y3 then some (decide (¬(y3≤122)))else some true)else some true))else(if 0<o1_0 then(if 97≤y3 then some (decide (¬(y3≤122)))else some true)else some true))).bind fun o4=>(if o4=true then(some false).map Sum.inl else F130_l1 x0 k ((IntKind.i64.wrap (o1_0+1)))))else some (Sum.inr (())))
def F130(x0:ByteArray):Option (Bool):=((F130_l1 x0 1099511627776 0:Option ((Bool) ⊕ (Unit))).bind fun o1=>match o1 with|Sum.inl f=>some f|Sum.inr po1=>(((if 1≤(x0.size:Int)then some (decide ((x0.size:Int)≤40))else some false)).bind fun o12=>some o12))
def a130:AFn:=⟨41,[(.tmp 2)],
 (.seq (.reg [sq 2 (.mv (kB false))])
 (.seq (.seq (.reg [sq 5 (.mv (.t 0)),
sq 6 (.slen (.t 5)),
sq 7 (.mv (kI 0))])
 (.sem (.block 0 (.loop (.seq (.reg [sq 8 (.bin .lss (.t 7) (.t 6))])
 (.seq (.cond (.t 8)
 .skip
 (.exit 0))
 (.seq (.block 1 (.seq (.reg [sq 9 (.mv (.t 7)),
sq 3 (.mv (.t 9))])
 (.seq (.reg [sq 10 (.mv (.t 0)),
sq 11 (.mv (.t 3)),
sq 12 (.sidx (.t 10) (.t 11)),
sq 4 (.mv (.t 12))])
 (.seq (.sem (.reg [sq 13 (.mv (.t 4)),
sq 14 (.bin .geq (.t 13) (.k (.c (.d (.v (.int .u8 65)))))),
sq 15 (.mv (.t 14)),
zg 16 15 true (.mv (.t 4)),
zg 17 15 true (.bin .leq (.t 16) (.k (.c (.d (.v (.int .u8 90)))))),
sq 18 (.pick (.t 15) (.t 17) (kB false)),
sq 19 (.mv (.t 18)),
zg 20 19 false (.mv (.t 3)),
zg 21 19 false (.bin .gtr (.t 20) (kI 0)),
zg 22 19 false (.mv (.t 21)),
zg 23 22 true (.mv (.t 4)),
zg 24 22 true (.bin .geq (.t 23) (.k (.c (.d (.v (.int .u8 97)))))),
zg 25 19 false (.pick (.t 22) (.t 24) (kB false)),
zg 26 19 false (.mv (.t 25)),
zg 27 26 true (.mv (.t 4)),
zg 28 26 true (.bin .leq (.t 27) (.k (.c (.d (.v (.int .u8 122)))))),
zg 29 19 false (.pick (.t 26) (.t 28) (kB false)),
sq 30 (.pick (.t 19) (kB true) (.t 29)),
sq 31 (.not (.t 30))]))
 (.cond (.t 31)
 (.seq (.reg [sq 2 (.mv (kB false))])
 .ret)
 .skip)))))
 (.reg [sq 32 (.bin .add (.t 7) (kI 1)),
sq 7 (.mv (.t 32))]))))))))
 (.seq (.sem (.reg [sq 33 (.mv (.t 0)),
sq 34 (.slen (.t 33)),
sq 35 (.bin .geq (.t 34) (kI 1)),
sq 36 (.mv (.t 35)),
zg 37 36 true (.mv (.t 0)),
zg 38 36 true (.slen (.t 37)),
zg 39 36 true (.bin .leq (.t 38) (kI 40)),
sq 40 (.pick (.t 36) (.t 39) (kB false)),
sq 2 (.mv (.t 40))]))
 .ret)))⟩
theorem a130_ok:afn Tryz.prog 130=some a130.er:=by kernel_rfl
theorem F130_ok{x0 r}(h:F130 x0=some r):CallD Tryz.prog 130 [.c (dS x0)] [] (tupV [.c (dB r)]) []:=by
 refine callS a130_ok (by simp[a130]) ?_
 rw[F130]at h
 simp only[a130,VW.down,Nat.reduceEqDiff,reduceCtorEq,Nat.reduceAdd,Nat.reduceLeDiff,Nat.reduceLT,Nat.reduceBEq,Nat.reduceSub,EE.down]
 obtain⟨o1,ho,h⟩:=bi h
 refine cutS (fun s=>∃po1,o1=Sum.inr po1∧s=⟨[(0,.one (.c (dS x0)))],[]⟩) ?_ ?_
 ·have h0o1:=h
  have h:=ho
  clear ho
  refine ww ?_
  refine bL (fun j s=>∃(o1_0:Int),s=⟨[(0,.one (.c (dS x0))),(6,.one (.c (dI ((x0.size:Int))))),(7,.one (.c (dI o1_0)))],[]⟩∧F130_l1 x0 j o1_0=some o1) 1099511627776 [] ⟨0,rfl,h⟩ ?_
  rintro j _ ⟨o1_0,rfl,h⟩
  cases j with
  |zero=>cases(show(none:Option _)=some _ from h)
  |succ j=>
   rw[F130_l1]at h
   refine ww ?_
   refine condSh h (fun c2 h=>?_) (fun c2 h=>?_)
   ·refine ww ?_
    obtain⟨y3,hy3,h⟩:=bi h
    refine t_sidx rfl rfl hy3 (ww ?_)
    obtain⟨o4,ho,h⟩:=bi h
    refine cutS (fun s=>s=⟨[(0,.one (.c (dS x0))),(6,.one (.c (dI ((x0.size:Int))))),(7,.one (.c (dI o1_0))),(31,.one (.c (dB o4)))],[]⟩) ?_ ?_
    ·have h:=ho
     clear ho
     refine ww ?_
     refine guardSh h (fun g5 h=>?_) (fun g5 h=>?_)
     ·refine ww ?_
      refine guardSh h (fun g6 h=>?_) (fun g6 h=>?_)
      ·refine ww ?_
       cases h
       exact eM [] rfl
      ·refine ww ?_
       refine guardSh h (fun g7 h=>?_) (fun g7 h=>?_)
       ·refine ww ?_
        refine guardSh h (fun g8 h=>?_) (fun g8 h=>?_)
        ·refine ww ?_
         cases h
         exact eM [] rfl
        ·refine ww ?_
         cases h
         exact eM [] rfl
       ·refine ww ?_
        cases h
        exact eM [] rfl
     ·refine ww ?_
      refine guardSh h (fun g9 h=>?_) (fun g9 h=>?_)
      ·refine ww ?_
       refine guardSh h (fun g10 h=>?_) (fun g10 h=>?_)
       ·refine ww ?_
        cases h
        exact eM [] rfl
       ·refine ww ?_
        cases h
        exact eM [] rfl
      ·refine ww ?_
       cases h
       exact eM [] rfl
    ·rintro _ rfl
     clear ho
     refine ww ?_
     refine condBh h (fun c11 h=>?_) (fun c11 h=>?_)
     ·refine ww ?_
      obtain⟨fh0o1,hfh0o1,rfl⟩:=Option.map_eq_some_iff.1 h
      have h:=hfh0o1.trans h0o1
      cases h
      exact eF []
     ·refine ww ?_
      exact eL' j [] ⟨(IntKind.i64.wrap (o1_0+1)),rfl,h⟩ (Nat.lt_succ_self _)
   ·refine ww ?_
    cases h
    exact eM [] ⟨_,rfl,rfl⟩
 rintro _ ⟨po1,rfl,rfl⟩
 clear ho
 dsimp only at h
 refine ww ?_
 obtain⟨o12,ho,h⟩:=bi h
 refine cutS (fun s=>s=⟨[(2,.one (.c (dB o12)))],[]⟩) ?_ ?_
 ·have h:=ho
  clear ho
  refine ww ?_
  refine guardSh h (fun g13 h=>?_) (fun g13 h=>?_)
  ·refine ww ?_
   cases h
   exact eM [] rfl
  refine ww ?_
  cases h
  exact eM [] rfl
 rintro _ rfl
 clear ho
 refine ww ?_
 cases h
 exact eF []
def F132_l1(x0:ByteArray):Nat→Int→Option ((Bool) ⊕ (Unit))
 |0,_=>none
 |k+1,o1_0=>(if o1_0<(x0.size:Int)then(byI x0 o1_0).bind fun y3=>(((if 97≤y3 then(if y3≤122 then some false else(if 48≤y3 then(if y3≤57 then some false else some (decide (¬(y3=45))))else some (decide (¬(y3=45)))))else(if 48≤y3 then(if y3≤57 then some false else some (decide (¬(y3=45))))else some (decide (¬(y3=45)))))).bind fun o4=>(if o4=true then(some false).map Sum.inl else F132_l1 x0 k ((IntKind.i64.wrap (o1_0+1)))))else some (Sum.inr (())))
def F132(x0:ByteArray):Option (Bool):=((F132_l1 x0 1099511627776 0:Option ((Bool) ⊕ (Unit))).bind fun o1=>match o1 with|Sum.inl f=>some f|Sum.inr po1=>(((if 1≤(x0.size:Int)then(if(x0.size:Int)≤40 then(byI x0 0).bind fun y15=>(if¬(y15=45)then(byI x0 ((IntKind.i64.wrap (((x0.size:Int))-1)))).bind fun y17=>some (decide (¬(y17=45)))else some false)else some false)else some false)).bind fun o12=>some o12))
def a132:AFn:=⟨54,[(.tmp 2)],
 (.seq (.reg [sq 2 (.mv (kB false))])
 (.seq (.seq (.reg [sq 5 (.mv (.t 0)),
sq 6 (.slen (.t 5)),
sq 7 (.mv (kI 0))])
 (.sem (.block 0 (.loop (.seq (.reg [sq 8 (.bin .lss (.t 7) (.t 6))])
 (.seq (.cond (.t 8)
 .skip
 (.exit 0))
 (.seq (.block 1 (.seq (.reg [sq 9 (.mv (.t 7)),
sq 3 (.mv (.t 9))])
 (.seq (.reg [sq 10 (.mv (.t 0)),
sq 11 (.mv (.t 3)),
sq 12 (.sidx (.t 10) (.t 11)),
sq 4 (.mv (.t 12))])
 (.seq (.sem (.reg [sq 13 (.mv (.t 4)),
sq 14 (.bin .geq (.t 13) (.k (.c (.d (.v (.int .u8 97)))))),
sq 15 (.mv (.t 14)),
zg 16 15 true (.mv (.t 4)),
zg 17 15 true (.bin .leq (.t 16) (.k (.c (.d (.v (.int .u8 122)))))),
sq 18 (.pick (.t 15) (.t 17) (kB false)),
sq 19 (.mv (.t 18)),
zg 20 19 false (.mv (.t 4)),
zg 21 19 false (.bin .geq (.t 20) (.k (.c (.d (.v (.int .u8 48)))))),
zg 22 19 false (.mv (.t 21)),
zg 23 22 true (.mv (.t 4)),
zg 24 22 true (.bin .leq (.t 23) (.k (.c (.d (.v (.int .u8 57)))))),
zg 25 19 false (.pick (.t 22) (.t 24) (kB false)),
sq 26 (.pick (.t 19) (kB true) (.t 25)),
sq 27 (.mv (.t 26)),
zg 28 27 false (.mv (.t 4)),
zg 29 27 false (.bin .eql (.t 28) (.k (.c (.d (.v (.int .u8 45)))))),
sq 30 (.pick (.t 27) (kB true) (.t 29)),
sq 31 (.not (.t 30))]))
 (.cond (.t 31)
 (.seq (.reg [sq 2 (.mv (kB false))])
 .ret)
 .skip)))))
 (.reg [sq 32 (.bin .add (.t 7) (kI 1)),
sq 7 (.mv (.t 32))]))))))))
 (.seq (.sem (.reg [sq 33 (.mv (.t 0)),
sq 34 (.slen (.t 33)),
sq 35 (.bin .geq (.t 34) (kI 1)),
sq 36 (.mv (.t 35)),
zg 37 36 true (.mv (.t 0)),
zg 38 36 true (.slen (.t 37)),
zg 39 36 true (.bin .leq (.t 38) (kI 40)),
sq 40 (.pick (.t 36) (.t 39) (kB false)),
sq 41 (.mv (.t 40)),
zg 42 41 true (.mv (.t 0)),
zg 43 41 true (.sidx (.t 42) (kI 0)),
zg 44 41 true (.bin .neq (.t 43) (.k (.c (.d (.v (.int .u8 45)))))),
sq 45 (.pick (.t 41) (.t 44) (kB false)),
sq 46 (.mv (.t 45)),
zg 47 46 true (.mv (.t 0)),
zg 48 46 true (.mv (.t 0)),
zg 49 46 true (.slen (.t 48)),
zg 50 46 true (.bin .sub (.t 49) (kI 1)),
zg 51 46 true (.sidx (.t 47) (.t 50)),
zg 52 46 true (.bin .neq (.t 51) (.k (.c (.d (.v (.int .u8 45)))))),
sq 53 (.pick (.t 46) (.t 52) (kB false)),
sq 2 (.mv (.t 53))]))
 .ret)))⟩
theorem a132_ok:afn Tryz.prog 132=some a132.er:=by kernel_rfl
theorem F132_ok{x0 r}(h:F132 x0=some r):CallD Tryz.prog 132 [.c (dS x0)] [] (tupV [.c (dB r)]) []:=by
 refine callS a132_ok (by simp[a132]) ?_
 rw[F132]at h
 simp only[a132,VW.down,Nat.reduceEqDiff,reduceCtorEq,Nat.reduceAdd,Nat.reduceLeDiff,Nat.reduceLT,Nat.reduceBEq,Nat.reduceSub,EE.down]
 obtain⟨o1,ho,h⟩:=bi h
 refine cutS (fun s=>∃po1,o1=Sum.inr po1∧s=⟨[(0,.one (.c (dS x0)))],[]⟩) ?_ ?_
 ·have h0o1:=h
  have h:=ho
  clear ho
  refine ww ?_
  refine bL (fun j s=>∃(o1_0:Int),s=⟨[(0,.one (.c (dS x0))),(6,.one (.c (dI ((x0.size:Int))))),(7,.one (.c (dI o1_0)))],[]⟩∧F132_l1 x0 j o1_0=some o1) 1099511627776 [] ⟨0,rfl,h⟩ ?_
  rintro j _ ⟨o1_0,rfl,h⟩
  cases j with
  |zero=>cases(show(none:Option _)=some _ from h)
  |succ j=>
   rw[F132_l1]at h
   refine ww ?_
   refine condSh h (fun c2 h=>?_) (fun c2 h=>?_)
   ·refine ww ?_
    obtain⟨y3,hy3,h⟩:=bi h
    refine t_sidx rfl rfl hy3 (ww ?_)
    obtain⟨o4,ho,h⟩:=bi h
    refine cutS (fun s=>s=⟨[(0,.one (.c (dS x0))),(6,.one (.c (dI ((x0.size:Int))))),(7,.one (.c (dI o1_0))),(31,.one (.c (dB o4)))],[]⟩) ?_ ?_
    ·have h:=ho
     clear ho
     refine ww ?_
     refine guardSh h (fun g5 h=>?_) (fun g5 h=>?_)
     ·refine ww ?_
      refine guardSh h (fun g6 h=>?_) (fun g6 h=>?_)
      ·refine ww ?_
       cases h
       exact eM [] rfl
      ·refine ww ?_
       refine guardSh h (fun g7 h=>?_) (fun g7 h=>?_)
       ·refine ww ?_
        refine guardSh h (fun g8 h=>?_) (fun g8 h=>?_)
        ·refine ww ?_
         cases h
         exact eM [] rfl
        ·refine ww ?_
         cases h
         exact eM [] rfl
       ·refine ww ?_
        cases h
        exact eM [] rfl
     ·refine ww ?_
      refine guardSh h (fun g9 h=>?_) (fun g9 h=>?_)
      ·refine ww ?_
       refine guardSh h (fun g10 h=>?_) (fun g10 h=>?_)
       ·refine ww ?_
        cases h
        exact eM [] rfl
       ·refine ww ?_
        cases h
        exact eM [] rfl
      ·refine ww ?_
       cases h
       exact eM [] rfl
    ·rintro _ rfl
     clear ho
     refine ww ?_
     refine condBh h (fun c11 h=>?_) (fun c11 h=>?_)
     ·refine ww ?_
      obtain⟨fh0o1,hfh0o1,rfl⟩:=Option.map_eq_some_iff.1 h
      have h:=hfh0o1.trans h0o1
      cases h
      exact eF []
     ·refine ww ?_
      exact eL' j [] ⟨(IntKind.i64.wrap (o1_0+1)),rfl,h⟩ (Nat.lt_succ_self _)
   ·refine ww ?_
    cases h
    exact eM [] ⟨_,rfl,rfl⟩
 rintro _ ⟨po1,rfl,rfl⟩
 clear ho
 dsimp only at h
 refine ww ?_
 obtain⟨o12,ho,h⟩:=bi h
 refine cutS (fun s=>s=⟨[(2,.one (.c (dB o12)))],[]⟩) ?_ ?_
 ·have h:=ho
  clear ho
  refine ww ?_
  refine guardSh h (fun g13 h=>?_) (fun g13 h=>?_)
  ·refine ww ?_
   refine guardSh h (fun g14 h=>?_) (fun g14 h=>?_)
   ·refine ww ?_
    obtain⟨y15,hy15,h⟩:=bi h
    refine t_sidx rfl rfl hy15 (ww ?_)
    refine guardSh h (fun g16 h=>?_) (fun g16 h=>?_)
    ·refine ww ?_
     obtain⟨y17,hy17,h⟩:=bi h
     refine t_sidx rfl rfl hy17 (ww ?_)
     cases h
     exact eM [] rfl
    refine ww ?_
    cases h
    exact eM [] rfl
   refine ww ?_
   cases h
   exact eM [] rfl
  refine ww ?_
  cases h
  exact eM [] rfl
 rintro _ rfl
 clear ho
 refine ww ?_
 cases h
 exact eF []
def F146_l1(x0:ByteArray):Nat→Int→Option ((Bool) ⊕ (Unit))
 |0,_=>none
 |k+1,o1_0=>(if o1_0<(x0.size:Int)then(((byI x0 o1_0).bind fun y4=>(if¬(y4=10)then(byI x0 o1_0).bind fun y6=>(if y6<32 then some true else(byI x0 o1_0).bind fun y8=>some (decide (126<y8)))else some false)).bind fun o3=>(if o3=true then(some false).map Sum.inl else F146_l1 x0 k ((IntKind.i64.wrap (o1_0+1)))))else some (Sum.inr (())))
def F146(x0:ByteArray):Option (Bool):=((F146_l1 x0 1099511627776 0:Option ((Bool) ⊕ (Unit))).bind fun o1=>match o1 with|Sum.inl f=>some f|Sum.inr po1=>some (decide ((x0.size:Int)≤200)))
def a146:AFn:=⟨29,[(.tmp 2)],
 (.seq (.reg [sq 2 (.mv (kB false))])
 (.seq (.seq (.reg [sq 4 (.mv (.t 0)),
sq 5 (.slen (.t 4)),
sq 6 (.mv (kI 0))])
 (.sem (.block 0 (.loop (.seq (.reg [sq 7 (.bin .lss (.t 6) (.t 5))])
 (.seq (.cond (.t 7)
 .skip
 (.exit 0))
 (.seq (.block 1 (.seq (.reg [sq 8 (.mv (.t 6)),
sq 3 (.mv (.t 8))])
 (.seq (.sem (.reg [sq 9 (.mv (.t 0)),
sq 10 (.mv (.t 3)),
sq 11 (.sidx (.t 9) (.t 10)),
sq 12 (.bin .neq (.t 11) (.k (.c (.d (.v (.int .u8 10)))))),
sq 13 (.mv (.t 12)),
zg 14 13 true (.mv (.t 0)),
zg 15 13 true (.mv (.t 3)),
zg 16 13 true (.sidx (.t 14) (.t 15)),
zg 17 13 true (.bin .lss (.t 16) (.k (.c (.d (.v (.int .u8 32)))))),
zg 18 13 true (.mv (.t 17)),
zg 19 18 false (.mv (.t 0)),
zg 20 18 false (.mv (.t 3)),
zg 21 18 false (.sidx (.t 19) (.t 20)),
zg 22 18 false (.bin .gtr (.t 21) (.k (.c (.d (.v (.int .u8 126)))))),
zg 23 13 true (.pick (.t 18) (kB true) (.t 22)),
sq 24 (.pick (.t 13) (.t 23) (kB false))]))
 (.cond (.t 24)
 (.seq (.reg [sq 2 (.mv (kB false))])
 .ret)
 .skip))))
 (.reg [sq 25 (.bin .add (.t 6) (kI 1)),
sq 6 (.mv (.t 25))]))))))))
 (.seq (.reg [sq 26 (.mv (.t 0)),
sq 27 (.slen (.t 26)),
sq 28 (.bin .leq (.t 27) (kI 200)),
sq 2 (.mv (.t 28))])
 .ret)))⟩
theorem a146_ok:afn Tryz.prog 146=some a146.er:=by kernel_rfl
theorem F146_ok{x0 r}(h:F146 x0=some r):CallD Tryz.prog 146 [.c (dS x0)] [] (tupV [.c (dB r)]) []:=by
 refine callS a146_ok (by simp[a146]) ?_
 rw[F146]at h
 simp only[a146,VW.down,Nat.reduceEqDiff,reduceCtorEq,Nat.reduceAdd,Nat.reduceLeDiff,Nat.reduceLT,Nat.reduceBEq,Nat.reduceSub,EE.down]
 obtain⟨o1,ho,h⟩:=bi h
 refine cutS (fun s=>∃po1,o1=Sum.inr po1∧s=⟨[(0,.one (.c (dS x0)))],[]⟩) ?_ ?_
 ·have h0o1:=h
  have h:=ho
  clear ho
  refine ww ?_
  refine bL (fun j s=>∃(o1_0:Int),s=⟨[(0,.one (.c (dS x0))),(5,.one (.c (dI ((x0.size:Int))))),(6,.one (.c (dI o1_0)))],[]⟩∧F146_l1 x0 j o1_0=some o1) 1099511627776 [] ⟨0,rfl,h⟩ ?_
  rintro j _ ⟨o1_0,rfl,h⟩
  cases j with
  |zero=>cases(show(none:Option _)=some _ from h)
  |succ j=>
   rw[F146_l1]at h
   refine ww ?_
   refine condSh h (fun c2 h=>?_) (fun c2 h=>?_)
   ·refine ww ?_
    obtain⟨o3,ho,h⟩:=bi h
    refine cutS (fun s=>s=⟨[(0,.one (.c (dS x0))),(5,.one (.c (dI ((x0.size:Int))))),(6,.one (.c (dI o1_0))),(24,.one (.c (dB o3)))],[]⟩) ?_ ?_
    ·have h:=ho
     clear ho
     refine ww ?_
     obtain⟨y4,hy4,h⟩:=bi h
     refine t_sidx rfl rfl hy4 (ww ?_)
     refine guardSh h (fun g5 h=>?_) (fun g5 h=>?_)
     ·refine ww ?_
      obtain⟨y6,hy6,h⟩:=bi h
      refine t_sidx rfl rfl hy6 (ww ?_)
      refine guardSh h (fun g7 h=>?_) (fun g7 h=>?_)
      ·refine ww ?_
       cases h
       exact eM [] rfl
      ·refine ww ?_
       obtain⟨y8,hy8,h⟩:=bi h
       refine t_sidx rfl rfl hy8 (ww ?_)
       cases h
       exact eM [] rfl
     ·refine ww ?_
      cases h
      exact eM [] rfl
    ·rintro _ rfl
     clear ho
     refine ww ?_
     refine condBh h (fun c9 h=>?_) (fun c9 h=>?_)
     ·refine ww ?_
      obtain⟨fh0o1,hfh0o1,rfl⟩:=Option.map_eq_some_iff.1 h
      have h:=hfh0o1.trans h0o1
      cases h
      exact eF []
     ·refine ww ?_
      exact eL' j [] ⟨(IntKind.i64.wrap (o1_0+1)),rfl,h⟩ (Nat.lt_succ_self _)
   ·refine ww ?_
    cases h
    exact eM [] ⟨_,rfl,rfl⟩
 rintro _ ⟨po1,rfl,rfl⟩
 clear ho
 dsimp only at h
 refine ww ?_
 cases h
 exact eF []
theorem a72_ok:afn Tryz.prog 72=some (cloneA 5 48):=by kernel_rfl
theorem F72_ok{x0 r:List Owner}(h:cloneI x0=some r):CallD Tryz.prog 72 [.c (dM (x0.map eOwner))] [] (tupV [.c (.own 0 1 0 r.length none)]) [some (.arr 1 5 (r.map eOwner))]:=L_clone a72_ok (fun _=>rfl) h
theorem a120_ok:afn Tryz.prog 120=some (cloneA 5 80):=by kernel_rfl
theorem F120_ok{x0 r:List TValue}(h:cloneI x0=some r):CallD Tryz.prog 120 [.c (dM (x0.map eTValue))] [] (tupV [.c (.own 0 1 0 r.length none)]) [some (.arr 1 5 (r.map eTValue))]:=L_clone a120_ok (fun _=>by rw[eTValue_u];rfl) h
theorem a90_ok:afn Tryz.prog 90=some (cloneA 25 368):=by kernel_rfl
theorem F90_ok{x0 r:List Change}(h:cloneI x0=some r):CallD Tryz.prog 90 [.c (dM (x0.map eChange))] [] (tupV [.c (.own 0 1 0 r.length none)]) [some (.arr 1 25 (r.map eChange))]:=L_clone a90_ok (fun _=>rfl) h
noncomputable def fn128:Func:=(Tryz.prog.funcs[128]?).getD default
theorem fn128_ok:Tryz.prog.funcs[128]? =some fn128:=by kernel_rfl
theorem ov128(e0 e1 o0 o1 l0 l1:Nat)(c0 c1:Option Nat)(r0 r1:List (List D)):
 CallD Tryz.prog 128 [.c (.own 0 e0 o0 l0 c0),.c (.own 1 e1 o1 l1 c1)] [some (.arr e0 23 r0),some (.arr e1 23 r1)] (.one (aB false)) [some (.arr e0 23 r0),some (.arr e1 23 r1)]:=
 ovl_callD (tS:=31) (tT:=4) (e:=54) (ps:= #[31,31]) (rs:= #[4]) fn128_ok (by kernel_rfl) (by kernel_rfl) (by kernel_rfl) (by kernel_rfl) rfl rfl (by kernel_rfl) (by kernel_rfl) e0 e1 o0 o1 l0 l1 c0 c1 r0 r1
def F47_l2(x1:(List Label)):List Label→Nat→Option ((Bool) ⊕ (Unit))
 |[],o2_0=>some (Sum.inr (()))
 |xo2::xs,o2_0=>(rdI x1 ((o2_0:Int))).bind fun y4=>(if¬(xo2.Key=y4.Key∧xo2.Value=y4.Value)then(some false).map Sum.inl else F47_l2 x1 xs (o2_0+1))
def F47(x0:(List Label))(x1:(List Label)):Option (Bool):=(if¬((x0.length:Int)=(x1.length:Int))then some false else(((ck (0≤x0.length∧x0.length≤4294967290)).bind fun u6=>F47_l2 x1 x0 0:Option ((Bool) ⊕ (Unit))).bind fun o2=>match o2 with|Sum.inl f=>some f|Sum.inr po2=>some true))
def a47:AFn:=⟨26,[(.tmp 4)],
 (.seq (.reg [sq 4 (.mv (kB false))])
 (.seq (.seq (.reg [sq 6 (.mv (.t 0)),
sq 7 (.len (.t 6)),
sq 8 (.mv (.t 1)),
sq 9 (.len (.t 8)),
sq 10 (.bin .neq (.t 7) (.t 9))])
 (.cond (.t 10)
 (.seq (.reg [sq 4 (.mv (kB false))])
 .ret)
 .skip))
 (.seq (.seq (.reg [sq 11 (.mv (.t 0)),
sq 12 (.len (.t 11)),
sq 13 (.mv (kI 0))])
 (.sem (.block 0 (.loop (.seq (.reg [sq 14 (.bin .lss (.t 13) (.t 12))])
 (.seq (.cond (.t 14)
 .skip
 (.exit 0))
 (.seq (.block 1 (.seq (.reg [sq 15 (.mv (.t 13)),
sq 5 (.mv (.t 15))])
 (.seq (.regd [sq 16 (.mv (.t 0)),
sq 17 (.mv (.t 5)),
sd 18 (.indexA 2 (.t 16) (.t 17)) [0,1],
sd 19 (.load (some 2) (.t 18)) [0,1,2],
sq 20 (.mv (.t 1)),
sq 21 (.mv (.t 5)),
sd 22 (.indexA 2 (.t 20) (.t 21)) [4,5],
sd 23 (.load (some 2) (.t 22)) [4,5,6],
zl 24 (.eqs true [(0,2),(1,2)] (.t 19) (.t 23)) [0,1,2,3,4,5,6,7] []])
 (.cond (.t 24)
 (.seq (.reg [sq 4 (.mv (kB false))])
 .ret)
 .skip))))
 (.reg [sq 25 (.bin .add (.t 13) (kI 1)),
sq 13 (.mv (.t 25))]))))))))
 (.seq (.reg [sq 4 (.mv (kB true))])
 .ret))))⟩
theorem a47_ok:afn Tryz.prog 47=some a47.er:=by kernel_rfl
theorem F47_ok{x0 x1 r}(h:F47 x0 x1=some r):CallD Tryz.prog 47 [.c (dM (x0.map eLabel)),.c (dM (x1.map eLabel))] [] (tupV [.c (dB r)]) []:=by
 refine callS a47_ok (by simp[a47]) ?_
 rw[F47]at h
 simp only[a47,VW.down,Nat.reduceEqDiff,reduceCtorEq,Nat.reduceAdd,Nat.reduceLeDiff,Nat.reduceLT,Nat.reduceBEq,Nat.reduceSub,EE.down]
 refine condSh h (fun c1 h=>?_) (fun c1 h=>?_)
 ·refine ww ?_
  cases h
  exact eF []
 refine ww ?_
 obtain⟨o2,ho,h⟩:=bi h
 refine cutS (fun s=>∃po2,o2=Sum.inr po2∧s=⟨[],[]⟩) ?_ ?_
 ·have h0o2:=h
  have h:=ho
  clear ho
  obtain⟨_,hk,h⟩:=bi h
  have hk:=ck_some hk
  refine ww ?_
  refine bL (fun j s=>∃(o2_0:Nat),(o2_0≤x0.length∧j=x0.length-o2_0)∧s=⟨[(0,.one (.c (dM (x0.map eLabel)))),(1,.one (.c (dM (x1.map eLabel)))),(12,.one (.c (dI ((x0.length:Int))))),(13,.one (.c (dI ((o2_0:Int)))))],[]⟩∧F47_l2 x1 (x0.drop o2_0) o2_0=some o2) (x0.length-0) [] ⟨0,⟨hk.1,rfl⟩,rfl,h⟩ ?_
  rintro _ _ ⟨o2_0,⟨hi,rfl⟩,rfl,h⟩
  refine ww ?_
  refine condS (fun c3=>?_) (fun c3=>?_)
  ·obtain⟨xo2,hxo2,hd⟩:=countY (show(o2_0:Int)<(x0.length:Int)from c3)
   rw[hd,F47_l2]at h
   refine ww ?_
   refine t_idxF (enc:=eLabel) (xs:=x0) rfl rfl hxo2 rfl (ww ?_)
   obtain⟨y4,hy4,h⟩:=bi h
   refine t_idxF (enc:=eLabel) (xs:=x1) rfl rfl hy4 rfl (ww ?_)
   refine condSh h (fun c5 h=>?_) (fun c5 h=>?_)
   ·refine ww ?_
    obtain⟨fh0o2,hfh0o2,rfl⟩:=Option.map_eq_some_iff.1 h
    have h:=hfh0o2.trans h0o2
    cases h
    exact eF []
   refine ww ?_
   rw[wrapN (by omega)]
   exact eL' (x0.length-(o2_0+1)) [] ⟨o2_0+1,⟨by omega,rfl⟩,rfl,h⟩ (by omega)
  rw[countN (show¬((o2_0:Int)<(x0.length:Int))from c3),F47_l2]at h
  refine ww ?_
  cases h
  exact eM [] ⟨_,rfl,rfl⟩
 rintro _ ⟨po2,rfl,rfl⟩
 clear ho
 dsimp only at h
 refine ww ?_
 cases h
 exact eF []
def F88(x0:Int):Option (Bool):=(((if x0=1 then some true else some (decide (x0=2)))).bind fun o1=>some o1)
def a88:AFn:=⟨9,[(.tmp 2)],
 (.seq (.reg [sq 2 (.mv (kB false))])
 (.seq (.sem (.reg [sq 3 (.mv (.t 0)),
sq 4 (.bin .eql (.t 3) (kI 1)),
sq 5 (.mv (.t 4)),
zg 6 5 false (.mv (.t 0)),
zg 7 5 false (.bin .eql (.t 6) (kI 2)),
sq 8 (.pick (.t 5) (kB true) (.t 7)),
sq 2 (.mv (.t 8))]))
 .ret))⟩
theorem a88_ok:afn Tryz.prog 88=some a88.er:=by kernel_rfl
theorem F88_ok{x0 r}(h:F88 x0=some r):CallD Tryz.prog 88 [.c (dI x0)] [] (tupV [.c (dB r)]) []:=by
 refine callS a88_ok (by simp[a88]) ?_
 rw[F88]at h
 simp only[a88,VW.down,Nat.reduceEqDiff,reduceCtorEq,Nat.reduceAdd,Nat.reduceLeDiff,Nat.reduceLT,Nat.reduceBEq,Nat.reduceSub,EE.down]
 obtain⟨o1,ho,h⟩:=bi h
 refine cutS (fun s=>s=⟨[(2,.one (.c (dB o1)))],[]⟩) ?_ ?_
 ·have h:=ho
  clear ho
  refine ww ?_
  refine guardSh h (fun g2 h=>?_) (fun g2 h=>?_)
  ·refine ww ?_
   cases h
   exact eM [] rfl
  refine ww ?_
  cases h
  exact eM [] rfl
 rintro _ rfl
 clear ho
 refine ww ?_
 cases h
 exact eF []
def F99_l1(x1:ByteArray):List Label→Nat→Option ((ByteArray×Bool) ⊕ (Unit))
 |[],o1_0=>some (Sum.inr (()))
 |xo1::xs,o1_0=>(if xo1.Key=x1 then(some ((xo1.Value,true))).map Sum.inl else F99_l1 x1 xs (o1_0+1))
def F99(x0:(List Label))(x1:ByteArray):Option (ByteArray×Bool):=(((ck (0≤x0.length∧x0.length≤4294967290)).bind fun u4=>F99_l1 x1 x0 0:Option ((ByteArray×Bool) ⊕ (Unit))).bind fun o1=>match o1 with|Sum.inl f=>some f|Sum.inr po1=>some (((⟨#[]⟩:ByteArray),false)))
def a99:AFn:=⟨21,[(.tmp 4),(.tmp 5)],
 (.seq (.reg [sq 4 (.mv (kS ⟨#[]⟩)),
sq 5 (.mv (kB false))])
 (.seq (.seq (.reg [sq 8 (.mv (.t 0)),
sq 9 (.len (.t 8)),
sq 10 (.mv (kI 0))])
 (.sem (.block 0 (.loop (.seq (.reg [sq 11 (.bin .lss (.t 10) (.t 9))])
 (.seq (.cond (.t 11)
 .skip
 (.exit 0))
 (.seq (.block 1 (.seq (.reg [sq 12 (.indexA 2 (.t 8) (.t 10)),
sq 13 (.load (some 2) (.t 12)),
sq 7 (.zbox [dS ⟨#[]⟩,dS ⟨#[]⟩]),
su (.store 2 (.t 7) (.t 13))])
 (.seq (.reg [sq 14 (.fieldA 0 (.t 7)),
sq 15 (.load none (.t 14)),
sq 16 (.mv (.t 1)),
sq 17 (.bin .eql (.t 15) (.t 16))])
 (.cond (.t 17)
 (.seq (.reg [sq 18 (.fieldA 1 (.t 7)),
sq 19 (.load none (.t 18)),
sq 4 (.mv (.t 19)),
sq 5 (.mv (kB true))])
 .ret)
 .skip))))
 (.reg [sq 20 (.bin .add (.t 10) (kI 1)),
sq 10 (.mv (.t 20))]))))))))
 (.seq (.reg [sq 4 (.mv (kS ⟨#[]⟩)),
sq 5 (.mv (kB false))])
 .ret)))⟩
theorem a99_ok:afn Tryz.prog 99=some a99.er:=by kernel_rfl
theorem F99_ok{x0 x1 r}(h:F99 x0 x1=some r):CallD Tryz.prog 99 [.c (dM (x0.map eLabel)),.c (dS x1)] [] (tupV [.c (dS r.1),.c (dB r.2)]) []:=by
 refine callS a99_ok (by simp[a99]) ?_
 rw[F99]at h
 simp only[a99,VW.down,Nat.reduceEqDiff,reduceCtorEq,Nat.reduceAdd,Nat.reduceLeDiff,Nat.reduceLT,Nat.reduceBEq,Nat.reduceSub,EE.down]
 obtain⟨o1,ho,h⟩:=bi h
 refine cutS (fun s=>∃po1,o1=Sum.inr po1∧s=⟨[],[]⟩) ?_ ?_
 ·have h0o1:=h
  have h:=ho
  clear ho
  obtain⟨_,hk,h⟩:=bi h
  have hk:=ck_some hk
  refine ww ?_
  refine bL (fun j s=>∃(o1_0:Nat),(o1_0≤x0.length∧j=x0.length-o1_0)∧s=⟨[(1,.one (.c (dS x1))),(8,.one (.c (dM (x0.map eLabel)))),(9,.one (.c (dI ((x0.length:Int))))),(10,.one (.c (dI ((o1_0:Int)))))],[]⟩∧F99_l1 x1 (x0.drop o1_0) o1_0=some o1) (x0.length-0) [] ⟨0,⟨hk.1,rfl⟩,rfl,h⟩ ?_
  rintro _ _ ⟨o1_0,⟨hi,rfl⟩,rfl,h⟩
  refine ww ?_
  refine condS (fun c2=>?_) (fun c2=>?_)
  ·obtain⟨xo1,hxo1,hd⟩:=countY (show(o1_0:Int)<(x0.length:Int)from c2)
   rw[hd,F99_l1]at h
   refine ww ?_
   refine t_idxF (enc:=eLabel) (xs:=x0) rfl rfl hxo1 rfl (ww ?_)
   refine condSh h (fun c3 h=>?_) (fun c3 h=>?_)
   ·refine ww ?_
    obtain⟨fh0o1,hfh0o1,rfl⟩:=Option.map_eq_some_iff.1 h
    have h:=hfh0o1.trans h0o1
    cases h
    exact eF []
   refine ww ?_
   rw[wrapN (by omega)]
   exact eL' (x0.length-(o1_0+1)) [] ⟨o1_0+1,⟨by omega,rfl⟩,rfl,h⟩ (by omega)
  rw[countN (show¬((o1_0:Int)<(x0.length:Int))from c2),F99_l1]at h
  refine ww ?_
  cases h
  exact eM [] ⟨_,rfl,rfl⟩
 rintro _ ⟨po1,rfl,rfl⟩
 clear ho
 dsimp only at h
 refine ww ?_
 cases h
 exact eF []
def F122_l1(x1:ByteArray):List ByteArray→Nat→Option ((Int) ⊕ (Unit))
 |[],o1_0=>some (Sum.inr (()))
 |xo1::xs,o1_0=>(if x1=xo1 then(some ((o1_0:Int))).map Sum.inl else F122_l1 x1 xs (o1_0+1))
def F122(x0:(List ByteArray))(x1:ByteArray):Option (Int):=(((ck (0≤x0.length∧x0.length≤4294967290)).bind fun u4=>F122_l1 x1 x0 0:Option ((Int) ⊕ (Unit))).bind fun o1=>match o1 with|Sum.inl f=>some f|Sum.inr po1=>some ((-1)))
def a122:AFn:=⟨19,[(.tmp 4)],
 (.seq (.reg [sq 4 (.mv (kI 0))])
 (.seq (.seq (.reg [sq 6 (.mv (.t 0)),
sq 7 (.len (.t 6)),
sq 8 (.mv (kI 0))])
 (.sem (.block 0 (.loop (.seq (.reg [sq 9 (.bin .lss (.t 8) (.t 7))])
 (.seq (.cond (.t 9)
 .skip
 (.exit 0))
 (.seq (.block 1 (.seq (.reg [sq 10 (.mv (.t 8)),
sq 5 (.mv (.t 10))])
 (.seq (.reg [sq 11 (.mv (.t 1)),
sq 12 (.mv (.t 0)),
sq 13 (.mv (.t 5)),
sq 14 (.indexA 1 (.t 12) (.t 13)),
sq 15 (.load none (.t 14)),
sq 16 (.bin .eql (.t 11) (.t 15))])
 (.cond (.t 16)
 (.seq (.reg [sq 17 (.mv (.t 5)),
sq 4 (.mv (.t 17))])
 .ret)
 .skip))))
 (.reg [sq 18 (.bin .add (.t 8) (kI 1)),
sq 8 (.mv (.t 18))]))))))))
 (.seq (.reg [sq 4 (.mv (kI (-1)))])
 .ret)))⟩
theorem a122_ok:afn Tryz.prog 122=some a122.er:=by kernel_rfl
theorem F122_ok{x0 x1 r}(h:F122 x0 x1=some r):CallD Tryz.prog 122 [.c (dM (x0.map eS)),.c (dS x1)] [] (tupV [.c (dI r)]) []:=by
 refine callS a122_ok (by simp[a122]) ?_
 rw[F122]at h
 simp only[a122,VW.down,Nat.reduceEqDiff,reduceCtorEq,Nat.reduceAdd,Nat.reduceLeDiff,Nat.reduceLT,Nat.reduceBEq,Nat.reduceSub,EE.down]
 obtain⟨o1,ho,h⟩:=bi h
 refine cutS (fun s=>∃po1,o1=Sum.inr po1∧s=⟨[],[]⟩) ?_ ?_
 ·have h0o1:=h
  have h:=ho
  clear ho
  obtain⟨_,hk,h⟩:=bi h
  have hk:=ck_some hk
  refine ww ?_
  refine bL (fun j s=>∃(o1_0:Nat),(o1_0≤x0.length∧j=x0.length-o1_0)∧s=⟨[(0,.one (.c (dM (x0.map eS)))),(1,.one (.c (dS x1))),(7,.one (.c (dI ((x0.length:Int))))),(8,.one (.c (dI ((o1_0:Int)))))],[]⟩∧F122_l1 x1 (x0.drop o1_0) o1_0=some o1) (x0.length-0) [] ⟨0,⟨hk.1,rfl⟩,rfl,h⟩ ?_
  rintro _ _ ⟨o1_0,⟨hi,rfl⟩,rfl,h⟩
  refine ww ?_
  refine condS (fun c2=>?_) (fun c2=>?_)
  ·obtain⟨xo1,hxo1,hd⟩:=countY (show(o1_0:Int)<(x0.length:Int)from c2)
   rw[hd,F122_l1]at h
   refine ww ?_
   refine t_idxF (enc:=eS) (xs:=x0) rfl rfl hxo1 rfl (ww ?_)
   refine condSh h (fun c3 h=>?_) (fun c3 h=>?_)
   ·refine ww ?_
    obtain⟨fh0o1,hfh0o1,rfl⟩:=Option.map_eq_some_iff.1 h
    have h:=hfh0o1.trans h0o1
    cases h
    exact eF []
   refine ww ?_
   rw[wrapN (by omega)]
   exact eL' (x0.length-(o1_0+1)) [] ⟨o1_0+1,⟨by omega,rfl⟩,rfl,h⟩ (by omega)
  rw[countN (show¬((o1_0:Int)<(x0.length:Int))from c2),F122_l1]at h
  refine ww ?_
  cases h
  exact eM [] ⟨_,rfl,rfl⟩
 rintro _ ⟨po1,rfl,rfl⟩
 clear ho
 dsimp only at h
 refine ww ?_
 cases h
 exact eF []
def F98(x0:ByteArray)(x1:ByteArray)(x2:ByteArray):Option (ByteArray):=(catI x0 ((⟨#[47]⟩:ByteArray))).bind fun s1=>(catI s1 x1).bind fun s2=>(catI s2 ((⟨#[47]⟩:ByteArray))).bind fun s3=>(catI s3 x2).bind fun s4=>some s4
def a98:AFn:=⟨14,[(.tmp 6)],
 (.seq (.reg [sq 6 (.mv (kS ⟨#[]⟩))])
 (.seq (.reg [sq 7 (.mv (.t 0)),
sq 8 (.bin .add (.t 7) (kS ⟨#[47]⟩)),
sq 9 (.mv (.t 1)),
sq 10 (.bin .add (.t 8) (.t 9)),
sq 11 (.bin .add (.t 10) (kS ⟨#[47]⟩)),
sq 12 (.mv (.t 2)),
sq 13 (.bin .add (.t 11) (.t 12)),
sq 6 (.mv (.t 13))])
 .ret))⟩
theorem a98_ok:afn Tryz.prog 98=some a98.er:=by kernel_rfl
theorem F98_ok{x0 x1 x2 r}(h:F98 x0 x1 x2=some r):CallD Tryz.prog 98 [.c (dS x0),.c (dS x1),.c (dS x2)] [] (tupV [.c (dS r)]) []:=by
 refine callS a98_ok (by simp[a98]) ?_
 rw[F98]at h
 simp only[a98,VW.down,Nat.reduceEqDiff,reduceCtorEq,Nat.reduceAdd,Nat.reduceLeDiff,Nat.reduceLT,Nat.reduceBEq,Nat.reduceSub,EE.down]
 obtain⟨s1,hs1,h⟩:=bi h
 obtain⟨hle,es1⟩:=cat_some hs1
 refine⟨hle,?_⟩
 first|rw[←es1]|subst es1
 refine ww ?_
 obtain⟨s2,hs2,h⟩:=bi h
 obtain⟨hle,es2⟩:=cat_some hs2
 refine⟨hle,?_⟩
 first|rw[←es2]|subst es2
 refine ww ?_
 obtain⟨s3,hs3,h⟩:=bi h
 obtain⟨hle,es3⟩:=cat_some hs3
 refine⟨hle,?_⟩
 first|rw[←es3]|subst es3
 refine ww ?_
 obtain⟨s4,hs4,h⟩:=bi h
 obtain⟨hle,es4⟩:=cat_some hs4
 refine⟨hle,?_⟩
 first|rw[←es4]|subst es4
 refine ww ?_
 cases h
 exact eF []
end Go.Proofs.YtondgcmdhkhkkaaGreat
