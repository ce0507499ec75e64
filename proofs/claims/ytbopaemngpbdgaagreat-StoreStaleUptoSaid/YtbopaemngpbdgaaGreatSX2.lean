/- Each Go function as a function over typed data, and its walk. -/
import Derived.Test.YtbopaemngpbdgaaGreatSX
namespace Go.Proofs.YtbopaemngpbdgaaGreat
open Go Go.Fw Go.Shelf
set_option maxRecDepth 100000
set_option maxHeartbeats 4000000
set_option linter.unusedSimpArgs false
set_option linter.unusedVariables false
noncomputable def fn128:Func:=(Tryz.prog.funcs[128]?).getD default
theorem fn128_ok:Tryz.prog.funcs[128]? =some fn128:=by kernel_rfl
theorem F128_ok{a b:ByteArray}{r:Int}(h:cmpS a b=some r):CallD Tryz.prog 128 [.c (dS a),.c (dS b)] [] (tupV [.c (dI r)]) []:=L_cmp fn128_ok (by kernel_rfl) (by kernel_rfl) (by kernel_rfl) (by kernel_rfl) h
def F103_l1(x0:ByteArray):Nat→Int→Option ((Bool) ⊕ (Unit))
 |0,_=>none
 |k+1,o1_0=>(if o1_0<(x0.size:Int)then(byI x0 o1_0).bind fun y3=>(((if 65≤y3 then(if y3≤90 then some false else(if 0<o1_0 then(if 97≤y3 then some (decide (¬(y3≤122)))else some true)else some true))else(if 0<o1_0 then(if 97≤y3 then some (decide (¬(y3≤122)))else some true)else some true))).bind fun o4=>(if o4=true then(some false).map Sum.inl else F103_l1 x0 k ((IntKind.i64.wrap (o1_0+1)))))else some (Sum.inr (())))
def F103(x0:ByteArray):Option (Bool):=((F103_l1 x0 1099511627776 0:Option ((Bool) ⊕ (Unit))).bind fun o1=>match o1 with|Sum.inl f=>some f|Sum.inr po1=>(((if 1≤(x0.size:Int)then some (decide ((x0.size:Int)≤40))else some false)).bind fun o12=>some o12))
def a103:AFn:=⟨41,[(.tmp 2)],
 (.seq (.reg [sq 2 (.mv (kB false))])
 (.seq (.seq (.reg [sq 5 (.mv (.t 0)),
sq 6 (.slen (.t 5)),
sq 7 (.mv (kI 0))])
 (.sem (.block 0 (.loop (.seq (.reg [sq 8 (.bin .lss (.t 7) (.t 6))])
 (.seq (.cond (.t 8)
 .skip
 (.exit 0))
 (.seq (.block 1 (.seq (.reg [sq 9 (.mv (.t 7)),
sq 3 (.mv (.t 9))])
 (.seq (.reg [sq 10 (.mv (.t 0)),
sq 11 (.mv (.t 3)),
sq 12 (.sidx (.t 10) (.t 11)),
sq 4 (.mv (.t 12))])
 (.seq (.sem (.reg [sq 13 (.mv (.t 4)),
sq 14 (.bin .geq (.t 13) (.k (.c (.d (.v (.int .u8 65)))))),
sq 15 (.mv (.t 14)),
zg 16 15 true (.mv (.t 4)),
zg 17 15 true (.bin .leq (.t 16) (.k (.c (.d (.v (.int .u8 90)))))),
sq 18 (.pick (.t 15) (.t 17) (kB false)),
sq 19 (.mv (.t 18)),
zg 20 19 false (.mv (.t 3)),
zg 21 19 false (.bin .gtr (.t 20) (kI 0)),
zg 22 19 false (.mv (.t 21)),
zg 23 22 true (.mv (.t 4)),
zg 24 22 true (.bin .geq (.t 23) (.k (.c (.d (.v (.int .u8 97)))))),
zg 25 19 false (.pick (.t 22) (.t 24) (kB false)),
zg 26 19 false (.mv (.t 25)),
zg 27 26 true (.mv (.t 4)),
zg 28 26 true (.bin .leq (.t 27) (.k (.c (.d (.v (.int .u8 122)))))),
zg 29 19 false (.pick (.t 26) (.t 28) (kB false)),
sq 30 (.pick (.t 19) (kB true) (.t 29)),
sq 31 (.not (.t 30))]))
 (.cond (.t 31)
 (.seq (.reg [sq 2 (.mv (kB false))])
 .ret)
 .skip)))))
 (.reg [sq 32 (.bin .add (.t 7) (kI 1)),
sq 7 (.mv (.t 32))]))))))))
 (.seq (.sem (.reg [sq 33 (.mv (.t 0)),
sq 34 (.slen (.t 33)),
sq 35 (.bin .geq (.t 34) (kI 1)),
sq 36 (.mv (.t 35)),
zg 37 36 true (.mv (.t 0)),
zg 38 36 true (.slen (.t 37)),
zg 39 36 true (.bin .leq (.t 38) (kI 40)),
sq 40 (.pick (.t 36) (.t 39) (kB false)),
sq 2 (.mv (.t 40))]))
 .ret)))⟩
theorem a103_ok:afn Tryz.prog 103=some a103.er:=by kernel_rfl
theorem F103_ok{x0 r}(h:F103 x0=some r):CallD Tryz.prog 103 [.c (dS x0)] [] (tupV [.c (dB r)]) []:=by
 refine callS a103_ok (by simp[a103]) ?_
 rw[F103]at h
 simp only[a103,VW.down,Nat.reduceEqDiff,reduceCtorEq,Nat.reduceAdd,Nat.reduceLeDiff,Nat.reduceLT,Nat.reduceBEq,Nat.reduceSub,EE.down]
 obtain⟨o1,ho,h⟩:=bi h
 refine cutS (fun s=>∃po1,o1=Sum.inr po1∧s=⟨[(0,.one (.c (dS x0)))],[]⟩) ?_ ?_
 ·have h0o1:=h
  have h:=ho
  clear ho
  refine ww ?_
  refine bL (fun j s=>∃(o1_0:Int),s=⟨[(0,.one (.c (dS x0))),(6,.one (.c (dI ((x0.size:Int))))),(7,.one (.c (dI o1_0)))],[]⟩∧F103_l1 x0 j o1_0=some o1) 1099511627776 [] ⟨0,rfl,h⟩ ?_
  rintro j _ ⟨o1_0,rfl,h⟩
  cases j with
  |zero=>cases(show(none:Option _)=some _ from h)
  |succ j=>
   rw[F103_l1]at h
   refine ww ?_
   refine condSh h (fun c2 h=>?_) (fun c2 h=>?_)
   ·refine ww ?_
    obtain⟨y3,hy3,h⟩:=bi h
    refine t_sidx rfl rfl hy3 (ww ?_)
    obtain⟨o4,ho,h⟩:=bi h
    refine cutS (fun s=>s=⟨[(0,.one (.c (dS x0))),(6,.one (.c (dI ((x0.size:Int))))),(7,.one (.c (dI o1_0))),(31,.one (.c (dB o4)))],[]⟩) ?_ ?_
    ·have h:=ho
     clear ho
     refine ww ?_
     refine guardSh h (fun g5 h=>?_) (fun g5 h=>?_)
     ·refine ww ?_
      refine guardSh h (fun g6 h=>?_) (fun g6 h=>?_)
      ·refine ww ?_
       cases h
       exact eM [] rfl
      ·refine ww ?_
       refine guardSh h (fun g7 h=>?_) (fun g7 h=>?_)
       ·refine ww ?_
        refine guardSh h (fun g8 h=>?_) (fun g8 h=>?_)
        ·refine ww ?_
         cases h
         exact eM [] rfl
        ·refine ww ?_
         cases h
         exact eM [] rfl
       ·refine ww ?_
        cases h
        exact eM [] rfl
     ·refine ww ?_
      refine guardSh h (fun g9 h=>?_) (fun g9 h=>?_)
      ·refine ww ?_
       refine guardSh h (fun g10 h=>?_) (fun g10 h=>?_)
       ·refine ww ?_
        cases h
        exact eM [] rfl
       ·refine ww ?_
        cases h
        exact eM [] rfl
      ·refine ww ?_
       cases h
       exact eM [] rfl
    ·rintro _ rfl
     clear ho
     refine ww ?_
     refine condBh h (fun c11 h=>?_) (fun c11 h=>?_)
     ·refine ww ?_
      obtain⟨fh0o1,hfh0o1,rfl⟩:=Option.map_eq_some_iff.1 h
      have h:=hfh0o1.trans h0o1
      cases h
      exact eF []
     ·refine ww ?_
      exact eL' j [] ⟨(IntKind.i64.wrap (o1_0+1)),rfl,h⟩ (Nat.lt_succ_self _)
   ·refine ww ?_
    cases h
    exact eM [] ⟨_,rfl,rfl⟩
 rintro _ ⟨po1,rfl,rfl⟩
 clear ho
 dsimp only at h
 refine ww ?_
 obtain⟨o12,ho,h⟩:=bi h
 refine cutS (fun s=>s=⟨[(2,.one (.c (dB o12)))],[]⟩) ?_ ?_
 ·have h:=ho
  clear ho
  refine ww ?_
  refine guardSh h (fun g13 h=>?_) (fun g13 h=>?_)
  ·refine ww ?_
   cases h
   exact eM [] rfl
  refine ww ?_
  cases h
  exact eM [] rfl
 rintro _ rfl
 clear ho
 refine ww ?_
 cases h
 exact eF []
def F134_l1(x0:ByteArray):Nat→Int→Option ((Bool) ⊕ (Unit))
 |0,_=>none
 |k+1,o1_0=>(if o1_0<(x0.size:Int)then(byI x0 o1_0).bind fun y3=>(((if 97≤y3 then(if y3≤122 then some false else(if 65≤y3 then(if y3≤90 then some false else(if 48≤y3 then(if y3≤57 then some false else(if y3=45 then some false else(if y3=95 then some false else some (decide (¬(y3=47))))))else(if y3=45 then some false else(if y3=95 then some false else some (decide (¬(y3=47)))))))else(if 48≤y3 then(if y3≤57 then some false else(if y3=45 then some false else(if y3=95 then some false else some (decide (¬(y3=47))))))else(if y3=45 then some false else(if y3=95 then some false else some (decide (¬(y3=47))))))))else(if 65≤y3 then(if y3≤90 then some false else(if 48≤y3 then(if y3≤57 then some false else(if y3=45 then some false else(if y3=95 then some false else some (decide (¬(y3=47))))))else(if y3=45 then some false else(if y3=95 then some false else some (decide (¬(y3=47)))))))else(if 48≤y3 then(if y3≤57 then some false else(if y3=45 then some false else(if y3=95 then some false else some (decide (¬(y3=47))))))else(if y3=45 then some false else(if y3=95 then some false else some (decide (¬(y3=47))))))))).bind fun o4=>(if o4=true then(some false).map Sum.inl else F134_l1 x0 k ((IntKind.i64.wrap (o1_0+1)))))else some (Sum.inr (())))
def F134(x0:ByteArray):Option (Bool):=((F134_l1 x0 1099511627776 0:Option ((Bool) ⊕ (Unit))).bind fun o1=>match o1 with|Sum.inl f=>some f|Sum.inr po1=>(((if 1≤(x0.size:Int)then some (decide ((x0.size:Int)≤40))else some false)).bind fun o36=>some o36))
def a134:AFn:=⟨57,[(.tmp 2)],
 (.seq (.reg [sq 2 (.mv (kB false))])
 (.seq (.seq (.reg [sq 5 (.mv (.t 0)),
sq 6 (.slen (.t 5)),
sq 7 (.mv (kI 0))])
 (.sem (.block 0 (.loop (.seq (.reg [sq 8 (.bin .lss (.t 7) (.t 6))])
 (.seq (.cond (.t 8)
 .skip
 (.exit 0))
 (.seq (.block 1 (.seq (.reg [sq 9 (.mv (.t 7)),
sq 3 (.mv (.t 9))])
 (.seq (.reg [sq 10 (.mv (.t 0)),
sq 11 (.mv (.t 3)),
sq 12 (.sidx (.t 10) (.t 11)),
sq 4 (.mv (.t 12))])
 (.seq (.sem (.reg [sq 13 (.mv (.t 4)),
sq 14 (.bin .geq (.t 13) (.k (.c (.d (.v (.int .u8 97)))))),
sq 15 (.mv (.t 14)),
zg 16 15 true (.mv (.t 4)),
zg 17 15 true (.bin .leq (.t 16) (.k (.c (.d (.v (.int .u8 122)))))),
sq 18 (.pick (.t 15) (.t 17) (kB false)),
sq 19 (.mv (.t 18)),
zg 20 19 false (.mv (.t 4)),
zg 21 19 false (.bin .geq (.t 20) (.k (.c (.d (.v (.int .u8 65)))))),
zg 22 19 false (.mv (.t 21)),
zg 23 22 true (.mv (.t 4)),
zg 24 22 true (.bin .leq (.t 23) (.k (.c (.d (.v (.int .u8 90)))))),
zg 25 19 false (.pick (.t 22) (.t 24) (kB false)),
sq 26 (.pick (.t 19) (kB true) (.t 25)),
sq 27 (.mv (.t 26)),
zg 28 27 false (.mv (.t 4)),
zg 29 27 false (.bin .geq (.t 28) (.k (.c (.d (.v (.int .u8 48)))))),
zg 30 27 false (.mv (.t 29)),
zg 31 30 true (.mv (.t 4)),
zg 32 30 true (.bin .leq (.t 31) (.k (.c (.d (.v (.int .u8 57)))))),
zg 33 27 false (.pick (.t 30) (.t 32) (kB false)),
sq 34 (.pick (.t 27) (kB true) (.t 33)),
sq 35 (.mv (.t 34)),
zg 36 35 false (.mv (.t 4)),
zg 37 35 false (.bin .eql (.t 36) (.k (.c (.d (.v (.int .u8 45)))))),
sq 38 (.pick (.t 35) (kB true) (.t 37)),
sq 39 (.mv (.t 38)),
zg 40 39 false (.mv (.t 4)),
zg 41 39 false (.bin .eql (.t 40) (.k (.c (.d (.v (.int .u8 95)))))),
sq 42 (.pick (.t 39) (kB true) (.t 41)),
sq 43 (.mv (.t 42)),
zg 44 43 false (.mv (.t 4)),
zg 45 43 false (.bin .eql (.t 44) (.k (.c (.d (.v (.int .u8 47)))))),
sq 46 (.pick (.t 43) (kB true) (.t 45)),
sq 47 (.not (.t 46))]))
 (.cond (.t 47)
 (.seq (.reg [sq 2 (.mv (kB false))])
 .ret)
 .skip)))))
 (.reg [sq 48 (.bin .add (.t 7) (kI 1)),
sq 7 (.mv (.t 48))]))))))))
 (.seq (.sem (.reg [sq 49 (.mv (.t 0)),
sq 50 (.slen (.t 49)),
sq 51 (.bin .geq (.t 50) (kI 1)),
sq 52 (.mv (.t 51)),
zg 53 52 true (.mv (.t 0)),
zg 54 52 true (.slen (.t 53)),
zg 55 52 true (.bin .leq (.t 54) (kI 40)),
sq 56 (.pick (.t 52) (.t 55) (kB false)),
sq 2 (.mv (.t 56))]))
 .ret)))⟩
theorem a134_ok:afn Tryz.prog 134=some a134.er:=by kernel_rfl
theorem F134_ok{x0 r}(h:F134 x0=some r):CallD Tryz.prog 134 [.c (dS x0)] [] (tupV [.c (dB r)]) []:=by
 refine callS a134_ok (by simp[a134]) ?_
 rw[F134]at h
 simp only[a134,VW.down,Nat.reduceEqDiff,reduceCtorEq,Nat.reduceAdd,Nat.reduceLeDiff,Nat.reduceLT,Nat.reduceBEq,Nat.reduceSub,EE.down]
 obtain⟨o1,ho,h⟩:=bi h
 refine cutS (fun s=>∃po1,o1=Sum.inr po1∧s=⟨[(0,.one (.c (dS x0)))],[]⟩) ?_ ?_
 ·have h0o1:=h
  have h:=ho
  clear ho
  refine ww ?_
  refine bL (fun j s=>∃(o1_0:Int),s=⟨[(0,.one (.c (dS x0))),(6,.one (.c (dI ((x0.size:Int))))),(7,.one (.c (dI o1_0)))],[]⟩∧F134_l1 x0 j o1_0=some o1) 1099511627776 [] ⟨0,rfl,h⟩ ?_
  rintro j _ ⟨o1_0,rfl,h⟩
  cases j with
  |zero=>cases(show(none:Option _)=some _ from h)
  |succ j=>
   rw[F134_l1]at h
   refine ww ?_
   refine condSh h (fun c2 h=>?_) (fun c2 h=>?_)
   ·refine ww ?_
    obtain⟨y3,hy3,h⟩:=bi h
    refine t_sidx rfl rfl hy3 (ww ?_)
    obtain⟨o4,ho,h⟩:=bi h
    refine cutS (fun s=>s=⟨[(0,.one (.c (dS x0))),(6,.one (.c (dI ((x0.size:Int))))),(7,.one (.c (dI o1_0))),(47,.one (.c (dB o4)))],[]⟩) ?_ ?_
    ·have h:=ho
     clear ho
     refine ww ?_
     refine guardSh h (fun g5 h=>?_) (fun g5 h=>?_)
     ·refine ww ?_
      refine guardSh h (fun g6 h=>?_) (fun g6 h=>?_)
      ·refine ww ?_
       cases h
       exact eM [] rfl
      ·refine ww ?_
       refine guardSh h (fun g7 h=>?_) (fun g7 h=>?_)
       ·refine ww ?_
        refine guardSh h (fun g8 h=>?_) (fun g8 h=>?_)
        ·refine ww ?_
         cases h
         exact eM [] rfl
        ·refine ww ?_
         refine guardSh h (fun g9 h=>?_) (fun g9 h=>?_)
         ·refine ww ?_
          refine guardSh h (fun g10 h=>?_) (fun g10 h=>?_)
          ·refine ww ?_
           cases h
           exact eM [] rfl
          ·refine ww ?_
           refine guardSh h (fun g11 h=>?_) (fun g11 h=>?_)
           ·refine ww ?_
            cases h
            exact eM [] rfl
           ·refine ww ?_
            refine guardSh h (fun g12 h=>?_) (fun g12 h=>?_)
            ·refine ww ?_
             cases h
             exact eM [] rfl
            ·refine ww ?_
             cases h
             exact eM [] rfl
         ·refine ww ?_
          refine guardSh h (fun g13 h=>?_) (fun g13 h=>?_)
          ·refine ww ?_
           cases h
           exact eM [] rfl
          ·refine ww ?_
           refine guardSh h (fun g14 h=>?_) (fun g14 h=>?_)
           ·refine ww ?_
            cases h
            exact eM [] rfl
           ·refine ww ?_
            cases h
            exact eM [] rfl
       ·refine ww ?_
        refine guardSh h (fun g15 h=>?_) (fun g15 h=>?_)
        ·refine ww ?_
         refine guardSh h (fun g16 h=>?_) (fun g16 h=>?_)
         ·refine ww ?_
          cases h
          exact eM [] rfl
         ·refine ww ?_
          refine guardSh h (fun g17 h=>?_) (fun g17 h=>?_)
          ·refine ww ?_
           cases h
           exact eM [] rfl
          ·refine ww ?_
           refine guardSh h (fun g18 h=>?_) (fun g18 h=>?_)
           ·refine ww ?_
            cases h
            exact eM [] rfl
           ·refine ww ?_
            cases h
            exact eM [] rfl
        ·refine ww ?_
         refine guardSh h (fun g19 h=>?_) (fun g19 h=>?_)
         ·refine ww ?_
          cases h
          exact eM [] rfl
         ·refine ww ?_
          refine guardSh h (fun g20 h=>?_) (fun g20 h=>?_)
          ·refine ww ?_
           cases h
           exact eM [] rfl
          ·refine ww ?_
           cases h
           exact eM [] rfl
     ·refine ww ?_
      refine guardSh h (fun g21 h=>?_) (fun g21 h=>?_)
      ·refine ww ?_
       refine guardSh h (fun g22 h=>?_) (fun g22 h=>?_)
       ·refine ww ?_
        cases h
        exact eM [] rfl
       ·refine ww ?_
        refine guardSh h (fun g23 h=>?_) (fun g23 h=>?_)
        ·refine ww ?_
         refine guardSh h (fun g24 h=>?_) (fun g24 h=>?_)
         ·refine ww ?_
          cases h
          exact eM [] rfl
         ·refine ww ?_
          refine guardSh h (fun g25 h=>?_) (fun g25 h=>?_)
          ·refine ww ?_
           cases h
           exact eM [] rfl
          ·refine ww ?_
           refine guardSh h (fun g26 h=>?_) (fun g26 h=>?_)
           ·refine ww ?_
            cases h
            exact eM [] rfl
           ·refine ww ?_
            cases h
            exact eM [] rfl
        ·refine ww ?_
         refine guardSh h (fun g27 h=>?_) (fun g27 h=>?_)
         ·refine ww ?_
          cases h
          exact eM [] rfl
         ·refine ww ?_
          refine guardSh h (fun g28 h=>?_) (fun g28 h=>?_)
          ·refine ww ?_
           cases h
           exact eM [] rfl
          ·refine ww ?_
           cases h
           exact eM [] rfl
      ·refine ww ?_
       refine guardSh h (fun g29 h=>?_) (fun g29 h=>?_)
       ·refine ww ?_
        refine guardSh h (fun g30 h=>?_) (fun g30 h=>?_)
        ·refine ww ?_
         cases h
         exact eM [] rfl
        ·refine ww ?_
         refine guardSh h (fun g31 h=>?_) (fun g31 h=>?_)
         ·refine ww ?_
          cases h
          exact eM [] rfl
         ·refine ww ?_
          refine guardSh h (fun g32 h=>?_) (fun g32 h=>?_)
          ·refine ww ?_
           cases h
           exact eM [] rfl
          ·refine ww ?_
           cases h
           exact eM [] rfl
       ·refine ww ?_
        refine guardSh h (fun g33 h=>?_) (fun g33 h=>?_)
        ·refine ww ?_
         cases h
         exact eM [] rfl
        ·refine ww ?_
         refine guardSh h (fun g34 h=>?_) (fun g34 h=>?_)
         ·refine ww ?_
          cases h
          exact eM [] rfl
         ·refine ww ?_
          cases h
          exact eM [] rfl
    ·rintro _ rfl
     clear ho
     refine ww ?_
     refine condBh h (fun c35 h=>?_) (fun c35 h=>?_)
     ·refine ww ?_
      obtain⟨fh0o1,hfh0o1,rfl⟩:=Option.map_eq_some_iff.1 h
      have h:=hfh0o1.trans h0o1
      cases h
      exact eF []
     ·refine ww ?_
      exact eL' j [] ⟨(IntKind.i64.wrap (o1_0+1)),rfl,h⟩ (Nat.lt_succ_self _)
   ·refine ww ?_
    cases h
    exact eM [] ⟨_,rfl,rfl⟩
 rintro _ ⟨po1,rfl,rfl⟩
 clear ho
 dsimp only at h
 refine ww ?_
 obtain⟨o36,ho,h⟩:=bi h
 refine cutS (fun s=>s=⟨[(2,.one (.c (dB o36)))],[]⟩) ?_ ?_
 ·have h:=ho
  clear ho
  refine ww ?_
  refine guardSh h (fun g37 h=>?_) (fun g37 h=>?_)
  ·refine ww ?_
   cases h
   exact eM [] rfl
  refine ww ?_
  cases h
  exact eM [] rfl
 rintro _ rfl
 clear ho
 refine ww ?_
 cases h
 exact eF []
theorem a73_ok:afn Tryz.prog 73=some (cloneA 2 32):=by kernel_rfl
theorem F73_ok{x0 r:List Label}(h:cloneI x0=some r):CallD Tryz.prog 73 [.c (dM (x0.map eLabel))] [] (tupV [.c (.own 0 1 0 r.length none)]) [some (.arr 1 2 (r.map eLabel))]:=L_clone a73_ok (fun _=>rfl) h
theorem a143_ok:afn Tryz.prog 143=some (cloneA 6 96):=by kernel_rfl
theorem F143_ok{x0 r:List TField}(h:cloneI x0=some r):CallD Tryz.prog 143 [.c (dM (x0.map eTField))] [] (tupV [.c (.own 0 1 0 r.length none)]) [some (.arr 1 6 (r.map eTField))]:=L_clone a143_ok (fun _=>by rw[eTField_u];rfl) h
def F112_l1:List Int→Nat→Option ((Int) ⊕ (Unit))
 |[],o1_0=>some (Sum.inr (()))
 |xo1::xs,o1_0=>(if¬(xo1=0)then(some xo1).map Sum.inl else F112_l1 xs (o1_0+1))
def F112(x0:(List Int)):Option (Int):=(((ck (0≤x0.length∧x0.length≤4294967290)).bind fun u4=>F112_l1 x0 0:Option ((Int) ⊕ (Unit))).bind fun o1=>match o1 with|Sum.inl f=>some f|Sum.inr po1=>some 0)
def a112:AFn:=⟨18,[(.tmp 2)],
 (.seq (.reg [sq 2 (.mv (kI 0))])
 (.seq (.reg [sq 3 (.mv (kI 0))])
 (.seq (.seq (.reg [sq 6 (.mv (.t 0)),
sq 7 (.len (.t 6)),
sq 8 (.mv (kI 0))])
 (.sem (.block 0 (.loop (.seq (.reg [sq 9 (.bin .lss (.t 8) (.t 7))])
 (.seq (.cond (.t 9)
 .skip
 (.exit 0))
 (.seq (.block 1 (.seq (.reg [sq 10 (.indexA 1 (.t 6) (.t 8)),
sq 11 (.load none (.t 10)),
sq 5 (.mv (.t 11))])
 (.seq (.reg [sq 12 (.mv (.t 5)),
sq 13 (.mv (.t 3)),
sq 14 (.bin .neq (.t 12) (.t 13))])
 (.cond (.t 14)
 (.seq (.reg [sq 15 (.mv (.t 5)),
sq 2 (.mv (.t 15))])
 .ret)
 .skip))))
 (.reg [sq 16 (.bin .add (.t 8) (kI 1)),
sq 8 (.mv (.t 16))]))))))))
 (.seq (.reg [sq 17 (.mv (.t 3)),
sq 2 (.mv (.t 17))])
 .ret))))⟩
theorem a112_ok:afn Tryz.prog 112=some a112.er:=by kernel_rfl
theorem F112_ok{x0 r}(h:F112 x0=some r):CallD Tryz.prog 112 [.c (dM (x0.map eI))] [] (tupV [.c (dI r)]) []:=by
 refine callS a112_ok (by simp[a112]) ?_
 rw[F112]at h
 simp only[a112,VW.down,Nat.reduceEqDiff,reduceCtorEq,Nat.reduceAdd,Nat.reduceLeDiff,Nat.reduceLT,Nat.reduceBEq,Nat.reduceSub,EE.down]
 obtain⟨o1,ho,h⟩:=bi h
 refine cutS (fun s=>∃po1,o1=Sum.inr po1∧s=⟨[(3,.one (.c (dI 0)))],[]⟩) ?_ ?_
 ·have h0o1:=h
  have h:=ho
  clear ho
  obtain⟨_,hk,h⟩:=bi h
  have hk:=ck_some hk
  refine ww ?_
  refine bL (fun j s=>∃(o1_0:Nat),(o1_0≤x0.length∧j=x0.length-o1_0)∧s=⟨[(3,.one (.c (dI 0))),(6,.one (.c (dM (x0.map eI)))),(7,.one (.c (dI ((x0.length:Int))))),(8,.one (.c (dI ((o1_0:Int)))))],[]⟩∧F112_l1 (x0.drop o1_0) o1_0=some o1) (x0.length-0) [] ⟨0,⟨hk.1,rfl⟩,rfl,h⟩ ?_
  rintro _ _ ⟨o1_0,⟨hi,rfl⟩,rfl,h⟩
  refine ww ?_
  refine condS (fun c2=>?_) (fun c2=>?_)
  ·obtain⟨xo1,hxo1,hd⟩:=countY (show(o1_0:Int)<(x0.length:Int)from c2)
   rw[hd,F112_l1]at h
   refine ww ?_
   refine t_idxF (enc:=eI) (xs:=x0) rfl rfl hxo1 rfl (ww ?_)
   refine condSh h (fun c3 h=>?_) (fun c3 h=>?_)
   ·refine ww ?_
    obtain⟨fh0o1,hfh0o1,rfl⟩:=Option.map_eq_some_iff.1 h
    have h:=hfh0o1.trans h0o1
    cases h
    exact eF []
   refine ww ?_
   rw[wrapN (by omega)]
   exact eL' (x0.length-(o1_0+1)) [] ⟨o1_0+1,⟨by omega,rfl⟩,rfl,h⟩ (by omega)
  rw[countN (show¬((o1_0:Int)<(x0.length:Int))from c2),F112_l1]at h
  refine ww ?_
  cases h
  exact eM [] ⟨_,rfl,rfl⟩
 rintro _ ⟨po1,rfl,rfl⟩
 clear ho
 dsimp only at h
 refine ww ?_
 cases h
 exact eF []
def F44(x0:Meta):Option (Unit):=some (())
def a44:AFn:=⟨10,[(.cell 2 (some 3))],
 (.seq (.reg [sq 1 (.box (.t 0)),
sq 2 (.zbox [dS ⟨#[]⟩,dS ⟨#[]⟩,dS ⟨#[]⟩])])
 (.seq (.reg [sq 3 (.fieldA 0 (.t 1)),
sq 4 (.load none (.t 3)),
sq 5 (.fieldA 1 (.t 1)),
sq 6 (.load none (.t 5)),
sq 7 (.fieldA 2 (.t 1)),
sq 8 (.load none (.t 7)),
sq 9 (.build [dS ⟨#[]⟩,dS ⟨#[]⟩,dS ⟨#[]⟩] [(0,1,(.t 4)),(1,1,(.t 6)),(2,1,(.t 8))]),
su (.store 3 (.t 2) (.t 9))])
 .ret))⟩
theorem a44_ok:afn Tryz.prog 44=some a44.er:=by kernel_rfl
theorem F44_ok{x0 r}(h:F44 x0=some r):CallD Tryz.prog 44 [.agg [dS x0.Kind,dS x0.Namespace,dS x0.Name,dI x0.Uid,dI x0.Version,dI x0.Generation,dI x0.Created,dB x0.Deleting,dI x0.DeleteAt,dM (x0.Labels.map eLabel),dM (x0.Owners.map eOwner),dM (x0.Finalizers.map eS),dM (x0.Managers.map eManager)]] [] (tupV [.agg [dS x0.Kind,dS x0.Namespace,dS x0.Name]]) []:=by
 refine callS a44_ok (by simp[a44]) ?_
 rw[F44]at h
 simp only[a44,VW.down,Nat.reduceEqDiff,reduceCtorEq,Nat.reduceAdd,Nat.reduceLeDiff,Nat.reduceLT,Nat.reduceBEq,Nat.reduceSub,EE.down]
 cases h
 exact eF []
def F47_l2(x1:(List ByteArray)):List ByteArray→Nat→Option ((Bool) ⊕ (Unit))
 |[],o2_0=>some (Sum.inr (()))
 |xo2::xs,o2_0=>(rdI x1 ((o2_0:Int))).bind fun y4=>(if¬(xo2=y4)then(some false).map Sum.inl else F47_l2 x1 xs (o2_0+1))
def F47(x0:(List ByteArray))(x1:(List ByteArray)):Option (Bool):=(if¬((x0.length:Int)=(x1.length:Int))then some false else(((ck (0≤x0.length∧x0.length≤4294967290)).bind fun u6=>F47_l2 x1 x0 0:Option ((Bool) ⊕ (Unit))).bind fun o2=>match o2 with|Sum.inl f=>some f|Sum.inr po2=>some true))
def a47:AFn:=⟨26,[(.tmp 4)],
 (.seq (.reg [sq 4 (.mv (kB false))])
 (.seq (.seq (.reg [sq 6 (.mv (.t 0)),
sq 7 (.len (.t 6)),
sq 8 (.mv (.t 1)),
sq 9 (.len (.t 8)),
sq 10 (.bin .neq (.t 7) (.t 9))])
 (.cond (.t 10)
 (.seq (.reg [sq 4 (.mv (kB false))])
 .ret)
 .skip))
 (.seq (.seq (.reg [sq 11 (.mv (.t 0)),
sq 12 (.len (.t 11)),
sq 13 (.mv (kI 0))])
 (.sem (.block 0 (.loop (.seq (.reg [sq 14 (.bin .lss (.t 13) (.t 12))])
 (.seq (.cond (.t 14)
 .skip
 (.exit 0))
 (.seq (.block 1 (.seq (.reg [sq 15 (.mv (.t 13)),
sq 5 (.mv (.t 15))])
 (.seq (.regd [sq 16 (.mv (.t 0)),
sq 17 (.mv (.t 5)),
sd 18 (.indexA 1 (.t 16) (.t 17)) [0,1],
sd 19 (.load none (.t 18)) [0,1,2],
sq 20 (.mv (.t 1)),
sq 21 (.mv (.t 5)),
sd 22 (.indexA 1 (.t 20) (.t 21)) [4,5],
sd 23 (.load none (.t 22)) [4,5,6],
sd 24 (.bin .neq (.t 19) (.t 23)) [0,1,2,3,4,5,6,7]])
 (.cond (.t 24)
 (.seq (.reg [sq 4 (.mv (kB false))])
 .ret)
 .skip))))
 (.reg [sq 25 (.bin .add (.t 13) (kI 1)),
sq 13 (.mv (.t 25))]))))))))
 (.seq (.reg [sq 4 (.mv (kB true))])
 .ret))))⟩
theorem a47_ok:afn Tryz.prog 47=some a47.er:=by kernel_rfl
theorem F47_ok{x0 x1 r}(h:F47 x0 x1=some r):CallD Tryz.prog 47 [.c (dM (x0.map eS)),.c (dM (x1.map eS))] [] (tupV [.c (dB r)]) []:=by
 refine callS a47_ok (by simp[a47]) ?_
 rw[F47]at h
 simp only[a47,VW.down,Nat.reduceEqDiff,reduceCtorEq,Nat.reduceAdd,Nat.reduceLeDiff,Nat.reduceLT,Nat.reduceBEq,Nat.reduceSub,EE.down]
 refine condSh h (fun c1 h=>?_) (fun c1 h=>?_)
 ·refine ww ?_
  cases h
  exact eF []
 refine ww ?_
 obtain⟨o2,ho,h⟩:=bi h
 refine cutS (fun s=>∃po2,o2=Sum.inr po2∧s=⟨[],[]⟩) ?_ ?_
 ·have h0o2:=h
  have h:=ho
  clear ho
  obtain⟨_,hk,h⟩:=bi h
  have hk:=ck_some hk
  refine ww ?_
  refine bL (fun j s=>∃(o2_0:Nat),(o2_0≤x0.length∧j=x0.length-o2_0)∧s=⟨[(0,.one (.c (dM (x0.map eS)))),(1,.one (.c (dM (x1.map eS)))),(12,.one (.c (dI ((x0.length:Int))))),(13,.one (.c (dI ((o2_0:Int)))))],[]⟩∧F47_l2 x1 (x0.drop o2_0) o2_0=some o2) (x0.length-0) [] ⟨0,⟨hk.1,rfl⟩,rfl,h⟩ ?_
  rintro _ _ ⟨o2_0,⟨hi,rfl⟩,rfl,h⟩
  refine ww ?_
  refine condS (fun c3=>?_) (fun c3=>?_)
  ·obtain⟨xo2,hxo2,hd⟩:=countY (show(o2_0:Int)<(x0.length:Int)from c3)
   rw[hd,F47_l2]at h
   refine ww ?_
   refine t_idxF (enc:=eS) (xs:=x0) rfl rfl hxo2 rfl (ww ?_)
   obtain⟨y4,hy4,h⟩:=bi h
   refine t_idxF (enc:=eS) (xs:=x1) rfl rfl hy4 rfl (ww ?_)
   refine condSh h (fun c5 h=>?_) (fun c5 h=>?_)
   ·refine ww ?_
    obtain⟨fh0o2,hfh0o2,rfl⟩:=Option.map_eq_some_iff.1 h
    have h:=hfh0o2.trans h0o2
    cases h
    exact eF []
   refine ww ?_
   rw[wrapN (by omega)]
   exact eL' (x0.length-(o2_0+1)) [] ⟨o2_0+1,⟨by omega,rfl⟩,rfl,h⟩ (by omega)
  rw[countN (show¬((o2_0:Int)<(x0.length:Int))from c3),F47_l2]at h
  refine ww ?_
  cases h
  exact eM [] ⟨_,rfl,rfl⟩
 rintro _ ⟨po2,rfl,rfl⟩
 clear ho
 dsimp only at h
 refine ww ?_
 cases h
 exact eF []
def F136(x0:Int):Option (Bool):=(((if 97≤x0 then(if x0≤122 then some true else(if 48≤x0 then(if x0≤57 then some true else(if x0=45 then some true else(if x0=46 then some true else some (decide (x0=47)))))else(if x0=45 then some true else(if x0=46 then some true else some (decide (x0=47))))))else(if 48≤x0 then(if x0≤57 then some true else(if x0=45 then some true else(if x0=46 then some true else some (decide (x0=47)))))else(if x0=45 then some true else(if x0=46 then some true else some (decide (x0=47))))))).bind fun o1=>some o1)
def a136:AFn:=⟨29,[(.tmp 2)],
 (.seq (.reg [sq 2 (.mv (kB false))])
 (.seq (.sem (.reg [sq 3 (.mv (.t 0)),
sq 4 (.bin .geq (.t 3) (.k (.c (.d (.v (.int .u8 97)))))),
sq 5 (.mv (.t 4)),
zg 6 5 true (.mv (.t 0)),
zg 7 5 true (.bin .leq (.t 6) (.k (.c (.d (.v (.int .u8 122)))))),
sq 8 (.pick (.t 5) (.t 7) (kB false)),
sq 9 (.mv (.t 8)),
zg 10 9 false (.mv (.t 0)),
zg 11 9 false (.bin .geq (.t 10) (.k (.c (.d (.v (.int .u8 48)))))),
zg 12 9 false (.mv (.t 11)),
zg 13 12 true (.mv (.t 0)),
zg 14 12 true (.bin .leq (.t 13) (.k (.c (.d (.v (.int .u8 57)))))),
zg 15 9 false (.pick (.t 12) (.t 14) (kB false)),
sq 16 (.pick (.t 9) (kB true) (.t 15)),
sq 17 (.mv (.t 16)),
zg 18 17 false (.mv (.t 0)),
zg 19 17 false (.bin .eql (.t 18) (.k (.c (.d (.v (.int .u8 45)))))),
sq 20 (.pick (.t 17) (kB true) (.t 19)),
sq 21 (.mv (.t 20)),
zg 22 21 false (.mv (.t 0)),
zg 23 21 false (.bin .eql (.t 22) (.k (.c (.d (.v (.int .u8 46)))))),
sq 24 (.pick (.t 21) (kB true) (.t 23)),
sq 25 (.mv (.t 24)),
zg 26 25 false (.mv (.t 0)),
zg 27 25 false (.bin .eql (.t 26) (.k (.c (.d (.v (.int .u8 47)))))),
sq 28 (.pick (.t 25) (kB true) (.t 27)),
sq 2 (.mv (.t 28))]))
 .ret))⟩
theorem a136_ok:afn Tryz.prog 136=some a136.er:=by kernel_rfl
theorem F136_ok{x0 r}(h:F136 x0=some r):CallD Tryz.prog 136 [.c (.d (.v (.int .u8 x0)))] [] (tupV [.c (dB r)]) []:=by
 refine callS a136_ok (by simp[a136]) ?_
 rw[F136]at h
 simp only[a136,VW.down,Nat.reduceEqDiff,reduceCtorEq,Nat.reduceAdd,Nat.reduceLeDiff,Nat.reduceLT,Nat.reduceBEq,Nat.reduceSub,EE.down]
 obtain⟨o1,ho,h⟩:=bi h
 refine cutS (fun s=>s=⟨[(2,.one (.c (dB o1)))],[]⟩) ?_ ?_
 ·have h:=ho
  clear ho
  refine ww ?_
  refine guardSh h (fun g2 h=>?_) (fun g2 h=>?_)
  ·refine ww ?_
   refine guardSh h (fun g3 h=>?_) (fun g3 h=>?_)
   ·refine ww ?_
    cases h
    exact eM [] rfl
   refine ww ?_
   refine guardSh h (fun g4 h=>?_) (fun g4 h=>?_)
   ·refine ww ?_
    refine guardSh h (fun g5 h=>?_) (fun g5 h=>?_)
    ·refine ww ?_
     cases h
     exact eM [] rfl
    refine ww ?_
    refine guardSh h (fun g6 h=>?_) (fun g6 h=>?_)
    ·refine ww ?_
     cases h
     exact eM [] rfl
    refine ww ?_
    refine guardSh h (fun g7 h=>?_) (fun g7 h=>?_)
    ·refine ww ?_
     cases h
     exact eM [] rfl
    refine ww ?_
    cases h
    exact eM [] rfl
   refine ww ?_
   refine guardSh h (fun g8 h=>?_) (fun g8 h=>?_)
   ·refine ww ?_
    cases h
    exact eM [] rfl
   refine ww ?_
   refine guardSh h (fun g9 h=>?_) (fun g9 h=>?_)
   ·refine ww ?_
    cases h
    exact eM [] rfl
   refine ww ?_
   cases h
   exact eM [] rfl
  refine ww ?_
  refine guardSh h (fun g10 h=>?_) (fun g10 h=>?_)
  ·refine ww ?_
   refine guardSh h (fun g11 h=>?_) (fun g11 h=>?_)
   ·refine ww ?_
    cases h
    exact eM [] rfl
   refine ww ?_
   refine guardSh h (fun g12 h=>?_) (fun g12 h=>?_)
   ·refine ww ?_
    cases h
    exact eM [] rfl
   refine ww ?_
   refine guardSh h (fun g13 h=>?_) (fun g13 h=>?_)
   ·refine ww ?_
    cases h
    exact eM [] rfl
   refine ww ?_
   cases h
   exact eM [] rfl
  refine ww ?_
  refine guardSh h (fun g14 h=>?_) (fun g14 h=>?_)
  ·refine ww ?_
   cases h
   exact eM [] rfl
  refine ww ?_
  refine guardSh h (fun g15 h=>?_) (fun g15 h=>?_)
  ·refine ww ?_
   cases h
   exact eM [] rfl
  refine ww ?_
  cases h
  exact eM [] rfl
 rintro _ rfl
 clear ho
 refine ww ?_
 cases h
 exact eF []
end Go.Proofs.YtbopaemngpbdgaaGreat
