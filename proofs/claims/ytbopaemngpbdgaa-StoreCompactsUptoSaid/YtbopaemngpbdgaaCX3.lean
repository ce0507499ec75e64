/- Each Go function as a function over typed data, and its walk. -/
import Derived.Test.YtbopaemngpbdgaaCX
namespace Go.Proofs.Ytbopaemngpbdgaa
open Go Go.Fw Go.Shelf
set_option maxRecDepth 100000
set_option maxHeartbeats 4000000
set_option linter.unusedSimpArgs false
set_option linter.unusedVariables false
def F9:Option (Unit):=some (())
def a9:AFn:=⟨2,[(.cell 0 (some 6))],
 (.seq (.reg [zl 0 (.zbox [dI 0,dI 0,dI 0,dN,dN,dN]) [] []])
 (.seq (.reg [sq 1 (.build [dI 0,dI 0,dI 0,dN,dN,dN] [(2,1,(kI 1))]),
su (.store 6 (.t 0) (.t 1))])
 .ret))⟩
theorem a9_ok:afn Try.prog 9=some a9.er:=by kernel_rfl
theorem F9_ok{r}(h:F9=some r):CallD Try.prog 9 [] [] (tupV [.agg [dI 0,dI 0,dI 1,dM (([]:List Object).map eObject),dM (([]:List Object).map eObject),dM (([]:List Change).map eChange)]]) []:=by
 refine callS a9_ok (by simp[a9]) ?_
 rw[F9]at h
 simp only[a9,VW.down,Nat.reduceEqDiff,reduceCtorEq,Nat.reduceAdd,Nat.reduceLeDiff,Nat.reduceLT,Nat.reduceBEq,Nat.reduceSub,EE.down]
 cases h
 exact eF []
def F61(x0:ByteArray)(x1:ByteArray)(x2:ByteArray):Option (ByteArray):=(catI x0 ((⟨#[47]⟩:ByteArray))).bind fun s1=>(catI s1 x1).bind fun s2=>(catI s2 ((⟨#[47]⟩:ByteArray))).bind fun s3=>(catI s3 x2).bind fun s4=>some s4
def a61:AFn:=⟨14,[(.tmp 6)],
 (.seq (.reg [sq 6 (.mv (kS ⟨#[]⟩))])
 (.seq (.reg [sq 7 (.mv (.t 0)),
sq 8 (.bin .add (.t 7) (kS ⟨#[47]⟩)),
sq 9 (.mv (.t 1)),
sq 10 (.bin .add (.t 8) (.t 9)),
sq 11 (.bin .add (.t 10) (kS ⟨#[47]⟩)),
sq 12 (.mv (.t 2)),
sq 13 (.bin .add (.t 11) (.t 12)),
sq 6 (.mv (.t 13))])
 .ret))⟩
theorem a61_ok:afn Try.prog 61=some a61.er:=by kernel_rfl
theorem F61_ok{x0 x1 x2 r}(h:F61 x0 x1 x2=some r):CallD Try.prog 61 [.c (dS x0),.c (dS x1),.c (dS x2)] [] (tupV [.c (dS r)]) []:=by
 refine callS a61_ok (by simp[a61]) ?_
 rw[F61]at h
 simp only[a61,VW.down,Nat.reduceEqDiff,reduceCtorEq,Nat.reduceAdd,Nat.reduceLeDiff,Nat.reduceLT,Nat.reduceBEq,Nat.reduceSub,EE.down]
 obtain⟨s1,hs1,h⟩:=bi h
 obtain⟨hle,es1⟩:=cat_some hs1
 refine⟨hle,?_⟩
 first|rw[←es1]|subst es1
 refine ww ?_
 obtain⟨s2,hs2,h⟩:=bi h
 obtain⟨hle,es2⟩:=cat_some hs2
 refine⟨hle,?_⟩
 first|rw[←es2]|subst es2
 refine ww ?_
 obtain⟨s3,hs3,h⟩:=bi h
 obtain⟨hle,es3⟩:=cat_some hs3
 refine⟨hle,?_⟩
 first|rw[←es3]|subst es3
 refine ww ?_
 obtain⟨s4,hs4,h⟩:=bi h
 obtain⟨hle,es4⟩:=cat_some hs4
 refine⟨hle,?_⟩
 first|rw[←es4]|subst es4
 refine ww ?_
 cases h
 exact eF []
def F82_l1(x0:ByteArray):Nat→Int→Option ((Bool) ⊕ (Unit))
 |0,_=>none
 |k+1,o1_0=>(if o1_0<(x0.size:Int)then(byI x0 o1_0).bind fun y3=>(((if 97≤y3 then(if y3≤122 then some false else(if 48≤y3 then(if y3≤57 then some false else some (decide (¬(y3=45))))else some (decide (¬(y3=45)))))else(if 48≤y3 then(if y3≤57 then some false else some (decide (¬(y3=45))))else some (decide (¬(y3=45)))))).bind fun o4=>(if o4=true then(some false).map Sum.inl else F82_l1 x0 k ((IntKind.i64.wrap (o1_0+1)))))else some (Sum.inr (())))
def F82(x0:ByteArray):Option (Bool):=((F82_l1 x0 1099511627776 0:Option ((Bool) ⊕ (Unit))).bind fun o1=>match o1 with|Sum.inl f=>some f|Sum.inr po1=>(((if 1≤(x0.size:Int)then(if(x0.size:Int)≤40 then(byI x0 0).bind fun y15=>(if¬(y15=45)then(byI x0 ((IntKind.i64.wrap (((x0.size:Int))-1)))).bind fun y17=>some (decide (¬(y17=45)))else some false)else some false)else some false)).bind fun o12=>some o12))
def a82:AFn:=⟨54,[(.tmp 2)],
 (.seq (.reg [sq 2 (.mv (kB false))])
 (.seq (.seq (.reg [sq 5 (.mv (.t 0)),
sq 6 (.slen (.t 5)),
sq 7 (.mv (kI 0))])
 (.sem (.block 0 (.loop (.seq (.reg [sq 8 (.bin .lss (.t 7) (.t 6))])
 (.seq (.cond (.t 8)
 .skip
 (.exit 0))
 (.seq (.block 1 (.seq (.reg [sq 9 (.mv (.t 7)),
sq 3 (.mv (.t 9))])
 (.seq (.reg [sq 10 (.mv (.t 0)),
sq 11 (.mv (.t 3)),
sq 12 (.sidx (.t 10) (.t 11)),
sq 4 (.mv (.t 12))])
 (.seq (.sem (.reg [sq 13 (.mv (.t 4)),
sq 14 (.bin .geq (.t 13) (.k (.c (.d (.v (.int .u8 97)))))),
sq 15 (.mv (.t 14)),
zg 16 15 true (.mv (.t 4)),
zg 17 15 true (.bin .leq (.t 16) (.k (.c (.d (.v (.int .u8 122)))))),
sq 18 (.pick (.t 15) (.t 17) (kB false)),
sq 19 (.mv (.t 18)),
zg 20 19 false (.mv (.t 4)),
zg 21 19 false (.bin .geq (.t 20) (.k (.c (.d (.v (.int .u8 48)))))),
zg 22 19 false (.mv (.t 21)),
zg 23 22 true (.mv (.t 4)),
zg 24 22 true (.bin .leq (.t 23) (.k (.c (.d (.v (.int .u8 57)))))),
zg 25 19 false (.pick (.t 22) (.t 24) (kB false)),
sq 26 (.pick (.t 19) (kB true) (.t 25)),
sq 27 (.mv (.t 26)),
zg 28 27 false (.mv (.t 4)),
zg 29 27 false (.bin .eql (.t 28) (.k (.c (.d (.v (.int .u8 45)))))),
sq 30 (.pick (.t 27) (kB true) (.t 29)),
sq 31 (.not (.t 30))]))
 (.cond (.t 31)
 (.seq (.reg [sq 2 (.mv (kB false))])
 .ret)
 .skip)))))
 (.reg [sq 32 (.bin .add (.t 7) (kI 1)),
sq 7 (.mv (.t 32))]))))))))
 (.seq (.sem (.reg [sq 33 (.mv (.t 0)),
sq 34 (.slen (.t 33)),
sq 35 (.bin .geq (.t 34) (kI 1)),
sq 36 (.mv (.t 35)),
zg 37 36 true (.mv (.t 0)),
zg 38 36 true (.slen (.t 37)),
zg 39 36 true (.bin .leq (.t 38) (kI 40)),
sq 40 (.pick (.t 36) (.t 39) (kB false)),
sq 41 (.mv (.t 40)),
zg 42 41 true (.mv (.t 0)),
zg 43 41 true (.sidx (.t 42) (kI 0)),
zg 44 41 true (.bin .neq (.t 43) (.k (.c (.d (.v (.int .u8 45)))))),
sq 45 (.pick (.t 41) (.t 44) (kB false)),
sq 46 (.mv (.t 45)),
zg 47 46 true (.mv (.t 0)),
zg 48 46 true (.mv (.t 0)),
zg 49 46 true (.slen (.t 48)),
zg 50 46 true (.bin .sub (.t 49) (kI 1)),
zg 51 46 true (.sidx (.t 47) (.t 50)),
zg 52 46 true (.bin .neq (.t 51) (.k (.c (.d (.v (.int .u8 45)))))),
sq 53 (.pick (.t 46) (.t 52) (kB false)),
sq 2 (.mv (.t 53))]))
 .ret)))⟩
theorem a82_ok:afn Try.prog 82=some a82.er:=by kernel_rfl
theorem F82_ok{x0 r}(h:F82 x0=some r):CallD Try.prog 82 [.c (dS x0)] [] (tupV [.c (dB r)]) []:=by
 refine callS a82_ok (by simp[a82]) ?_
 rw[F82]at h
 simp only[a82,VW.down,Nat.reduceEqDiff,reduceCtorEq,Nat.reduceAdd,Nat.reduceLeDiff,Nat.reduceLT,Nat.reduceBEq,Nat.reduceSub,EE.down]
 obtain⟨o1,ho,h⟩:=bi h
 refine cutS (fun s=>∃po1,o1=Sum.inr po1∧s=⟨[(0,.one (.c (dS x0)))],[]⟩) ?_ ?_
 ·have h0o1:=h
  have h:=ho
  clear ho
  refine ww ?_
  refine bL (fun j s=>∃(o1_0:Int),s=⟨[(0,.one (.c (dS x0))),(6,.one (.c (dI ((x0.size:Int))))),(7,.one (.c (dI o1_0)))],[]⟩∧F82_l1 x0 j o1_0=some o1) 1099511627776 [] ⟨0,rfl,h⟩ ?_
  rintro j _ ⟨o1_0,rfl,h⟩
  cases j with
  |zero=>cases(show(none:Option _)=some _ from h)
  |succ j=>
   rw[F82_l1]at h
   refine ww ?_
   refine condSh h (fun c2 h=>?_) (fun c2 h=>?_)
   ·refine ww ?_
    obtain⟨y3,hy3,h⟩:=bi h
    refine t_sidx rfl rfl hy3 (ww ?_)
    obtain⟨o4,ho,h⟩:=bi h
    refine cutS (fun s=>s=⟨[(0,.one (.c (dS x0))),(6,.one (.c (dI ((x0.size:Int))))),(7,.one (.c (dI o1_0))),(31,.one (.c (dB o4)))],[]⟩) ?_ ?_
    ·have h:=ho
     clear ho
     refine ww ?_
     refine guardSh h (fun g5 h=>?_) (fun g5 h=>?_)
     ·refine ww ?_
      refine guardSh h (fun g6 h=>?_) (fun g6 h=>?_)
      ·refine ww ?_
       cases h
       exact eM [] rfl
      ·refine ww ?_
       refine guardSh h (fun g7 h=>?_) (fun g7 h=>?_)
       ·refine ww ?_
        refine guardSh h (fun g8 h=>?_) (fun g8 h=>?_)
        ·refine ww ?_
         cases h
         exact eM [] rfl
        ·refine ww ?_
         cases h
         exact eM [] rfl
       ·refine ww ?_
        cases h
        exact eM [] rfl
     ·refine ww ?_
      refine guardSh h (fun g9 h=>?_) (fun g9 h=>?_)
      ·refine ww ?_
       refine guardSh h (fun g10 h=>?_) (fun g10 h=>?_)
       ·refine ww ?_
        cases h
        exact eM [] rfl
       ·refine ww ?_
        cases h
        exact eM [] rfl
      ·refine ww ?_
       cases h
       exact eM [] rfl
    ·rintro _ rfl
     clear ho
     refine ww ?_
     refine condBh h (fun c11 h=>?_) (fun c11 h=>?_)
     ·refine ww ?_
      obtain⟨fh0o1,hfh0o1,rfl⟩:=Option.map_eq_some_iff.1 h
      have h:=hfh0o1.trans h0o1
      cases h
      exact eF []
     ·refine ww ?_
      exact eL' j [] ⟨(IntKind.i64.wrap (o1_0+1)),rfl,h⟩ (Nat.lt_succ_self _)
   ·refine ww ?_
    cases h
    exact eM [] ⟨_,rfl,rfl⟩
 rintro _ ⟨po1,rfl,rfl⟩
 clear ho
 dsimp only at h
 refine ww ?_
 obtain⟨o12,ho,h⟩:=bi h
 refine cutS (fun s=>s=⟨[(2,.one (.c (dB o12)))],[]⟩) ?_ ?_
 ·have h:=ho
  clear ho
  refine ww ?_
  refine guardSh h (fun g13 h=>?_) (fun g13 h=>?_)
  ·refine ww ?_
   refine guardSh h (fun g14 h=>?_) (fun g14 h=>?_)
   ·refine ww ?_
    obtain⟨y15,hy15,h⟩:=bi h
    refine t_sidx rfl rfl hy15 (ww ?_)
    refine guardSh h (fun g16 h=>?_) (fun g16 h=>?_)
    ·refine ww ?_
     obtain⟨y17,hy17,h⟩:=bi h
     refine t_sidx rfl rfl hy17 (ww ?_)
     cases h
     exact eM [] rfl
    refine ww ?_
    cases h
    exact eM [] rfl
   refine ww ?_
   cases h
   exact eM [] rfl
  refine ww ?_
  cases h
  exact eM [] rfl
 rintro _ rfl
 clear ho
 refine ww ?_
 cases h
 exact eF []
def F110(x0:Int):Option (Bool):=(((if 97≤x0 then(if x0≤122 then some true else(if 48≤x0 then(if x0≤57 then some true else(if x0=45 then some true else(if x0=46 then some true else some (decide (x0=47)))))else(if x0=45 then some true else(if x0=46 then some true else some (decide (x0=47))))))else(if 48≤x0 then(if x0≤57 then some true else(if x0=45 then some true else(if x0=46 then some true else some (decide (x0=47)))))else(if x0=45 then some true else(if x0=46 then some true else some (decide (x0=47))))))).bind fun o1=>some o1)
def a110:AFn:=⟨29,[(.tmp 2)],
 (.seq (.reg [sq 2 (.mv (kB false))])
 (.seq (.sem (.reg [sq 3 (.mv (.t 0)),
sq 4 (.bin .geq (.t 3) (.k (.c (.d (.v (.int .u8 97)))))),
sq 5 (.mv (.t 4)),
zg 6 5 true (.mv (.t 0)),
zg 7 5 true (.bin .leq (.t 6) (.k (.c (.d (.v (.int .u8 122)))))),
sq 8 (.pick (.t 5) (.t 7) (kB false)),
sq 9 (.mv (.t 8)),
zg 10 9 false (.mv (.t 0)),
zg 11 9 false (.bin .geq (.t 10) (.k (.c (.d (.v (.int .u8 48)))))),
zg 12 9 false (.mv (.t 11)),
zg 13 12 true (.mv (.t 0)),
zg 14 12 true (.bin .leq (.t 13) (.k (.c (.d (.v (.int .u8 57)))))),
zg 15 9 false (.pick (.t 12) (.t 14) (kB false)),
sq 16 (.pick (.t 9) (kB true) (.t 15)),
sq 17 (.mv (.t 16)),
zg 18 17 false (.mv (.t 0)),
zg 19 17 false (.bin .eql (.t 18) (.k (.c (.d (.v (.int .u8 45)))))),
sq 20 (.pick (.t 17) (kB true) (.t 19)),
sq 21 (.mv (.t 20)),
zg 22 21 false (.mv (.t 0)),
zg 23 21 false (.bin .eql (.t 22) (.k (.c (.d (.v (.int .u8 46)))))),
sq 24 (.pick (.t 21) (kB true) (.t 23)),
sq 25 (.mv (.t 24)),
zg 26 25 false (.mv (.t 0)),
zg 27 25 false (.bin .eql (.t 26) (.k (.c (.d (.v (.int .u8 47)))))),
sq 28 (.pick (.t 25) (kB true) (.t 27)),
sq 2 (.mv (.t 28))]))
 .ret))⟩
theorem a110_ok:afn Try.prog 110=some a110.er:=by kernel_rfl
theorem F110_ok{x0 r}(h:F110 x0=some r):CallD Try.prog 110 [.c (.d (.v (.int .u8 x0)))] [] (tupV [.c (dB r)]) []:=by
 refine callS a110_ok (by simp[a110]) ?_
 rw[F110]at h
 simp only[a110,VW.down,Nat.reduceEqDiff,reduceCtorEq,Nat.reduceAdd,Nat.reduceLeDiff,Nat.reduceLT,Nat.reduceBEq,Nat.reduceSub,EE.down]
 obtain⟨o1,ho,h⟩:=bi h
 refine cutS (fun s=>s=⟨[(2,.one (.c (dB o1)))],[]⟩) ?_ ?_
 ·have h:=ho
  clear ho
  refine ww ?_
  refine guardSh h (fun g2 h=>?_) (fun g2 h=>?_)
  ·refine ww ?_
   refine guardSh h (fun g3 h=>?_) (fun g3 h=>?_)
   ·refine ww ?_
    cases h
    exact eM [] rfl
   refine ww ?_
   refine guardSh h (fun g4 h=>?_) (fun g4 h=>?_)
   ·refine ww ?_
    refine guardSh h (fun g5 h=>?_) (fun g5 h=>?_)
    ·refine ww ?_
     cases h
     exact eM [] rfl
    refine ww ?_
    refine guardSh h (fun g6 h=>?_) (fun g6 h=>?_)
    ·refine ww ?_
     cases h
     exact eM [] rfl
    refine ww ?_
    refine guardSh h (fun g7 h=>?_) (fun g7 h=>?_)
    ·refine ww ?_
     cases h
     exact eM [] rfl
    refine ww ?_
    cases h
    exact eM [] rfl
   refine ww ?_
   refine guardSh h (fun g8 h=>?_) (fun g8 h=>?_)
   ·refine ww ?_
    cases h
    exact eM [] rfl
   refine ww ?_
   refine guardSh h (fun g9 h=>?_) (fun g9 h=>?_)
   ·refine ww ?_
    cases h
    exact eM [] rfl
   refine ww ?_
   cases h
   exact eM [] rfl
  refine ww ?_
  refine guardSh h (fun g10 h=>?_) (fun g10 h=>?_)
  ·refine ww ?_
   refine guardSh h (fun g11 h=>?_) (fun g11 h=>?_)
   ·refine ww ?_
    cases h
    exact eM [] rfl
   refine ww ?_
   refine guardSh h (fun g12 h=>?_) (fun g12 h=>?_)
   ·refine ww ?_
    cases h
    exact eM [] rfl
   refine ww ?_
   refine guardSh h (fun g13 h=>?_) (fun g13 h=>?_)
   ·refine ww ?_
    cases h
    exact eM [] rfl
   refine ww ?_
   cases h
   exact eM [] rfl
  refine ww ?_
  refine guardSh h (fun g14 h=>?_) (fun g14 h=>?_)
  ·refine ww ?_
   cases h
   exact eM [] rfl
  refine ww ?_
  refine guardSh h (fun g15 h=>?_) (fun g15 h=>?_)
  ·refine ww ?_
   cases h
   exact eM [] rfl
  refine ww ?_
  cases h
  exact eM [] rfl
 rintro _ rfl
 clear ho
 refine ww ?_
 cases h
 exact eF []
def F103_l1(x0:(List ByteArray)):Nat→Int→Option ((Bool) ⊕ (Unit))
 |0,_=>none
 |k+1,o1_0=>(if o1_0<(x0.length:Int)then(rdI x0 ((IntKind.i64.wrap (o1_0-1)))).bind fun y3=>(rdI x0 o1_0).bind fun y4=>(if(nb (Op.bytesLess y3.toList y4.toList))=true then(some false).map Sum.inl else F103_l1 x0 k ((IntKind.i64.wrap (o1_0+1))))else some (Sum.inr (())))
def F103(x0:(List ByteArray)):Option (Bool):=((F103_l1 x0 1099511627776 1:Option ((Bool) ⊕ (Unit))).bind fun o1=>match o1 with|Sum.inl f=>some f|Sum.inr po1=>some true)
def a103:AFn:=⟨20,[(.tmp 2)],
 (.seq (.reg [sq 2 (.mv (kB false))])
 (.seq (.seq (.reg [sq 3 (.mv (kI 1))])
 (.sem (.block 0 (.loop (.seq (.seq (.reg [sq 4 (.mv (.t 3)),
sq 5 (.mv (.t 0)),
sq 6 (.len (.t 5)),
sq 7 (.bin .lss (.t 4) (.t 6))])
 (.cond (.t 7)
 .skip
 (.exit 0)))
 (.seq (.block 1 (.seq (.regd [sq 10 (.mv (.t 0)),
sq 11 (.mv (.t 3)),
sd 12 (.bin .sub (.t 11) (kI 1)) [1],
sd 13 (.indexA 1 (.t 10) (.t 12)) [0,1,2],
sd 14 (.load none (.t 13)) [0,1,2,3],
sq 15 (.mv (.t 0)),
sq 16 (.mv (.t 3)),
sd 17 (.indexA 1 (.t 15) (.t 16)) [5,6],
sd 18 (.load none (.t 17)) [5,6,7],
sd 19 (.bin .geq (.t 14) (.t 18)) [0,1,2,3,4,5,6,7,8]])
 (.cond (.t 19)
 (.seq (.reg [sq 2 (.mv (kB false))])
 .ret)
 .skip)))
 (.reg [sq 8 (.mv (.t 3)),
sq 9 (.bin .add (.t 8) (kI 1)),
sq 3 (.mv (.t 9))])))))))
 (.seq (.reg [sq 2 (.mv (kB true))])
 .ret)))⟩
theorem a103_ok:afn Try.prog 103=some a103.er:=by kernel_rfl
theorem F103_ok{x0 r}(h:F103 x0=some r):CallD Try.prog 103 [.c (dM (x0.map eS))] [] (tupV [.c (dB r)]) []:=by
 refine callS a103_ok (by simp[a103]) ?_
 rw[F103]at h
 simp only[a103,VW.down,Nat.reduceEqDiff,reduceCtorEq,Nat.reduceAdd,Nat.reduceLeDiff,Nat.reduceLT,Nat.reduceBEq,Nat.reduceSub,EE.down]
 obtain⟨o1,ho,h⟩:=bi h
 refine cutS (fun s=>∃po1,o1=Sum.inr po1∧s=⟨[],[]⟩) ?_ ?_
 ·have h0o1:=h
  have h:=ho
  clear ho
  refine ww ?_
  refine bL (fun j s=>∃(o1_0:Int),s=⟨[(0,.one (.c (dM (x0.map eS)))),(3,.one (.c (dI o1_0)))],[]⟩∧F103_l1 x0 j o1_0=some o1) 1099511627776 [] ⟨1,rfl,h⟩ ?_
  rintro j _ ⟨o1_0,rfl,h⟩
  cases j with
  |zero=>cases(show(none:Option _)=some _ from h)
  |succ j=>
   rw[F103_l1]at h
   refine ww ?_
   refine condSh h (fun c2 h=>?_) (fun c2 h=>?_)
   ·refine ww ?_
    obtain⟨y3,hy3,h⟩:=bi h
    refine t_idxF (enc:=eS) (xs:=x0) rfl rfl hy3 rfl (ww ?_)
    obtain⟨y4,hy4,h⟩:=bi h
    refine t_idxF (enc:=eS) (xs:=x0) rfl rfl hy4 rfl (ww ?_)
    refine condBh h (fun c5 h=>?_) (fun c5 h=>?_)
    ·refine ww ?_
     obtain⟨fh0o1,hfh0o1,rfl⟩:=Option.map_eq_some_iff.1 h
     have h:=hfh0o1.trans h0o1
     cases h
     exact eF []
    ·refine ww ?_
     exact eL' j [] ⟨(IntKind.i64.wrap (o1_0+1)),rfl,h⟩ (Nat.lt_succ_self _)
   ·refine ww ?_
    cases h
    exact eM [] ⟨_,rfl,rfl⟩
 rintro _ ⟨po1,rfl,rfl⟩
 clear ho
 dsimp only at h
 refine ww ?_
 cases h
 exact eF []
def F111_l1(x0:ByteArray):Nat→Int→Option ((Bool) ⊕ (Unit))
 |0,_=>none
 |k+1,o1_0=>(if o1_0<(x0.size:Int)then(((byI x0 o1_0).bind fun y4=>(if¬(y4=10)then(byI x0 o1_0).bind fun y6=>(if y6<32 then some true else(byI x0 o1_0).bind fun y8=>some (decide (126<y8)))else some false)).bind fun o3=>(if o3=true then(some false).map Sum.inl else F111_l1 x0 k ((IntKind.i64.wrap (o1_0+1)))))else some (Sum.inr (())))
def F111(x0:ByteArray):Option (Bool):=((F111_l1 x0 1099511627776 0:Option ((Bool) ⊕ (Unit))).bind fun o1=>match o1 with|Sum.inl f=>some f|Sum.inr po1=>some (decide ((x0.size:Int)≤200)))
def a111:AFn:=⟨29,[(.tmp 2)],
 (.seq (.reg [sq 2 (.mv (kB false))])
 (.seq (.seq (.reg [sq 4 (.mv (.t 0)),
sq 5 (.slen (.t 4)),
sq 6 (.mv (kI 0))])
 (.sem (.block 0 (.loop (.seq (.reg [sq 7 (.bin .lss (.t 6) (.t 5))])
 (.seq (.cond (.t 7)
 .skip
 (.exit 0))
 (.seq (.block 1 (.seq (.reg [sq 8 (.mv (.t 6)),
sq 3 (.mv (.t 8))])
 (.seq (.sem (.reg [sq 9 (.mv (.t 0)),
sq 10 (.mv (.t 3)),
sq 11 (.sidx (.t 9) (.t 10)),
sq 12 (.bin .neq (.t 11) (.k (.c (.d (.v (.int .u8 10)))))),
sq 13 (.mv (.t 12)),
zg 14 13 true (.mv (.t 0)),
zg 15 13 true (.mv (.t 3)),
zg 16 13 true (.sidx (.t 14) (.t 15)),
zg 17 13 true (.bin .lss (.t 16) (.k (.c (.d (.v (.int .u8 32)))))),
zg 18 13 true (.mv (.t 17)),
zg 19 18 false (.mv (.t 0)),
zg 20 18 false (.mv (.t 3)),
zg 21 18 false (.sidx (.t 19) (.t 20)),
zg 22 18 false (.bin .gtr (.t 21) (.k (.c (.d (.v (.int .u8 126)))))),
zg 23 13 true (.pick (.t 18) (kB true) (.t 22)),
sq 24 (.pick (.t 13) (.t 23) (kB false))]))
 (.cond (.t 24)
 (.seq (.reg [sq 2 (.mv (kB false))])
 .ret)
 .skip))))
 (.reg [sq 25 (.bin .add (.t 6) (kI 1)),
sq 6 (.mv (.t 25))]))))))))
 (.seq (.reg [sq 26 (.mv (.t 0)),
sq 27 (.slen (.t 26)),
sq 28 (.bin .leq (.t 27) (kI 200)),
sq 2 (.mv (.t 28))])
 .ret)))⟩
theorem a111_ok:afn Try.prog 111=some a111.er:=by kernel_rfl
theorem F111_ok{x0 r}(h:F111 x0=some r):CallD Try.prog 111 [.c (dS x0)] [] (tupV [.c (dB r)]) []:=by
 refine callS a111_ok (by simp[a111]) ?_
 rw[F111]at h
 simp only[a111,VW.down,Nat.reduceEqDiff,reduceCtorEq,Nat.reduceAdd,Nat.reduceLeDiff,Nat.reduceLT,Nat.reduceBEq,Nat.reduceSub,EE.down]
 obtain⟨o1,ho,h⟩:=bi h
 refine cutS (fun s=>∃po1,o1=Sum.inr po1∧s=⟨[(0,.one (.c (dS x0)))],[]⟩) ?_ ?_
 ·have h0o1:=h
  have h:=ho
  clear ho
  refine ww ?_
  refine bL (fun j s=>∃(o1_0:Int),s=⟨[(0,.one (.c (dS x0))),(5,.one (.c (dI ((x0.size:Int))))),(6,.one (.c (dI o1_0)))],[]⟩∧F111_l1 x0 j o1_0=some o1) 1099511627776 [] ⟨0,rfl,h⟩ ?_
  rintro j _ ⟨o1_0,rfl,h⟩
  cases j with
  |zero=>cases(show(none:Option _)=some _ from h)
  |succ j=>
   rw[F111_l1]at h
   refine ww ?_
   refine condSh h (fun c2 h=>?_) (fun c2 h=>?_)
   ·refine ww ?_
    obtain⟨o3,ho,h⟩:=bi h
    refine cutS (fun s=>s=⟨[(0,.one (.c (dS x0))),(5,.one (.c (dI ((x0.size:Int))))),(6,.one (.c (dI o1_0))),(24,.one (.c (dB o3)))],[]⟩) ?_ ?_
    ·have h:=ho
     clear ho
     refine ww ?_
     obtain⟨y4,hy4,h⟩:=bi h
     refine t_sidx rfl rfl hy4 (ww ?_)
     refine guardSh h (fun g5 h=>?_) (fun g5 h=>?_)
     ·refine ww ?_
      obtain⟨y6,hy6,h⟩:=bi h
      refine t_sidx rfl rfl hy6 (ww ?_)
      refine guardSh h (fun g7 h=>?_) (fun g7 h=>?_)
      ·refine ww ?_
       cases h
       exact eM [] rfl
      ·refine ww ?_
       obtain⟨y8,hy8,h⟩:=bi h
       refine t_sidx rfl rfl hy8 (ww ?_)
       cases h
       exact eM [] rfl
     ·refine ww ?_
      cases h
      exact eM [] rfl
    ·rintro _ rfl
     clear ho
     refine ww ?_
     refine condBh h (fun c9 h=>?_) (fun c9 h=>?_)
     ·refine ww ?_
      obtain⟨fh0o1,hfh0o1,rfl⟩:=Option.map_eq_some_iff.1 h
      have h:=hfh0o1.trans h0o1
      cases h
      exact eF []
     ·refine ww ?_
      exact eL' j [] ⟨(IntKind.i64.wrap (o1_0+1)),rfl,h⟩ (Nat.lt_succ_self _)
   ·refine ww ?_
    cases h
    exact eM [] ⟨_,rfl,rfl⟩
 rintro _ ⟨po1,rfl,rfl⟩
 clear ho
 dsimp only at h
 refine ww ?_
 cases h
 exact eF []
theorem a64_ok:afn Try.prog 64=some (cloneA 1 16):=by kernel_rfl
theorem F64_ok{x0 r:List ByteArray}(h:cloneI x0=some r):CallD Try.prog 64 [.c (dM (x0.map eS))] [] (tupV [.c (.own 0 1 0 r.length none)]) [some (.arr 1 1 (r.map eS))]:=L_clone a64_ok (fun _=>rfl) h
theorem a60_ok:afn Try.prog 60=some (cloneA 25 368):=by kernel_rfl
theorem F60_ok{x0 r:List Change}(h:cloneI x0=some r):CallD Try.prog 60 [.c (dM (x0.map eChange))] [] (tupV [.c (.own 0 1 0 r.length none)]) [some (.arr 1 25 (r.map eChange))]:=L_clone a60_ok (fun _=>rfl) h
end Go.Proofs.Ytbopaemngpbdgaa
