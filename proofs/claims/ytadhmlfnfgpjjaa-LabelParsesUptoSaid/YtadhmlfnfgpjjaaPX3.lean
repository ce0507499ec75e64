/- Each Go function as a function over typed data, and its walk. -/
import Derived.Test.YtadhmlfnfgpjjaaPX
namespace Go.Proofs.Ytadhmlfnfgpjjaa
open Go Go.Fw Go.Shelf
set_option maxRecDepth 100000
set_option maxHeartbeats 4000000
set_option linter.unusedSimpArgs false
set_option linter.unusedVariables false
def F52(x0:Int):Option (Bool):=(((if 97≤x0 then(if x0≤122 then some true else(if 48≤x0 then(if x0≤57 then some true else(if x0=45 then some true else(if x0=46 then some true else some (decide (x0=47)))))else(if x0=45 then some true else(if x0=46 then some true else some (decide (x0=47))))))else(if 48≤x0 then(if x0≤57 then some true else(if x0=45 then some true else(if x0=46 then some true else some (decide (x0=47)))))else(if x0=45 then some true else(if x0=46 then some true else some (decide (x0=47))))))).bind fun o1=>some o1)
def a52:AFn:=⟨29,[(.tmp 2)],
 (.seq (.reg [sq 2 (.mv (kB false))])
 (.seq (.sem (.reg [sq 3 (.mv (.t 0)),
sq 4 (.bin .geq (.t 3) (.k (.c (.d (.v (.int .u8 97)))))),
sq 5 (.mv (.t 4)),
zg 6 5 true (.mv (.t 0)),
zg 7 5 true (.bin .leq (.t 6) (.k (.c (.d (.v (.int .u8 122)))))),
sq 8 (.pick (.t 5) (.t 7) (kB false)),
sq 9 (.mv (.t 8)),
zg 10 9 false (.mv (.t 0)),
zg 11 9 false (.bin .geq (.t 10) (.k (.c (.d (.v (.int .u8 48)))))),
zg 12 9 false (.mv (.t 11)),
zg 13 12 true (.mv (.t 0)),
zg 14 12 true (.bin .leq (.t 13) (.k (.c (.d (.v (.int .u8 57)))))),
zg 15 9 false (.pick (.t 12) (.t 14) (kB false)),
sq 16 (.pick (.t 9) (kB true) (.t 15)),
sq 17 (.mv (.t 16)),
zg 18 17 false (.mv (.t 0)),
zg 19 17 false (.bin .eql (.t 18) (.k (.c (.d (.v (.int .u8 45)))))),
sq 20 (.pick (.t 17) (kB true) (.t 19)),
sq 21 (.mv (.t 20)),
zg 22 21 false (.mv (.t 0)),
zg 23 21 false (.bin .eql (.t 22) (.k (.c (.d (.v (.int .u8 46)))))),
sq 24 (.pick (.t 21) (kB true) (.t 23)),
sq 25 (.mv (.t 24)),
zg 26 25 false (.mv (.t 0)),
zg 27 25 false (.bin .eql (.t 26) (.k (.c (.d (.v (.int .u8 47)))))),
sq 28 (.pick (.t 25) (kB true) (.t 27)),
sq 2 (.mv (.t 28))]))
 .ret))⟩
theorem a52_ok:afn Try.prog 52=some a52.er:=by kernel_rfl
theorem F52_ok{x0 r}(h:F52 x0=some r):CallD Try.prog 52 [.c (.d (.v (.int .u8 x0)))] [] (tupV [.c (dB r)]) []:=by
 refine callS a52_ok (by simp[a52]) ?_
 rw[F52]at h
 simp only[a52,VW.down,Nat.reduceEqDiff,reduceCtorEq,Nat.reduceAdd,Nat.reduceLeDiff,Nat.reduceLT,Nat.reduceBEq,Nat.reduceSub,EE.down]
 obtain⟨o1,ho,h⟩:=bi h
 refine cutS (fun s=>s=⟨[(2,.one (.c (dB o1)))],[]⟩) ?_ ?_
 ·have h:=ho
  clear ho
  refine ww ?_
  refine guardSh h (fun g2 h=>?_) (fun g2 h=>?_)
  ·refine ww ?_
   refine guardSh h (fun g3 h=>?_) (fun g3 h=>?_)
   ·refine ww ?_
    cases h
    exact eM [] rfl
   refine ww ?_
   refine guardSh h (fun g4 h=>?_) (fun g4 h=>?_)
   ·refine ww ?_
    refine guardSh h (fun g5 h=>?_) (fun g5 h=>?_)
    ·refine ww ?_
     cases h
     exact eM [] rfl
    refine ww ?_
    refine guardSh h (fun g6 h=>?_) (fun g6 h=>?_)
    ·refine ww ?_
     cases h
     exact eM [] rfl
    refine ww ?_
    refine guardSh h (fun g7 h=>?_) (fun g7 h=>?_)
    ·refine ww ?_
     cases h
     exact eM [] rfl
    refine ww ?_
    cases h
    exact eM [] rfl
   refine ww ?_
   refine guardSh h (fun g8 h=>?_) (fun g8 h=>?_)
   ·refine ww ?_
    cases h
    exact eM [] rfl
   refine ww ?_
   refine guardSh h (fun g9 h=>?_) (fun g9 h=>?_)
   ·refine ww ?_
    cases h
    exact eM [] rfl
   refine ww ?_
   cases h
   exact eM [] rfl
  refine ww ?_
  refine guardSh h (fun g10 h=>?_) (fun g10 h=>?_)
  ·refine ww ?_
   refine guardSh h (fun g11 h=>?_) (fun g11 h=>?_)
   ·refine ww ?_
    cases h
    exact eM [] rfl
   refine ww ?_
   refine guardSh h (fun g12 h=>?_) (fun g12 h=>?_)
   ·refine ww ?_
    cases h
    exact eM [] rfl
   refine ww ?_
   refine guardSh h (fun g13 h=>?_) (fun g13 h=>?_)
   ·refine ww ?_
    cases h
    exact eM [] rfl
   refine ww ?_
   cases h
   exact eM [] rfl
  refine ww ?_
  refine guardSh h (fun g14 h=>?_) (fun g14 h=>?_)
  ·refine ww ?_
   cases h
   exact eM [] rfl
  refine ww ?_
  refine guardSh h (fun g15 h=>?_) (fun g15 h=>?_)
  ·refine ww ?_
   cases h
   exact eM [] rfl
  refine ww ?_
  cases h
  exact eM [] rfl
 rintro _ rfl
 clear ho
 refine ww ?_
 cases h
 exact eF []
def F44_l5(o1_1:Int)(x0:ByteArray):Nat→Int→Option (Int)
 |0,_=>none
 |k+1,o5_0=>(((if(IntKind.i64.wrap (o1_1+o5_0))<(x0.size:Int)then(byI x0 ((IntKind.i64.wrap (o1_1+o5_0)))).bind fun y8=>(F52 y8).bind fun t9=>some t9 else some false)).bind fun o6=>(if o6=true then F44_l5 o1_1 x0 k ((IntKind.i64.wrap (o5_0+1)))else some o5_0))
def F44_l1(x0:ByteArray):Nat→(List ByteArray)→Int→Option (((List ByteArray)×Bool) ⊕ ((List ByteArray)))
 |0,_,_=>none
 |k+1,o1_0,o1_1=>(if o1_1<(x0.size:Int)then(byI x0 o1_1).bind fun y3=>(if y3=32 then F44_l1 x0 k o1_0 ((IntKind.i64.wrap (o1_1+1)))else((F44_l5 o1_1 x0 1099511627776 0).bind fun o5=>(((((if o5=0 then(if(IntKind.i64.wrap (o1_1+1))<(x0.size:Int)then(byI x0 o1_1).bind fun y15=>(if y15=33 then(byI x0 ((IntKind.i64.wrap (o1_1+1)))).bind fun y17=>some (decide (y17=61))else some false)else some false)else some false)).bind fun o12=>(if o12=true then some 2 else some o5))).bind fun o11=>(((((if o11=0 then(byI x0 o1_1).bind fun y22=>(if y22=40 then some true else(byI x0 o1_1).bind fun y24=>(if y24=41 then some true else(byI x0 o1_1).bind fun y26=>(if y26=44 then some true else(byI x0 o1_1).bind fun y28=>(if y28=33 then some true else(byI x0 o1_1).bind fun y30=>some (decide (y30=61))))))else some false)).bind fun o20=>(if o20=true then some 1 else some o11))).bind fun o19=>(if o19=0 then(some (([],false))).map Sum.inl else(subI x0 o1_1 ((IntKind.i64.wrap (o1_1+o19)))).bind fun s33=>(apI o1_0 ([s33])).bind fun a34=>F44_l1 x0 k a34 ((IntKind.i64.wrap (o1_1+o19))))))))else some (Sum.inr o1_0))
def F44(x0:ByteArray):Option ((List ByteArray)×Bool):=((F44_l1 x0 1099511627776 ([]) 0:Option (((List ByteArray)×Bool) ⊕ ((List ByteArray)))).bind fun o1=>match o1 with|Sum.inl f=>some f|Sum.inr po1=>some ((po1,true)))
def a44:AFn:=⟨102,[(.tmp 2),(.tmp 3)],
 (.seq (.reg [sq 2 (.mv kN),
sq 3 (.mv (kB false))])
 (.seq (.reg [sq 4 (.mv kN)])
 (.seq (.seq (.reg [sq 5 (.mv (kI 0))])
 (.sem (.block 0 (.loop (.seq (.seq (.reg [sq 7 (.mv (.t 5)),
sq 8 (.mv (.t 0)),
sq 9 (.slen (.t 8)),
sq 10 (.bin .lss (.t 7) (.t 9))])
 (.cond (.t 10)
 .skip
 (.exit 0)))
 (.block 1 (.seq (.seq (.reg [sq 11 (.mv (.t 0)),
sq 12 (.mv (.t 5)),
sq 13 (.sidx (.t 11) (.t 12)),
sq 14 (.bin .eql (.t 13) (.k (.c (.d (.v (.int .u8 32))))))])
 (.cond (.t 14)
 (.seq (.reg [sq 15 (.mv (.t 5)),
sq 16 (.bin .add (.t 15) (kI 1)),
sq 5 (.mv (.t 16))])
 (.exit 1))
 .skip))
 (.seq (.reg [sq 6 (.mv (kI 0))])
 (.seq (.sem (.block 2 (.loop (.seq (.seq (.sem (.reg [sq 17 (.mv (.t 5)),
sq 18 (.mv (.t 6)),
sq 19 (.bin .add (.t 17) (.t 18)),
sq 20 (.mv (.t 0)),
sq 21 (.slen (.t 20)),
sq 22 (.bin .lss (.t 19) (.t 21)),
sq 23 (.mv (.t 22)),
zg 24 23 true (.mv (.t 0)),
zg 25 23 true (.mv (.t 5)),
zg 26 23 true (.mv (.t 6)),
zg 27 23 true (.bin .add (.t 25) (.t 26)),
zg 28 23 true (.sidx (.t 24) (.t 27)),
zg 29 23 true (.call 52 [(.t 28)]),
sq 30 (.pick (.t 23) (.t 29) (kB false))]))
 (.cond (.t 30)
 .skip
 (.exit 2)))
 (.block 3 (.reg [sq 31 (.mv (.t 6)),
sq 32 (.bin .add (.t 31) (kI 1)),
sq 6 (.mv (.t 32))]))))))
 (.seq (.sem (.seq (.sem (.reg [sq 33 (.mv (.t 6)),
sq 34 (.bin .eql (.t 33) (kI 0)),
sq 35 (.mv (.t 34)),
zg 36 35 true (.mv (.t 5)),
zg 37 35 true (.bin .add (.t 36) (kI 1)),
zg 38 35 true (.mv (.t 0)),
zg 39 35 true (.slen (.t 38)),
zg 40 35 true (.bin .lss (.t 37) (.t 39)),
sq 41 (.pick (.t 35) (.t 40) (kB false)),
sq 42 (.mv (.t 41)),
zg 43 42 true (.mv (.t 0)),
zg 44 42 true (.mv (.t 5)),
zg 45 42 true (.sidx (.t 43) (.t 44)),
zg 46 42 true (.bin .eql (.t 45) (.k (.c (.d (.v (.int .u8 33)))))),
sq 47 (.pick (.t 42) (.t 46) (kB false)),
sq 48 (.mv (.t 47)),
zg 49 48 true (.mv (.t 0)),
zg 50 48 true (.mv (.t 5)),
zg 51 48 true (.bin .add (.t 50) (kI 1)),
zg 52 48 true (.sidx (.t 49) (.t 51)),
zg 53 48 true (.bin .eql (.t 52) (.k (.c (.d (.v (.int .u8 61)))))),
sq 54 (.pick (.t 48) (.t 53) (kB false))]))
 (.cond (.t 54)
 (.reg [sq 6 (.mv (kI 2))])
 .skip)))
 (.seq (.sem (.seq (.sem (.reg [sq 55 (.mv (.t 6)),
sq 56 (.bin .eql (.t 55) (kI 0)),
sq 57 (.mv (.t 56)),
zg 58 57 true (.mv (.t 0)),
zg 59 57 true (.mv (.t 5)),
zg 60 57 true (.sidx (.t 58) (.t 59)),
zg 61 57 true (.bin .eql (.t 60) (.k (.c (.d (.v (.int .u8 40)))))),
zg 62 57 true (.mv (.t 61)),
zg 63 62 false (.mv (.t 0)),
zg 64 62 false (.mv (.t 5)),
zg 65 62 false (.sidx (.t 63) (.t 64)),
zg 66 62 false (.bin .eql (.t 65) (.k (.c (.d (.v (.int .u8 41)))))),
zg 67 57 true (.pick (.t 62) (kB true) (.t 66)),
zg 68 57 true (.mv (.t 67)),
zg 69 68 false (.mv (.t 0)),
zg 70 68 false (.mv (.t 5)),
zg 71 68 false (.sidx (.t 69) (.t 70)),
zg 72 68 false (.bin .eql (.t 71) (.k (.c (.d (.v (.int .u8 44)))))),
zg 73 57 true (.pick (.t 68) (kB true) (.t 72)),
zg 74 57 true (.mv (.t 73)),
zg 75 74 false (.mv (.t 0)),
zg 76 74 false (.mv (.t 5)),
zg 77 74 false (.sidx (.t 75) (.t 76)),
zg 78 74 false (.bin .eql (.t 77) (.k (.c (.d (.v (.int .u8 33)))))),
zg 79 57 true (.pick (.t 74) (kB true) (.t 78)),
zg 80 57 true (.mv (.t 79)),
zg 81 80 false (.mv (.t 0)),
zg 82 80 false (.mv (.t 5)),
zg 83 80 false (.sidx (.t 81) (.t 82)),
zg 84 80 false (.bin .eql (.t 83) (.k (.c (.d (.v (.int .u8 61)))))),
zg 85 57 true (.pick (.t 80) (kB true) (.t 84)),
sq 86 (.pick (.t 57) (.t 85) (kB false))]))
 (.cond (.t 86)
 (.reg [sq 6 (.mv (kI 1))])
 .skip)))
 (.seq (.seq (.reg [sq 87 (.mv (.t 6)),
sq 88 (.bin .eql (.t 87) (kI 0))])
 (.cond (.t 88)
 (.seq (.reg [sq 2 (.mv kN),
sq 3 (.mv (kB false))])
 .ret)
 .skip))
 (.seq (.reg [sq 89 (.mv (.t 4)),
sq 90 (.mv (.t 0)),
sq 91 (.mv (.t 5)),
sq 92 (.mv (.t 5)),
sq 93 (.mv (.t 6)),
sq 94 (.bin .add (.t 92) (.t 93)),
sq 95 (.sslice (.t 90) (some (.t 91)) (some (.t 94))),
sq 96 (.bslice 1 [(.t 95)]),
sq 97 (.app 1 16 (.t 89) (.t 96)),
sq 4 (.mv (.t 97))])
 (.reg [sq 98 (.mv (.t 5)),
sq 99 (.mv (.t 6)),
sq 100 (.bin .add (.t 98) (.t 99)),
sq 5 (.mv (.t 100))]))))))))))))))
 (.seq (.reg [sq 101 (.mv (.t 4)),
sq 2 (.mv (.t 101)),
sq 3 (.mv (kB true))])
 .ret))))⟩
theorem a44_ok:afn Try.prog 44=some a44.er:=by kernel_rfl
theorem F44_ok{x0 r}(h:F44 x0=some r):CallD Try.prog 44 [.c (dS x0)] [] (tupV [.c (.own 0 0 0 (r.1.length) none),.c (dB r.2)]) [some (.arr 0 1 (r.1.map eS))]:=by
 refine callS a44_ok (by simp[a44]) ?_
 rw[F44]at h
 simp only[a44,VW.down,Nat.reduceEqDiff,reduceCtorEq,Nat.reduceAdd,Nat.reduceLeDiff,Nat.reduceLT,Nat.reduceBEq,Nat.reduceSub,EE.down]
 obtain⟨o1,ho,h⟩:=bi h
 refine cutS (fun s=>∃po1,o1=Sum.inr po1∧s=⟨[(4,.one (.c (.own 0 0 0 (po1.length) none)))],[some (.arr 0 1 (po1.map eS))]⟩) ?_ ?_
 ·have h0o1:=h
  have h:=ho
  clear ho
  refine ww ?_
  refine bL (fun j s=>∃(o1_0:List ByteArray) (o1_1:Int),s=⟨[(0,.one (.c (dS x0))),(4,.one (.c (.own 0 0 0 (o1_0.length) none))),(5,.one (.c (dI o1_1)))],[some (.arr 0 1 (o1_0.map eS))]⟩∧F44_l1 x0 j o1_0 o1_1=some o1) 1099511627776 [none] ⟨[],0,rfl,h⟩ ?_
  rintro j _ ⟨o1_0,o1_1,rfl,h⟩
  cases j with
  |zero=>cases(show(none:Option _)=some _ from h)
  |succ j=>
   rw[F44_l1]at h
   refine ww ?_
   refine condSh h (fun c2 h=>?_) (fun c2 h=>?_)
   ·refine ww ?_
    obtain⟨y3,hy3,h⟩:=bi h
    refine t_sidx rfl rfl hy3 (ww ?_)
    refine condSh h (fun c4 h=>?_) (fun c4 h=>?_)
    ·refine ww ?_
     exact eL' j [some 0] ⟨o1_0,(IntKind.i64.wrap (o1_1+1)),rfl,h⟩ (Nat.lt_succ_self _)
    ·refine ww ?_
     obtain⟨o5,ho,h⟩:=bi h
     refine cutS (fun s=>s=⟨[(0,.one (.c (dS x0))),(4,.one (.c (.own 0 0 0 (o1_0.length) none))),(5,.one (.c (dI o1_1))),(6,.one (.c (dI o5)))],[some (.arr 0 1 (o1_0.map eS))]⟩) ?_ ?_
     ·have h:=ho
      clear ho
      refine ww ?_
      refine bL (fun j s=>∃(o5_0:Int),s=⟨[(0,.one (.c (dS x0))),(4,.one (.c (.own 0 0 0 (o1_0.length) none))),(5,.one (.c (dI o1_1))),(6,.one (.c (dI o5_0)))],[some (.arr 0 1 (o1_0.map eS))]⟩∧F44_l5 o1_1 x0 j o5_0=some o5) 1099511627776 [some 0] ⟨0,rfl,h⟩ ?_
      rintro j _ ⟨o5_0,rfl,h⟩
      cases j with
      |zero=>cases(show(none:Option _)=some _ from h)
      |succ j=>
       rw[F44_l5]at h
       refine ww ?_
       obtain⟨o6,ho,h⟩:=bi h
       refine cutS (fun s=>s=⟨[(0,.one (.c (dS x0))),(4,.one (.c (.own 0 0 0 (o1_0.length) none))),(5,.one (.c (dI o1_1))),(6,.one (.c (dI o5_0))),(30,.one (.c (dB o6)))],[some (.arr 0 1 (o1_0.map eS))]⟩) ?_ ?_
       ·have h:=ho
        clear ho
        refine ww ?_
        refine guardSh h (fun g7 h=>?_) (fun g7 h=>?_)
        ·refine ww ?_
         obtain⟨y8,hy8,h⟩:=bi h
         refine t_sidx rfl rfl hy8 (ww ?_)
         obtain⟨t9,ht9,h⟩:=bi h
         refine cN [] (F52_ok ht9) trivial (ww ?_)
         cases h
         exact eM [some 0] rfl
        ·refine ww ?_
         cases h
         exact eM [some 0] rfl
       ·rintro _ rfl
        clear ho
        refine ww ?_
        refine condBh h (fun c10 h=>?_) (fun c10 h=>?_)
        ·refine ww ?_
         exact eL' j [some 0] ⟨(IntKind.i64.wrap (o5_0+1)),rfl,h⟩ (Nat.lt_succ_self _)
        ·refine ww ?_
         cases h
         exact eM [some 0] rfl
     ·rintro _ rfl
      clear ho
      refine ww ?_
      obtain⟨o11,ho,h⟩:=bi h
      refine cutS (fun s=>s=⟨[(0,.one (.c (dS x0))),(4,.one (.c (.own 0 0 0 (o1_0.length) none))),(5,.one (.c (dI o1_1))),(6,.one (.c (dI o11)))],[some (.arr 0 1 (o1_0.map eS))]⟩) ?_ ?_
      ·have h:=ho
       clear ho
       refine ww ?_
       obtain⟨o12,ho,h⟩:=bi h
       refine cutS (fun s=>s=⟨[(0,.one (.c (dS x0))),(4,.one (.c (.own 0 0 0 (o1_0.length) none))),(5,.one (.c (dI o1_1))),(6,.one (.c (dI o5))),(54,.one (.c (dB o12)))],[some (.arr 0 1 (o1_0.map eS))]⟩) ?_ ?_
       ·have h:=ho
        clear ho
        refine ww ?_
        refine guardSh h (fun g13 h=>?_) (fun g13 h=>?_)
        ·refine ww ?_
         refine guardSh h (fun g14 h=>?_) (fun g14 h=>?_)
         ·refine ww ?_
          obtain⟨y15,hy15,h⟩:=bi h
          refine t_sidx rfl rfl hy15 (ww ?_)
          refine guardSh h (fun g16 h=>?_) (fun g16 h=>?_)
          ·refine ww ?_
           obtain⟨y17,hy17,h⟩:=bi h
           refine t_sidx rfl rfl hy17 (ww ?_)
           cases h
           exact eM [some 0] rfl
          ·refine ww ?_
           cases h
           exact eM [some 0] rfl
         ·refine ww ?_
          cases h
          exact eM [some 0] rfl
        ·refine ww ?_
         cases h
         exact eM [some 0] rfl
       ·rintro _ rfl
        clear ho
        refine ww ?_
        refine condBh h (fun c18 h=>?_) (fun c18 h=>?_)
        ·refine ww ?_
         cases h
         exact eM [some 0] rfl
        ·refine ww ?_
         cases h
         exact eM [some 0] rfl
      ·rintro _ rfl
       clear ho
       refine ww ?_
       obtain⟨o19,ho,h⟩:=bi h
       refine cutS (fun s=>s=⟨[(0,.one (.c (dS x0))),(4,.one (.c (.own 0 0 0 (o1_0.length) none))),(5,.one (.c (dI o1_1))),(6,.one (.c (dI o19)))],[some (.arr 0 1 (o1_0.map eS))]⟩) ?_ ?_
       ·have h:=ho
        clear ho
        refine ww ?_
        obtain⟨o20,ho,h⟩:=bi h
        refine cutS (fun s=>s=⟨[(0,.one (.c (dS x0))),(4,.one (.c (.own 0 0 0 (o1_0.length) none))),(5,.one (.c (dI o1_1))),(6,.one (.c (dI o11))),(86,.one (.c (dB o20)))],[some (.arr 0 1 (o1_0.map eS))]⟩) ?_ ?_
        ·have h:=ho
         clear ho
         refine ww ?_
         refine guardSh h (fun g21 h=>?_) (fun g21 h=>?_)
         ·refine ww ?_
          obtain⟨y22,hy22,h⟩:=bi h
          refine t_sidx rfl rfl hy22 (ww ?_)
          refine guardSh h (fun g23 h=>?_) (fun g23 h=>?_)
          ·refine ww ?_
           cases h
           exact eM [some 0] rfl
          ·refine ww ?_
           obtain⟨y24,hy24,h⟩:=bi h
           refine t_sidx rfl rfl hy24 (ww ?_)
           refine guardSh h (fun g25 h=>?_) (fun g25 h=>?_)
           ·refine ww ?_
            cases h
            exact eM [some 0] rfl
           ·refine ww ?_
            obtain⟨y26,hy26,h⟩:=bi h
            refine t_sidx rfl rfl hy26 (ww ?_)
            refine guardSh h (fun g27 h=>?_) (fun g27 h=>?_)
            ·refine ww ?_
             cases h
             exact eM [some 0] rfl
            ·refine ww ?_
             obtain⟨y28,hy28,h⟩:=bi h
             refine t_sidx rfl rfl hy28 (ww ?_)
             refine guardSh h (fun g29 h=>?_) (fun g29 h=>?_)
             ·refine ww ?_
              cases h
              exact eM [some 0] rfl
             ·refine ww ?_
              obtain⟨y30,hy30,h⟩:=bi h
              refine t_sidx rfl rfl hy30 (ww ?_)
              cases h
              exact eM [some 0] rfl
         ·refine ww ?_
          cases h
          exact eM [some 0] rfl
        ·rintro _ rfl
         clear ho
         refine ww ?_
         refine condBh h (fun c31 h=>?_) (fun c31 h=>?_)
         ·refine ww ?_
          cases h
          exact eM [some 0] rfl
         ·refine ww ?_
          cases h
          exact eM [some 0] rfl
       ·rintro _ rfl
        clear ho
        refine ww ?_
        refine condSh h (fun c32 h=>?_) (fun c32 h=>?_)
        ·refine ww ?_
         obtain⟨fh0o1,hfh0o1,rfl⟩:=Option.map_eq_some_iff.1 h
         have h:=hfh0o1.trans h0o1
         cases h
         exact eF [none]
        ·refine ww ?_
         obtain⟨s33,hs33,h⟩:=bi h
         refine t_sslice rfl rfl rfl hs33 (ww ?_)
         refine t_bslice (enc:=eS) (ys:=[s33]) rfl rfl (by simp[A1.cells]) (by first|rfl|(simp only[List.drop_zero,take_mapL];rfl)|(simp only[lit,List.map_cons,List.map_nil,List.drop_zero,take_mapL,EE.down];done)|(simp only[lit,List.map_cons,List.map_nil,List.drop_zero,take_mapL,EE.down];rfl)) (ww ?_)
         obtain⟨a34,ha34,h⟩:=bi h
         refine t_app (enc:=eS) (xs:=o1_0) rfl rfl (by first|rfl|simp only[List.length_set]|exact(clrL_len (slI_len (by assumption))).symm) rfl (rows_full (enc:=eS) (by first|rfl|simp only[List.length_set]|exact(clrL_len (slI_len (by assumption))).symm) rfl) ha34 (ww ?_)
         exact eL' j [some 0] ⟨a34,(IntKind.i64.wrap (o1_1+o19)),rfl,h⟩ (Nat.lt_succ_self _)
   ·refine ww ?_
    cases h
    exact eM [some 0] ⟨_,rfl,rfl⟩
 rintro _ ⟨po1,rfl,rfl⟩
 clear ho
 dsimp only at h
 refine ww ?_
 cases h
 exact eF [some 0]
def F64(x0:(List ByteArray))(x1:Int):Option (ByteArray):=(if x1<(x0.length:Int)then(rdI x0 x1).bind fun y2=>some y2 else some ((⟨#[]⟩:ByteArray)))
def a64:AFn:=⟨13,[(.tmp 4)],
 (.seq (.reg [sq 4 (.mv (kS ⟨#[]⟩))])
 (.seq (.seq (.reg [sq 5 (.mv (.t 1)),
sq 6 (.mv (.t 0)),
sq 7 (.len (.t 6)),
sq 8 (.bin .lss (.t 5) (.t 7))])
 (.cond (.t 8)
 (.seq (.reg [sq 9 (.mv (.t 0)),
sq 10 (.mv (.t 1)),
sq 11 (.indexA 1 (.t 9) (.t 10)),
sq 12 (.load none (.t 11)),
sq 4 (.mv (.t 12))])
 .ret)
 .skip))
 (.seq (.reg [sq 4 (.mv (kS ⟨#[]⟩))])
 .ret)))⟩
theorem a64_ok:afn Try.prog 64=some a64.er:=by kernel_rfl
theorem F64_ok{x0 x1 r}(h:F64 x0 x1=some r):CallD Try.prog 64 [.c (dM (x0.map eS)),.c (dI x1)] [] (tupV [.c (dS r)]) []:=by
 refine callS a64_ok (by simp[a64]) ?_
 rw[F64]at h
 simp only[a64,VW.down,Nat.reduceEqDiff,reduceCtorEq,Nat.reduceAdd,Nat.reduceLeDiff,Nat.reduceLT,Nat.reduceBEq,Nat.reduceSub,EE.down]
 refine condSh h (fun c1 h=>?_) (fun c1 h=>?_)
 ·refine ww ?_
  obtain⟨y2,hy2,h⟩:=bi h
  refine t_idxF (enc:=eS) (xs:=x0) rfl rfl hy2 rfl (ww ?_)
  cases h
  exact eF []
 refine ww ?_
 cases h
 exact eF []
def F65(x0:ByteArray):Option (Bool):=(((if¬(x0=(⟨#[]⟩:ByteArray))then(byI x0 0).bind fun y3=>(F52 y3).bind fun t4=>some t4 else some false)).bind fun o1=>some o1)
def a65:AFn:=⟨10,[(.tmp 2)],
 (.seq (.reg [sq 2 (.mv (kB false))])
 (.seq (.sem (.reg [sq 3 (.mv (.t 0)),
sq 4 (.bin .neq (.t 3) (kS ⟨#[]⟩)),
sq 5 (.mv (.t 4)),
zg 6 5 true (.mv (.t 0)),
zg 7 5 true (.sidx (.t 6) (kI 0)),
zg 8 5 true (.call 52 [(.t 7)]),
sq 9 (.pick (.t 5) (.t 8) (kB false)),
sq 2 (.mv (.t 9))]))
 .ret))⟩
theorem a65_ok:afn Try.prog 65=some a65.er:=by kernel_rfl
theorem F65_ok{x0 r}(h:F65 x0=some r):CallD Try.prog 65 [.c (dS x0)] [] (tupV [.c (dB r)]) []:=by
 refine callS a65_ok (by simp[a65]) ?_
 rw[F65]at h
 simp only[a65,VW.down,Nat.reduceEqDiff,reduceCtorEq,Nat.reduceAdd,Nat.reduceLeDiff,Nat.reduceLT,Nat.reduceBEq,Nat.reduceSub,EE.down]
 obtain⟨o1,ho,h⟩:=bi h
 refine cutS (fun s=>s=⟨[(2,.one (.c (dB o1)))],[]⟩) ?_ ?_
 ·have h:=ho
  clear ho
  refine ww ?_
  refine guardSh h (fun g2 h=>?_) (fun g2 h=>?_)
  ·refine ww ?_
   obtain⟨y3,hy3,h⟩:=bi h
   refine t_sidx rfl rfl hy3 (ww ?_)
   obtain⟨t4,ht4,h⟩:=bi h
   refine cN [] (F52_ok ht4) trivial (ww ?_)
   cases h
   exact eM [] rfl
  refine ww ?_
  cases h
  exact eM [] rfl
 rintro _ rfl
 clear ho
 refine ww ?_
 cases h
 exact eF []
def F77_l1(x0:(List ByteArray))(x1:ByteArray):Nat→(List ByteArray)→Int→Option ((List ByteArray)×Int)
 |0,_,_=>none
 |k+1,o1_0,o1_1=>(((if o1_1<(x0.length:Int)then(rdI x0 o1_1).bind fun y4=>some (Op.bytesLess y4.toList x1.toList)else some false)).bind fun o2=>(if o2=true then(rdI x0 o1_1).bind fun y6=>(apI o1_0 ([y6])).bind fun a7=>F77_l1 x0 x1 k a7 ((IntKind.i64.wrap (o1_1+1)))else some ((o1_0,o1_1))))
def F77_l9(x0:(List ByteArray))(x1:ByteArray):Nat→(List ByteArray)→Int→Option ((List ByteArray))
 |0,_,_=>none
 |k+1,o9_0,o9_1=>(if o9_1<(x0.length:Int)then(((rdI x0 o9_1).bind fun y12=>(if¬(y12=x1)then(apI o9_0 ([y12])).bind fun a14=>some a14 else some o9_0)).bind fun o11=>F77_l9 x0 x1 k o11 ((IntKind.i64.wrap (o9_1+1))))else some o9_0)
def F77(x0:(List ByteArray))(x1:ByteArray):Option ((List ByteArray)):=((F77_l1 x0 x1 1099511627776 ([]) 0).bind fun o1=>(apI o1.1 ([x1])).bind fun a8=>((F77_l9 x0 x1 1099511627776 a8 o1.2).bind fun o9=>some o9))
def a77:AFn:=⟨52,[(.tmp 4)],
 (.seq (.reg [sq 4 (.mv kN)])
 (.seq (.reg [sq 5 (.mv kN)])
 (.seq (.reg [sq 6 (.mv (kI 0))])
 (.seq (.sem (.block 0 (.loop (.seq (.seq (.sem (.reg [sq 7 (.mv (.t 6)),
sq 8 (.mv (.t 0)),
sq 9 (.len (.t 8)),
sq 10 (.bin .lss (.t 7) (.t 9)),
sq 11 (.mv (.t 10)),
zg 12 11 true (.mv (.t 0)),
zg 13 11 true (.mv (.t 6)),
zg 14 11 true (.indexA 1 (.t 12) (.t 13)),
zg 15 11 true (.load none (.t 14)),
zg 16 11 true (.mv (.t 1)),
zg 17 11 true (.bin .lss (.t 15) (.t 16)),
zl 18 (.pick (.t 11) (.t 17) (kB false)) [] [8,12,14]]))
 (.cond (.t 18)
 .skip
 (.exit 0)))
 (.block 1 (.seq (.reg [sq 19 (.mv (.t 5)),
sq 20 (.mv (.t 0)),
sq 21 (.mv (.t 6)),
sq 22 (.indexA 1 (.t 20) (.t 21)),
sq 23 (.load none (.t 22)),
sq 24 (.bslice 1 [(.t 23)]),
sq 25 (.app 1 16 (.t 19) (.t 24)),
sq 5 (.mv (.t 25))])
 (.reg [sq 26 (.mv (.t 6)),
sq 27 (.bin .add (.t 26) (kI 1)),
sq 6 (.mv (.t 27))])))))))
 (.seq (.reg [sq 28 (.mv (.t 5)),
sq 29 (.mv (.t 1)),
sq 30 (.bslice 1 [(.t 29)]),
sq 31 (.app 1 16 (.t 28) (.t 30)),
sq 5 (.mv (.t 31))])
 (.seq (.sem (.block 2 (.loop (.seq (.seq (.reg [sq 32 (.mv (.t 6)),
sq 33 (.mv (.t 0)),
sq 34 (.len (.t 33)),
sq 35 (.bin .lss (.t 32) (.t 34))])
 (.cond (.t 35)
 .skip
 (.exit 2)))
 (.seq (.sem (.block 3 (.seq (.reg [sq 38 (.mv (.t 0)),
sq 39 (.mv (.t 6)),
sq 40 (.indexA 1 (.t 38) (.t 39)),
sq 41 (.load none (.t 40)),
sq 42 (.mv (.t 1)),
sq 43 (.bin .neq (.t 41) (.t 42))])
 (.cond (.t 43)
 (.reg [sq 44 (.mv (.t 5)),
sq 45 (.mv (.t 0)),
sq 46 (.mv (.t 6)),
sq 47 (.indexA 1 (.t 45) (.t 46)),
sq 48 (.load none (.t 47)),
sq 49 (.bslice 1 [(.t 48)]),
sq 50 (.app 1 16 (.t 44) (.t 49)),
sq 5 (.mv (.t 50))])
 .skip))))
 (.reg [sq 36 (.mv (.t 6)),
sq 37 (.bin .add (.t 36) (kI 1)),
sq 6 (.mv (.t 37))]))))))
 (.seq (.reg [sq 51 (.mv (.t 5)),
sq 4 (.mv (.t 51))])
 .ret)))))))⟩
theorem a77_ok:afn Try.prog 77=some a77.er:=by kernel_rfl
theorem F77_ok{x0 x1 r}(h:F77 x0 x1=some r):CallD Try.prog 77 [.c (dM (x0.map eS)),.c (dS x1)] [] (tupV [.c (.own 0 0 0 (r.length) none)]) [some (.arr 0 1 (r.map eS))]:=by
 refine callS a77_ok (by simp[a77]) ?_
 rw[F77]at h
 simp only[a77,VW.down,Nat.reduceEqDiff,reduceCtorEq,Nat.reduceAdd,Nat.reduceLeDiff,Nat.reduceLT,Nat.reduceBEq,Nat.reduceSub,EE.down]
 obtain⟨o1,ho,h⟩:=bi h
 refine cutS (fun s=>s=⟨[(0,.one (.c (dM (x0.map eS)))),(1,.one (.c (dS x1))),(5,.one (.c (.own 0 0 0 (o1.1.length) none))),(6,.one (.c (dI o1.2)))],[some (.arr 0 1 (o1.1.map eS))]⟩) ?_ ?_
 ·have h:=ho
  clear ho
  refine ww ?_
  refine bL (fun j s=>∃(o1_0:List ByteArray) (o1_1:Int),s=⟨[(0,.one (.c (dM (x0.map eS)))),(1,.one (.c (dS x1))),(5,.one (.c (.own 0 0 0 (o1_0.length) none))),(6,.one (.c (dI o1_1)))],[some (.arr 0 1 (o1_0.map eS))]⟩∧F77_l1 x0 x1 j o1_0 o1_1=some o1) 1099511627776 [none] ⟨[],0,rfl,h⟩ ?_
  rintro j _ ⟨o1_0,o1_1,rfl,h⟩
  cases j with
  |zero=>cases(show(none:Option _)=some _ from h)
  |succ j=>
   rw[F77_l1]at h
   refine ww ?_
   obtain⟨o2,ho,h⟩:=bi h
   refine cutS (fun s=>s=⟨[(0,.one (.c (dM (x0.map eS)))),(1,.one (.c (dS x1))),(5,.one (.c (.own 0 0 0 (o1_0.length) none))),(6,.one (.c (dI o1_1))),(18,.one (.c (dB o2)))],[some (.arr 0 1 (o1_0.map eS))]⟩) ?_ ?_
   ·have h:=ho
    clear ho
    refine ww ?_
    refine guardSh h (fun g3 h=>?_) (fun g3 h=>?_)
    ·refine ww ?_
     obtain⟨y4,hy4,h⟩:=bi h
     refine t_idxF (enc:=eS) (xs:=x0) rfl rfl hy4 rfl (ww ?_)
     cases h
     exact eM [some 0] rfl
    ·refine ww ?_
     cases h
     exact eM [some 0] rfl
   ·rintro _ rfl
    clear ho
    refine ww ?_
    refine condBh h (fun c5 h=>?_) (fun c5 h=>?_)
    ·refine ww ?_
     obtain⟨y6,hy6,h⟩:=bi h
     refine t_idxF (enc:=eS) (xs:=x0) rfl rfl hy6 rfl (ww ?_)
     refine t_bslice (enc:=eS) (ys:=[y6]) rfl rfl (by simp[A1.cells]) (by first|rfl|(simp only[List.drop_zero,take_mapL];rfl)|(simp only[lit,List.map_cons,List.map_nil,List.drop_zero,take_mapL,EE.down];done)|(simp only[lit,List.map_cons,List.map_nil,List.drop_zero,take_mapL,EE.down];rfl)) (ww ?_)
     obtain⟨a7,ha7,h⟩:=bi h
     refine t_app (enc:=eS) (xs:=o1_0) rfl rfl (by first|rfl|simp only[List.length_set]|exact(clrL_len (slI_len (by assumption))).symm) rfl (rows_full (enc:=eS) (by first|rfl|simp only[List.length_set]|exact(clrL_len (slI_len (by assumption))).symm) rfl) ha7 (ww ?_)
     exact eL' j [some 0] ⟨a7,(IntKind.i64.wrap (o1_1+1)),rfl,h⟩ (Nat.lt_succ_self _)
    ·refine ww ?_
     cases h
     exact eM [some 0] rfl
 rintro _ rfl
 clear ho
 refine ww ?_
 refine t_bslice (enc:=eS) (ys:=[x1]) rfl rfl (by simp[A1.cells]) (by first|rfl|(simp only[List.drop_zero,take_mapL];rfl)|(simp only[lit,List.map_cons,List.map_nil,List.drop_zero,take_mapL,EE.down];done)|(simp only[lit,List.map_cons,List.map_nil,List.drop_zero,take_mapL,EE.down];rfl)) (ww ?_)
 obtain⟨a8,ha8,h⟩:=bi h
 refine t_app (enc:=eS) (xs:=o1.1) rfl rfl (by first|rfl|simp only[List.length_set]|exact(clrL_len (slI_len (by assumption))).symm) rfl (rows_full (enc:=eS) (by first|rfl|simp only[List.length_set]|exact(clrL_len (slI_len (by assumption))).symm) rfl) ha8 (ww ?_)
 obtain⟨o9,ho,h⟩:=bi h
 refine cutS (fun s=>s=⟨[(5,.one (.c (.own 0 0 0 (o9.length) none)))],[some (.arr 0 1 (o9.map eS))]⟩) ?_ ?_
 ·have h:=ho
  clear ho
  refine ww ?_
  refine bL (fun j s=>∃(o9_0:List ByteArray) (o9_1:Int),s=⟨[(0,.one (.c (dM (x0.map eS)))),(1,.one (.c (dS x1))),(5,.one (.c (.own 0 0 0 (o9_0.length) none))),(6,.one (.c (dI o9_1)))],[some (.arr 0 1 (o9_0.map eS))]⟩∧F77_l9 x0 x1 j o9_0 o9_1=some o9) 1099511627776 [some 0] ⟨a8,o1.2,rfl,h⟩ ?_
  rintro j _ ⟨o9_0,o9_1,rfl,h⟩
  cases j with
  |zero=>cases(show(none:Option _)=some _ from h)
  |succ j=>
   rw[F77_l9]at h
   refine ww ?_
   refine condSh h (fun c10 h=>?_) (fun c10 h=>?_)
   ·refine ww ?_
    obtain⟨o11,ho,h⟩:=bi h
    refine cutS (fun s=>s=⟨[(0,.one (.c (dM (x0.map eS)))),(1,.one (.c (dS x1))),(5,.one (.c (.own 0 0 0 (o11.length) none))),(6,.one (.c (dI o9_1)))],[some (.arr 0 1 (o11.map eS))]⟩) ?_ ?_
    ·have h:=ho
     clear ho
     refine ww ?_
     obtain⟨y12,hy12,h⟩:=bi h
     refine t_idxF (enc:=eS) (xs:=x0) rfl rfl hy12 rfl (ww ?_)
     refine condSh h (fun c13 h=>?_) (fun c13 h=>?_)
     ·refine ww ?_
      refine t_idxF (enc:=eS) (xs:=x0) rfl rfl hy12 rfl (ww ?_)
      refine t_bslice (enc:=eS) (ys:=[y12]) rfl rfl (by simp[A1.cells]) (by first|rfl|(simp only[List.drop_zero,take_mapL];rfl)|(simp only[lit,List.map_cons,List.map_nil,List.drop_zero,take_mapL,EE.down];done)|(simp only[lit,List.map_cons,List.map_nil,List.drop_zero,take_mapL,EE.down];rfl)) (ww ?_)
      obtain⟨a14,ha14,h⟩:=bi h
      refine t_app (enc:=eS) (xs:=o9_0) rfl rfl (by first|rfl|simp only[List.length_set]|exact(clrL_len (slI_len (by assumption))).symm) rfl (rows_full (enc:=eS) (by first|rfl|simp only[List.length_set]|exact(clrL_len (slI_len (by assumption))).symm) rfl) ha14 (ww ?_)
      cases h
      exact eM [some 0] rfl
     ·refine ww ?_
      cases h
      exact eM [some 0] rfl
    ·rintro _ rfl
     clear ho
     refine ww ?_
     exact eL' j [some 0] ⟨o11,(IntKind.i64.wrap (o9_1+1)),rfl,h⟩ (Nat.lt_succ_self _)
   ·refine ww ?_
    cases h
    exact eM [some 0] rfl
 rintro _ rfl
 clear ho
 refine ww ?_
 cases h
 exact eF [some 0]
def F66_l3(x0:(List ByteArray))(x2:Requirement):Nat→Int→(List ByteArray)→Option ((ByteArray×Int×(List ByteArray)×Int×Bool) ⊕ (Unit))
 |0,_,_=>none
 |k+1,o3_0,o3_1=>(((F64 x0 ((IntKind.i64.wrap (o3_0+1)))).bind fun t5=>(F65 t5).bind fun t6=>(if t6=true then(rdI x0 ((IntKind.i64.wrap (o3_0+1)))).bind fun y8=>some (((IntKind.i64.wrap (((IntKind.i64.wrap (o3_0+1)))+1)),y8))else some (((IntKind.i64.wrap (o3_0+1)),(⟨#[]⟩:ByteArray))))).bind fun o4=>(F77 o3_1 o4.2).bind fun t9=>(F64 x0 o4.1).bind fun t10=>(if t10=(⟨#[41]⟩:ByteArray)then(some ((x2.Key,x2.Op,t9,(IntKind.i64.wrap (o4.1+1)),false))).map Sum.inl else(F64 x0 o4.1).bind fun t12=>(if¬(t12=(⟨#[44]⟩:ByteArray))then(some (((⟨#[]⟩:ByteArray),0,[],0,true))).map Sum.inl else F66_l3 x0 x2 k o4.1 t9)))
def F66(x0:(List ByteArray))(x1:Int)(x2:Requirement):Option (ByteArray×Int×(List ByteArray)×Int×Bool):=(F64 x0 x1).bind fun t1=>(if¬(t1=(⟨#[40]⟩:ByteArray))then some (((⟨#[]⟩:ByteArray),0,[],0,true))else((F66_l3 x0 x2 1099511627776 x1 x2.Values).bind fun o3=>match o3 with|Sum.inl f=>some f|Sum.inr _=>none))
def a66:AFn:=⟨43,[(.cell 6 (some 5))],
 (.seq (.reg [sq 5 (.box (.t 2)),
sq 6 (.zbox [dS ⟨#[]⟩,dI 0,dN,dI 0,dB false])])
 (.seq (.seq (.reg [sq 8 (.mv (.t 0)),
sq 9 (.mv (.t 1)),
sq 10 (.call 64 [(.t 8),(.t 9)]),
sq 11 (.bin .neq (.t 10) (kS ⟨#[40]⟩))])
 (.cond (.t 11)
 (.seq (.reg [sq 12 (.build [dS ⟨#[]⟩,dI 0,dN,dI 0,dB false] [(4,1,(kB true))]),
su (.store 5 (.t 6) (.t 12))])
 .ret)
 .skip))
 (.sem (.block 0 (.loop (.block 1 (.seq (.reg [sq 13 (.mv (.t 1)),
sq 14 (.bin .add (.t 13) (kI 1)),
sq 1 (.mv (.t 14))])
 (.seq (.reg [sq 7 (.mv (kS ⟨#[]⟩))])
 (.seq (.sem (.seq (.reg [sq 15 (.mv (.t 0)),
sq 16 (.mv (.t 1)),
sq 17 (.call 64 [(.t 15),(.t 16)]),
sq 18 (.call 65 [(.t 17)])])
 (.cond (.t 18)
 (.seq (.reg [sq 19 (.mv (.t 0)),
sq 20 (.mv (.t 1)),
sq 21 (.indexA 1 (.t 19) (.t 20)),
sq 22 (.load none (.t 21)),
sq 7 (.mv (.t 22))])
 (.reg [sq 23 (.mv (.t 1)),
sq 24 (.bin .add (.t 23) (kI 1)),
sq 1 (.mv (.t 24))]))
 .skip)))
 (.seq (.reg [sq 25 (.fieldA 2 (.t 5)),
sq 26 (.load none (.t 25)),
sq 27 (.mv (.t 7)),
sq 28 (.call 77 [(.t 26),(.t 27)]),
sq 29 (.fieldA 2 (.t 5)),
su (.store 1 (.t 29) (.t 28))])
 (.seq (.seq (.reg [sq 30 (.mv (.t 0)),
sq 31 (.mv (.t 1)),
sq 32 (.call 64 [(.t 30),(.t 31)]),
sq 33 (.bin .eql (.t 32) (kS ⟨#[41]⟩))])
 (.cond (.t 33)
 (.seq (.reg [sq 34 (.load (some 3) (.t 5)),
sq 35 (.mv (.t 1)),
sq 36 (.bin .add (.t 35) (kI 1)),
sq 37 (.build [dS ⟨#[]⟩,dI 0,dN,dI 0,dB false] [(0,3,(.t 34)),(3,1,(.t 36))]),
su (.store 5 (.t 6) (.t 37))])
 .ret)
 .skip))
 (.seq (.reg [sq 38 (.mv (.t 0)),
sq 39 (.mv (.t 1)),
sq 40 (.call 64 [(.t 38),(.t 39)]),
sq 41 (.bin .neq (.t 40) (kS ⟨#[44]⟩))])
 (.cond (.t 41)
 (.seq (.reg [sq 42 (.build [dS ⟨#[]⟩,dI 0,dN,dI 0,dB false] [(4,1,(kB true))]),
su (.store 5 (.t 6) (.t 42))])
 .ret)
 .skip)))))))))))))⟩
theorem a66_ok:afn Try.prog 66=some a66.er:=by kernel_rfl
theorem F66_ok{x0 x1 x2 r}(h:F66 x0 x1 x2=some r):CallD Try.prog 66 [.c (dM (x0.map eS)),.c (dI x1),.agg [dS x2.Key,dI x2.Op,dM (x2.Values.map eS)]] [] (tupV [.agg [dS r.1,dI r.2.1,.own 0 0 0 (r.2.2.1.length) none,dI r.2.2.2.1,dB r.2.2.2.2]]) [some (.arr 0 1 (r.2.2.1.map eS))]:=by
 refine callS a66_ok (by simp[a66]) ?_
 rw[F66]at h
 simp only[a66,VW.down,Nat.reduceEqDiff,reduceCtorEq,Nat.reduceAdd,Nat.reduceLeDiff,Nat.reduceLT,Nat.reduceBEq,Nat.reduceSub,EE.down]
 obtain⟨t1,ht1,h⟩:=bi h
 refine cN [] (F64_ok ht1) trivial (ww ?_)
 refine condSh h (fun c2 h=>?_) (fun c2 h=>?_)
 ·refine ww ?_
  cases h
  exact eF [none]
 refine ww ?_
 obtain⟨o3,ho,h⟩:=bi h
 refine cutS (fun _=>False) ?_ (fun _ hf=>hf.elim)
 have h0o3:=h
 have h:=ho
 clear ho
 refine ww ?_
 refine bL (fun j s=>∃(o3_0:Int) (o3_1:List ByteArray),s=⟨[(0,.one (.c (dM (x0.map eS)))),(1,.one (.c (dI o3_0))),(5,.one (.c (.pt 0 0))),(6,.one (.c (.pt 1 0)))],[some (.box [dS x2.Key,dI x2.Op,dM (o3_1.map eS)]),some (.box [dS ((⟨#[]⟩:ByteArray)),dI 0,dN,dI 0,dB false])]⟩∧F66_l3 x0 x2 j o3_0 o3_1=some o3) 1099511627776 [some 0,some 1] ⟨x1,x2.Values,rfl,h⟩ ?_
 rintro j _ ⟨o3_0,o3_1,rfl,h⟩
 cases j with
 |zero=>cases(show(none:Option _)=some _ from h)
 |succ j=>
  rw[F66_l3]at h
  refine ww ?_
  obtain⟨o4,ho,h⟩:=bi h
  refine cutS (fun s=>s=⟨[(0,.one (.c (dM (x0.map eS)))),(1,.one (.c (dI o4.1))),(5,.one (.c (.pt 0 0))),(6,.one (.c (.pt 1 0))),(7,.one (.c (dS o4.2)))],[some (.box [dS x2.Key,dI x2.Op,dM (o3_1.map eS)]),some (.box [dS ((⟨#[]⟩:ByteArray)),dI 0,dN,dI 0,dB false])]⟩) ?_ ?_
  ·have h:=ho
   clear ho
   refine ww ?_
   obtain⟨t5,ht5,h⟩:=bi h
   refine cN [] (F64_ok ht5) trivial (ww ?_)
   obtain⟨t6,ht6,h⟩:=bi h
   refine cN [] (F65_ok ht6) trivial (ww ?_)
   refine condBh h (fun c7 h=>?_) (fun c7 h=>?_)
   ·refine ww ?_
    obtain⟨y8,hy8,h⟩:=bi h
    refine t_idxF (enc:=eS) (xs:=x0) rfl rfl hy8 rfl (ww ?_)
    cases h
    exact eM [some 0,some 1] rfl
   ·refine ww ?_
    cases h
    exact eM [some 0,some 1] rfl
  ·rintro _ rfl
   clear ho
   refine ww ?_
   obtain⟨t9,ht9,h⟩:=bi h
   refine cN [] (F77_ok ht9) trivial (ww ?_)
   obtain⟨t10,ht10,h⟩:=bi h
   refine cN [] (F64_ok ht10) trivial (ww ?_)
   refine condSh h (fun c11 h=>?_) (fun c11 h=>?_)
   ·refine ww ?_
    obtain⟨fh0o3,hfh0o3,rfl⟩:=Option.map_eq_some_iff.1 h
    have h:=hfh0o3.trans h0o3
    cases h
    exact eF [some 2]
   ·refine ww ?_
    obtain⟨t12,ht12,h⟩:=bi h
    refine cN [] (F64_ok ht12) trivial (ww ?_)
    refine condSh h (fun c13 h=>?_) (fun c13 h=>?_)
    ·refine ww ?_
     obtain⟨fh0o3,hfh0o3,rfl⟩:=Option.map_eq_some_iff.1 h
     have h:=hfh0o3.trans h0o3
     cases h
     exact eF [none]
    ·refine ww ?_
     exact eL' j [some 0,some 1] ⟨o4.1,t9,rfl,h⟩ (Nat.lt_succ_self _)
def F45(x0:(List ByteArray))(x1:Int):Option (ByteArray×Int×(List ByteArray)×Int×Bool):=(F64 x0 x1).bind fun t1=>(if t1=(⟨#[33]⟩:ByteArray)then(F64 x0 ((IntKind.i64.wrap (x1+1)))).bind fun t3=>(F65 t3).bind fun t4=>(if(nb t4)=true then some (((⟨#[]⟩:ByteArray),0,[],0,true))else(rdI x0 ((IntKind.i64.wrap (x1+1)))).bind fun y6=>some ((y6,4,[],(IntKind.i64.wrap (x1+2)),false)))else(F64 x0 x1).bind fun t7=>(F65 t7).bind fun t8=>(if(nb t8)=true then some (((⟨#[]⟩:ByteArray),0,[],0,true))else(rdI x0 x1).bind fun y10=>(F64 x0 ((IntKind.i64.wrap (x1+1)))).bind fun t11=>(((if t11=(⟨#[105,110]⟩:ByteArray)then some true else some (decide (t11=(⟨#[110,111,116,105,110]⟩:ByteArray))))).bind fun o12=>(if o12=true then(((if t11=(⟨#[110,111,116,105,110]⟩:ByteArray)then some 2 else some 1)).bind fun o15=>(F66 x0 ((IntKind.i64.wrap (x1+2))) ((⟨y10,o15,[]⟩:Requirement))).bind fun t17=>some ((t17.1,t17.2.1,t17.2.2.1,t17.2.2.2.1,t17.2.2.2.2)))else(((if t11=(⟨#[61]⟩:ByteArray)then some true else some (decide (t11=(⟨#[33,61]⟩:ByteArray))))).bind fun o18=>(if o18=true then(((if t11=(⟨#[33,61]⟩:ByteArray)then some 2 else some 1)).bind fun o21=>(F64 x0 ((IntKind.i64.wrap (x1+2)))).bind fun t23=>(F65 t23).bind fun t24=>(if t24=true then(rdI x0 ((IntKind.i64.wrap (x1+2)))).bind fun y26=>some ((y10,o21,[y26],(IntKind.i64.wrap (x1+3)),false))else some ((y10,o21,[(⟨#[]⟩:ByteArray)],(IntKind.i64.wrap (x1+2)),false))))else some ((y10,3,[],(IntKind.i64.wrap (x1+1)),false))))))))
def a45:AFn:=⟨93,[(.cell 4 (some 5))],
 (.seq (.reg [zl 4 (.zbox [dS ⟨#[]⟩,dI 0,dN,dI 0,dB false]) [] []])
 (.seq (.seq (.reg [sq 7 (.mv (.t 0)),
sq 8 (.mv (.t 1)),
sq 9 (.call 64 [(.t 7),(.t 8)]),
sq 10 (.bin .eql (.t 9) (kS ⟨#[33]⟩))])
 (.cond (.t 10)
 (.seq (.seq (.reg [sq 11 (.mv (.t 0)),
sq 12 (.mv (.t 1)),
sq 13 (.bin .add (.t 12) (kI 1)),
sq 14 (.call 64 [(.t 11),(.t 13)]),
sq 15 (.call 65 [(.t 14)]),
sq 16 (.not (.t 15))])
 (.cond (.t 16)
 (.seq (.reg [sq 17 (.build [dS ⟨#[]⟩,dI 0,dN,dI 0,dB false] [(4,1,(kB true))]),
su (.store 5 (.t 4) (.t 17))])
 .ret)
 .skip))
 (.seq (.reg [sq 18 (.mv (.t 0)),
sq 19 (.mv (.t 1)),
sq 20 (.bin .add (.t 19) (kI 1)),
sq 21 (.indexA 1 (.t 18) (.t 20)),
sq 22 (.load none (.t 21)),
sq 23 (.build [dS ⟨#[]⟩,dI 0,dN] [(0,1,(.t 22)),(1,1,(kI 4))]),
sq 24 (.mv (.t 1)),
sq 25 (.bin .add (.t 24) (kI 2)),
sq 26 (.build [dS ⟨#[]⟩,dI 0,dN,dI 0,dB false] [(0,3,(.t 23)),(3,1,(.t 25))]),
su (.store 5 (.t 4) (.t 26))])
 .ret))
 .skip))
 (.seq (.seq (.reg [sq 27 (.mv (.t 0)),
sq 28 (.mv (.t 1)),
sq 29 (.call 64 [(.t 27),(.t 28)]),
sq 30 (.call 65 [(.t 29)]),
sq 31 (.not (.t 30))])
 (.cond (.t 31)
 (.seq (.reg [sq 32 (.build [dS ⟨#[]⟩,dI 0,dN,dI 0,dB false] [(4,1,(kB true))]),
su (.store 5 (.t 4) (.t 32))])
 .ret)
 .skip))
 (.seq (.reg [sq 33 (.mv (.t 0)),
sq 34 (.mv (.t 1)),
sq 35 (.indexA 1 (.t 33) (.t 34)),
sq 36 (.load none (.t 35)),
sq 37 (.build [dS ⟨#[]⟩,dI 0,dN] [(0,1,(.t 36)),(1,1,(kI 3))]),
sq 5 (.zbox [dS ⟨#[]⟩,dI 0,dN]),
su (.store 3 (.t 5) (.t 37))])
 (.seq (.reg [sq 38 (.mv (.t 0)),
sq 39 (.mv (.t 1)),
sq 40 (.bin .add (.t 39) (kI 1)),
sq 41 (.call 64 [(.t 38),(.t 40)]),
sq 6 (.mv (.t 41))])
 (.seq (.seq (.sem (.reg [sq 42 (.mv (.t 6)),
sq 43 (.bin .eql (.t 42) (kS ⟨#[105,110]⟩)),
sq 44 (.mv (.t 43)),
zg 45 44 false (.mv (.t 6)),
zg 46 44 false (.bin .eql (.t 45) (kS ⟨#[110,111,116,105,110]⟩)),
zl 47 (.pick (.t 44) (kB true) (.t 46)) [] []]))
 (.cond (.t 47)
 (.seq (.reg [sq 48 (.fieldA 1 (.t 5)),
⟨none,none,.store 1 (.t 48) (kI 1),[],(.lone [5])⟩])
 (.seq (.sem (.seq (.reg [sq 49 (.mv (.t 6)),
sq 50 (.bin .eql (.t 49) (kS ⟨#[110,111,116,105,110]⟩))])
 (.cond (.t 50)
 (.reg [sq 51 (.fieldA 1 (.t 5)),
⟨none,none,.store 1 (.t 51) (kI 2),[],(.lone [5])⟩])
 .skip)))
 (.seq (.reg [sq 52 (.mv (.t 0)),
sq 53 (.mv (.t 1)),
sq 54 (.bin .add (.t 53) (kI 2)),
sq 55 (.load (some 3) (.t 5)),
sq 56 (.call 66 [(.t 52),(.t 54),(.t 55)]),
su (.store 5 (.t 4) (.t 56))])
 .ret)))
 .skip))
 (.seq (.seq (.sem (.reg [sq 57 (.mv (.t 6)),
sq 58 (.bin .eql (.t 57) (kS ⟨#[61]⟩)),
sq 59 (.mv (.t 58)),
zg 60 59 false (.mv (.t 6)),
zg 61 59 false (.bin .eql (.t 60) (kS ⟨#[33,61]⟩)),
zl 62 (.pick (.t 59) (kB true) (.t 61)) [] []]))
 (.cond (.t 62)
 (.seq (.reg [sq 63 (.fieldA 1 (.t 5)),
⟨none,none,.store 1 (.t 63) (kI 1),[],(.lone [5])⟩])
 (.seq (.sem (.seq (.reg [sq 64 (.mv (.t 6)),
sq 65 (.bin .eql (.t 64) (kS ⟨#[33,61]⟩))])
 (.cond (.t 65)
 (.reg [sq 66 (.fieldA 1 (.t 5)),
⟨none,none,.store 1 (.t 66) (kI 2),[],(.lone [5])⟩])
 .skip)))
 (.seq (.seq (.reg [sq 67 (.mv (.t 0)),
sq 68 (.mv (.t 1)),
sq 69 (.bin .add (.t 68) (kI 2)),
sq 70 (.call 64 [(.t 67),(.t 69)]),
sq 71 (.call 65 [(.t 70)])])
 (.cond (.t 71)
 (.seq (.reg [sq 72 (.mv (.t 0)),
sq 73 (.mv (.t 1)),
sq 74 (.bin .add (.t 73) (kI 2)),
sq 75 (.indexA 1 (.t 72) (.t 74)),
sq 76 (.load none (.t 75)),
sq 77 (.bslice 1 [(.t 76)]),
sq 78 (.fieldA 2 (.t 5)),
su (.store 1 (.t 78) (.t 77))])
 (.seq (.reg [sq 79 (.load (some 3) (.t 5)),
sq 80 (.mv (.t 1)),
sq 81 (.bin .add (.t 80) (kI 3)),
sq 82 (.build [dS ⟨#[]⟩,dI 0,dN,dI 0,dB false] [(0,3,(.t 79)),(3,1,(.t 81))]),
su (.store 5 (.t 4) (.t 82))])
 .ret))
 .skip))
 (.seq (.reg [sq 83 (.bslice 1 [(kS ⟨#[]⟩)]),
sq 84 (.fieldA 2 (.t 5)),
su (.store 1 (.t 84) (.t 83))])
 (.seq (.reg [sq 85 (.load (some 3) (.t 5)),
sq 86 (.mv (.t 1)),
sq 87 (.bin .add (.t 86) (kI 2)),
sq 88 (.build [dS ⟨#[]⟩,dI 0,dN,dI 0,dB false] [(0,3,(.t 85)),(3,1,(.t 87))]),
su (.store 5 (.t 4) (.t 88))])
 .ret)))))
 .skip))
 (.seq (.reg [sq 89 (.load (some 3) (.t 5)),
sq 90 (.mv (.t 1)),
sq 91 (.bin .add (.t 90) (kI 1)),
sq 92 (.build [dS ⟨#[]⟩,dI 0,dN,dI 0,dB false] [(0,3,(.t 89)),(3,1,(.t 91))]),
su (.store 5 (.t 4) (.t 92))])
 .ret))))))))⟩
theorem a45_ok:afn Try.prog 45=some a45.er:=by kernel_rfl
theorem F45_ok{x0 x1 r}(h:F45 x0 x1=some r):CallD Try.prog 45 [.c (dM (x0.map eS)),.c (dI x1)] [] (tupV [.agg [dS r.1,dI r.2.1,.own 0 0 0 (r.2.2.1.length) none,dI r.2.2.2.1,dB r.2.2.2.2]]) [some (.arr 0 1 (r.2.2.1.map eS))]:=by
 refine callS a45_ok (by simp[a45]) ?_
 rw[F45]at h
 simp only[a45,VW.down,Nat.reduceEqDiff,reduceCtorEq,Nat.reduceAdd,Nat.reduceLeDiff,Nat.reduceLT,Nat.reduceBEq,Nat.reduceSub,EE.down]
 obtain⟨t1,ht1,h⟩:=bi h
 refine cN [] (F64_ok ht1) trivial (ww ?_)
 refine condSh h (fun c2 h=>?_) (fun c2 h=>?_)
 ·refine ww ?_
  obtain⟨t3,ht3,h⟩:=bi h
  refine cN [] (F64_ok ht3) trivial (ww ?_)
  obtain⟨t4,ht4,h⟩:=bi h
  refine cN [] (F65_ok ht4) trivial (ww ?_)
  refine condBh h (fun c5 h=>?_) (fun c5 h=>?_)
  ·refine ww ?_
   cases h
   exact eF [none]
  refine ww ?_
  obtain⟨y6,hy6,h⟩:=bi h
  refine t_idxF (enc:=eS) (xs:=x0) rfl rfl hy6 rfl (ww ?_)
  cases h
  exact eF [none]
 refine ww ?_
 obtain⟨t7,ht7,h⟩:=bi h
 refine cN [] (F64_ok ht7) trivial (ww ?_)
 obtain⟨t8,ht8,h⟩:=bi h
 refine cN [] (F65_ok ht8) trivial (ww ?_)
 refine condBh h (fun c9 h=>?_) (fun c9 h=>?_)
 ·refine ww ?_
  cases h
  exact eF [none]
 refine ww ?_
 obtain⟨y10,hy10,h⟩:=bi h
 refine t_idxF (enc:=eS) (xs:=x0) rfl rfl hy10 rfl (ww ?_)
 obtain⟨t11,ht11,h⟩:=bi h
 refine cN [] (F64_ok ht11) trivial (ww ?_)
 obtain⟨o12,ho,h⟩:=bi h
 refine cutS (fun s=>s=⟨[(0,.one (.c (dM (x0.map eS)))),(1,.one (.c (dI x1))),(4,.one (.c (.pt 0 0))),(5,.one (.c (.pt 1 0))),(6,.one (.c (dS t11))),(47,.one (.c (dB o12)))],[some (.box [dS ((⟨#[]⟩:ByteArray)),dI 0,dN,dI 0,dB false]),some (.box [dS y10,dI 3,dN])]⟩) ?_ ?_
 ·have h:=ho
  clear ho
  refine ww ?_
  refine guardSh h (fun g13 h=>?_) (fun g13 h=>?_)
  ·refine ww ?_
   cases h
   exact eM [some 0,some 1] rfl
  refine ww ?_
  cases h
  exact eM [some 0,some 1] rfl
 rintro _ rfl
 clear ho
 refine ww ?_
 refine condBh h (fun c14 h=>?_) (fun c14 h=>?_)
 ·refine ww ?_
  obtain⟨o15,ho,h⟩:=bi h
  refine cutS (fun s=>s=⟨[(0,.one (.c (dM (x0.map eS)))),(1,.one (.c (dI x1))),(4,.one (.c (.pt 0 0))),(5,.one (.c (.pt 1 0)))],[some (.box [dS ((⟨#[]⟩:ByteArray)),dI 0,dN,dI 0,dB false]),some (.box [dS y10,dI o15,dN])]⟩) ?_ ?_
  ·have h:=ho
   clear ho
   refine ww ?_
   refine condSh h (fun c16 h=>?_) (fun c16 h=>?_)
   ·refine ww ?_
    cases h
    exact eM [some 0,some 1] rfl
   refine ww ?_
   cases h
   exact eM [some 0,some 1] rfl
  rintro _ rfl
  clear ho
  refine ww ?_
  obtain⟨t17,ht17,h⟩:=bi h
  refine cN [] (F66_ok ht17) trivial (ww ?_)
  cases h
  exact eF [some 2]
 refine ww ?_
 obtain⟨o18,ho,h⟩:=bi h
 refine cutS (fun s=>s=⟨[(0,.one (.c (dM (x0.map eS)))),(1,.one (.c (dI x1))),(4,.one (.c (.pt 0 0))),(5,.one (.c (.pt 1 0))),(6,.one (.c (dS t11))),(62,.one (.c (dB o18)))],[some (.box [dS ((⟨#[]⟩:ByteArray)),dI 0,dN,dI 0,dB false]),some (.box [dS y10,dI 3,dN])]⟩) ?_ ?_
 ·have h:=ho
  clear ho
  refine ww ?_
  refine guardSh h (fun g19 h=>?_) (fun g19 h=>?_)
  ·refine ww ?_
   cases h
   exact eM [some 0,some 1] rfl
  refine ww ?_
  cases h
  exact eM [some 0,some 1] rfl
 rintro _ rfl
 clear ho
 refine ww ?_
 refine condBh h (fun c20 h=>?_) (fun c20 h=>?_)
 ·refine ww ?_
  obtain⟨o21,ho,h⟩:=bi h
  refine cutS (fun s=>s=⟨[(0,.one (.c (dM (x0.map eS)))),(1,.one (.c (dI x1))),(4,.one (.c (.pt 0 0))),(5,.one (.c (.pt 1 0)))],[some (.box [dS ((⟨#[]⟩:ByteArray)),dI 0,dN,dI 0,dB false]),some (.box [dS y10,dI o21,dN])]⟩) ?_ ?_
  ·have h:=ho
   clear ho
   refine ww ?_
   refine condSh h (fun c22 h=>?_) (fun c22 h=>?_)
   ·refine ww ?_
    cases h
    exact eM [some 0,some 1] rfl
   refine ww ?_
   cases h
   exact eM [some 0,some 1] rfl
  rintro _ rfl
  clear ho
  refine ww ?_
  obtain⟨t23,ht23,h⟩:=bi h
  refine cN [] (F64_ok ht23) trivial (ww ?_)
  obtain⟨t24,ht24,h⟩:=bi h
  refine cN [] (F65_ok ht24) trivial (ww ?_)
  refine condBh h (fun c25 h=>?_) (fun c25 h=>?_)
  ·refine ww ?_
   obtain⟨y26,hy26,h⟩:=bi h
   refine t_idxF (enc:=eS) (xs:=x0) rfl rfl hy26 rfl (ww ?_)
   refine t_bslice (enc:=eS) (ys:=[y26]) rfl rfl (by simp[A1.cells]) (by first|rfl|(simp only[List.drop_zero,take_mapL];rfl)|(simp only[lit,List.map_cons,List.map_nil,List.drop_zero,take_mapL,EE.down];done)|(simp only[lit,List.map_cons,List.map_nil,List.drop_zero,take_mapL,EE.down];rfl)) (ww ?_)
   cases h
   exact eF [some 2]
  refine ww ?_
  refine t_bslice (enc:=eS) (ys:=[(⟨#[]⟩:ByteArray)]) rfl rfl (by simp[A1.cells]) (by first|rfl|(simp only[List.drop_zero,take_mapL];rfl)|(simp only[lit,List.map_cons,List.map_nil,List.drop_zero,take_mapL,EE.down];done)|(simp only[lit,List.map_cons,List.map_nil,List.drop_zero,take_mapL,EE.down];rfl)) (ww ?_)
  cases h
  exact eF [some 2]
 refine ww ?_
 cases h
 exact eF [none]
def F31_l8(x0:ByteArray):Nat→Int→Option ((Bool) ⊕ (Unit))
 |0,_=>none
 |k+1,o8_0=>(if o8_0<(x0.size:Int)then(byI x0 o8_0).bind fun y10=>(F52 y10).bind fun t11=>(if(nb t11)=true then(some false).map Sum.inl else F31_l8 x0 k ((IntKind.i64.wrap (o8_0+1))))else some (Sum.inr (())))
def F31(x0:ByteArray):Option (Bool):=(((if(x0.size:Int)<1 then some true else(if 40<(x0.size:Int)then some true else(byI x0 0).bind fun y4=>(if y4<97 then some true else(byI x0 0).bind fun y6=>some (decide (122<y6)))))).bind fun o1=>(if o1=true then some false else((F31_l8 x0 1099511627776 0:Option ((Bool) ⊕ (Unit))).bind fun o8=>match o8 with|Sum.inl f=>some f|Sum.inr po8=>some true)))
def a31:AFn:=⟨33,[(.tmp 2)],
 (.seq (.reg [sq 2 (.mv (kB false))])
 (.seq (.seq (.sem (.reg [sq 4 (.mv (.t 0)),
sq 5 (.slen (.t 4)),
sq 6 (.bin .lss (.t 5) (kI 1)),
sq 7 (.mv (.t 6)),
zg 8 7 false (.mv (.t 0)),
zg 9 7 false (.slen (.t 8)),
zg 10 7 false (.bin .gtr (.t 9) (kI 40)),
sq 11 (.pick (.t 7) (kB true) (.t 10)),
sq 12 (.mv (.t 11)),
zg 13 12 false (.mv (.t 0)),
zg 14 12 false (.sidx (.t 13) (kI 0)),
zg 15 12 false (.bin .lss (.t 14) (.k (.c (.d (.v (.int .u8 97)))))),
sq 16 (.pick (.t 12) (kB true) (.t 15)),
sq 17 (.mv (.t 16)),
zg 18 17 false (.mv (.t 0)),
zg 19 17 false (.sidx (.t 18) (kI 0)),
zg 20 17 false (.bin .gtr (.t 19) (.k (.c (.d (.v (.int .u8 122)))))),
sq 21 (.pick (.t 17) (kB true) (.t 20))]))
 (.cond (.t 21)
 (.seq (.reg [sq 2 (.mv (kB false))])
 .ret)
 .skip))
 (.seq (.seq (.reg [sq 3 (.mv (kI 0))])
 (.sem (.block 0 (.loop (.seq (.seq (.reg [sq 22 (.mv (.t 3)),
sq 23 (.mv (.t 0)),
sq 24 (.slen (.t 23)),
sq 25 (.bin .lss (.t 22) (.t 24))])
 (.cond (.t 25)
 .skip
 (.exit 0)))
 (.seq (.block 1 (.seq (.reg [sq 28 (.mv (.t 0)),
sq 29 (.mv (.t 3)),
sq 30 (.sidx (.t 28) (.t 29)),
sq 31 (.call 52 [(.t 30)]),
sq 32 (.not (.t 31))])
 (.cond (.t 32)
 (.seq (.reg [sq 2 (.mv (kB false))])
 .ret)
 .skip)))
 (.reg [sq 26 (.mv (.t 3)),
sq 27 (.bin .add (.t 26) (kI 1)),
sq 3 (.mv (.t 27))])))))))
 (.seq (.reg [sq 2 (.mv (kB true))])
 .ret))))⟩
theorem a31_ok:afn Try.prog 31=some a31.er:=by kernel_rfl
theorem F31_ok{x0 r}(h:F31 x0=some r):CallD Try.prog 31 [.c (dS x0)] [] (tupV [.c (dB r)]) []:=by
 refine callS a31_ok (by simp[a31]) ?_
 rw[F31]at h
 simp only[a31,VW.down,Nat.reduceEqDiff,reduceCtorEq,Nat.reduceAdd,Nat.reduceLeDiff,Nat.reduceLT,Nat.reduceBEq,Nat.reduceSub,EE.down]
 obtain⟨o1,ho,h⟩:=bi h
 refine cutS (fun s=>s=⟨[(0,.one (.c (dS x0))),(21,.one (.c (dB o1)))],[]⟩) ?_ ?_
 ·have h:=ho
  clear ho
  refine ww ?_
  refine guardSh h (fun g2 h=>?_) (fun g2 h=>?_)
  ·refine ww ?_
   cases h
   exact eM [] rfl
  refine ww ?_
  refine guardSh h (fun g3 h=>?_) (fun g3 h=>?_)
  ·refine ww ?_
   cases h
   exact eM [] rfl
  refine ww ?_
  obtain⟨y4,hy4,h⟩:=bi h
  refine t_sidx rfl rfl hy4 (ww ?_)
  refine guardSh h (fun g5 h=>?_) (fun g5 h=>?_)
  ·refine ww ?_
   cases h
   exact eM [] rfl
  refine ww ?_
  obtain⟨y6,hy6,h⟩:=bi h
  refine t_sidx rfl rfl hy6 (ww ?_)
  cases h
  exact eM [] rfl
 rintro _ rfl
 clear ho
 refine ww ?_
 refine condBh h (fun c7 h=>?_) (fun c7 h=>?_)
 ·refine ww ?_
  cases h
  exact eF []
 refine ww ?_
 obtain⟨o8,ho,h⟩:=bi h
 refine cutS (fun s=>∃po8,o8=Sum.inr po8∧s=⟨[],[]⟩) ?_ ?_
 ·have h0o8:=h
  have h:=ho
  clear ho
  refine ww ?_
  refine bL (fun j s=>∃(o8_0:Int),s=⟨[(0,.one (.c (dS x0))),(3,.one (.c (dI o8_0)))],[]⟩∧F31_l8 x0 j o8_0=some o8) 1099511627776 [] ⟨0,rfl,h⟩ ?_
  rintro j _ ⟨o8_0,rfl,h⟩
  cases j with
  |zero=>cases(show(none:Option _)=some _ from h)
  |succ j=>
   rw[F31_l8]at h
   refine ww ?_
   refine condSh h (fun c9 h=>?_) (fun c9 h=>?_)
   ·refine ww ?_
    obtain⟨y10,hy10,h⟩:=bi h
    refine t_sidx rfl rfl hy10 (ww ?_)
    obtain⟨t11,ht11,h⟩:=bi h
    refine cN [] (F52_ok ht11) trivial (ww ?_)
    refine condBh h (fun c12 h=>?_) (fun c12 h=>?_)
    ·refine ww ?_
     obtain⟨fh0o8,hfh0o8,rfl⟩:=Option.map_eq_some_iff.1 h
     have h:=hfh0o8.trans h0o8
     cases h
     exact eF []
    ·refine ww ?_
     exact eL' j [] ⟨(IntKind.i64.wrap (o8_0+1)),rfl,h⟩ (Nat.lt_succ_self _)
   ·refine ww ?_
    cases h
    exact eM [] ⟨_,rfl,rfl⟩
 rintro _ ⟨po8,rfl,rfl⟩
 clear ho
 dsimp only at h
 refine ww ?_
 cases h
 exact eF []
def F32_l2(x0:ByteArray):Nat→Int→Option ((Bool) ⊕ (Unit))
 |0,_=>none
 |k+1,o2_0=>(if o2_0<(x0.size:Int)then(((byI x0 o2_0).bind fun y5=>(F52 y5).bind fun t6=>(if(nb t6)=true then some true else(byI x0 o2_0).bind fun y8=>some (decide (y8=47)))).bind fun o4=>(if o4=true then(some false).map Sum.inl else F32_l2 x0 k ((IntKind.i64.wrap (o2_0+1)))))else some (Sum.inr (())))
def F32(x0:ByteArray):Option (Bool):=(if 40<(x0.size:Int)then some false else((F32_l2 x0 1099511627776 0:Option ((Bool) ⊕ (Unit))).bind fun o2=>match o2 with|Sum.inl f=>some f|Sum.inr po2=>some true))
def a32:AFn:=⟨24,[(.tmp 2)],
 (.seq (.reg [sq 2 (.mv (kB false))])
 (.seq (.seq (.reg [sq 4 (.mv (.t 0)),
sq 5 (.slen (.t 4)),
sq 6 (.bin .gtr (.t 5) (kI 40))])
 (.cond (.t 6)
 (.seq (.reg [sq 2 (.mv (kB false))])
 .ret)
 .skip))
 (.seq (.seq (.reg [sq 3 (.mv (kI 0))])
 (.sem (.block 0 (.loop (.seq (.seq (.reg [sq 7 (.mv (.t 3)),
sq 8 (.mv (.t 0)),
sq 9 (.slen (.t 8)),
sq 10 (.bin .lss (.t 7) (.t 9))])
 (.cond (.t 10)
 .skip
 (.exit 0)))
 (.seq (.block 1 (.seq (.sem (.reg [sq 13 (.mv (.t 0)),
sq 14 (.mv (.t 3)),
sq 15 (.sidx (.t 13) (.t 14)),
sq 16 (.call 52 [(.t 15)]),
sq 17 (.not (.t 16)),
sq 18 (.mv (.t 17)),
zg 19 18 false (.mv (.t 0)),
zg 20 18 false (.mv (.t 3)),
zg 21 18 false (.sidx (.t 19) (.t 20)),
zg 22 18 false (.bin .eql (.t 21) (.k (.c (.d (.v (.int .u8 47)))))),
sq 23 (.pick (.t 18) (kB true) (.t 22))]))
 (.cond (.t 23)
 (.seq (.reg [sq 2 (.mv (kB false))])
 .ret)
 .skip)))
 (.reg [sq 11 (.mv (.t 3)),
sq 12 (.bin .add (.t 11) (kI 1)),
sq 3 (.mv (.t 12))])))))))
 (.seq (.reg [sq 2 (.mv (kB true))])
 .ret))))⟩
theorem a32_ok:afn Try.prog 32=some a32.er:=by kernel_rfl
theorem F32_ok{x0 r}(h:F32 x0=some r):CallD Try.prog 32 [.c (dS x0)] [] (tupV [.c (dB r)]) []:=by
 refine callS a32_ok (by simp[a32]) ?_
 rw[F32]at h
 simp only[a32,VW.down,Nat.reduceEqDiff,reduceCtorEq,Nat.reduceAdd,Nat.reduceLeDiff,Nat.reduceLT,Nat.reduceBEq,Nat.reduceSub,EE.down]
 refine condSh h (fun c1 h=>?_) (fun c1 h=>?_)
 ·refine ww ?_
  cases h
  exact eF []
 refine ww ?_
 obtain⟨o2,ho,h⟩:=bi h
 refine cutS (fun s=>∃po2,o2=Sum.inr po2∧s=⟨[],[]⟩) ?_ ?_
 ·have h0o2:=h
  have h:=ho
  clear ho
  refine ww ?_
  refine bL (fun j s=>∃(o2_0:Int),s=⟨[(0,.one (.c (dS x0))),(3,.one (.c (dI o2_0)))],[]⟩∧F32_l2 x0 j o2_0=some o2) 1099511627776 [] ⟨0,rfl,h⟩ ?_
  rintro j _ ⟨o2_0,rfl,h⟩
  cases j with
  |zero=>cases(show(none:Option _)=some _ from h)
  |succ j=>
   rw[F32_l2]at h
   refine ww ?_
   refine condSh h (fun c3 h=>?_) (fun c3 h=>?_)
   ·refine ww ?_
    obtain⟨o4,ho,h⟩:=bi h
    refine cutS (fun s=>s=⟨[(0,.one (.c (dS x0))),(3,.one (.c (dI o2_0))),(23,.one (.c (dB o4)))],[]⟩) ?_ ?_
    ·have h:=ho
     clear ho
     refine ww ?_
     obtain⟨y5,hy5,h⟩:=bi h
     refine t_sidx rfl rfl hy5 (ww ?_)
     obtain⟨t6,ht6,h⟩:=bi h
     refine cN [] (F52_ok ht6) trivial (ww ?_)
     refine guardSBh h (fun g7 h=>?_) (fun g7 h=>?_)
     ·refine ww ?_
      cases h
      exact eM [] rfl
     ·refine ww ?_
      obtain⟨y8,hy8,h⟩:=bi h
      refine t_sidx rfl rfl hy8 (ww ?_)
      cases h
      exact eM [] rfl
    ·rintro _ rfl
     clear ho
     refine ww ?_
     refine condBh h (fun c9 h=>?_) (fun c9 h=>?_)
     ·refine ww ?_
      obtain⟨fh0o2,hfh0o2,rfl⟩:=Option.map_eq_some_iff.1 h
      have h:=hfh0o2.trans h0o2
      cases h
      exact eF []
     ·refine ww ?_
      exact eL' j [] ⟨(IntKind.i64.wrap (o2_0+1)),rfl,h⟩ (Nat.lt_succ_self _)
   ·refine ww ?_
    cases h
    exact eM [] ⟨_,rfl,rfl⟩
 rintro _ ⟨po2,rfl,rfl⟩
 clear ho
 dsimp only at h
 refine ww ?_
 cases h
 exact eF []
def F46_l3:List ByteArray→Nat→Option ((Int) ⊕ (Unit))
 |[],o3_0=>some (Sum.inr (()))
 |xo3::xs,o3_0=>(F32 xo3).bind fun t5=>(if(nb t5)=true then(some 1).map Sum.inl else F46_l3 xs (o3_0+1))
def F46(x0:Requirement):Option (Int):=(F31 x0.Key).bind fun t1=>(if(nb t1)=true then some 1 else(((ck (0≤x0.Values.length∧x0.Values.length≤4294967290)).bind fun u7=>F46_l3 x0.Values 0:Option ((Int) ⊕ (Unit))).bind fun o3=>match o3 with|Sum.inl f=>some f|Sum.inr po3=>(if 64<(x0.Values.length:Int)then some 4 else some 0)))
def a46:AFn:=⟨26,[(.tmp 2)],
 (.seq (.reg [sq 1 (.box (.t 0)),
sq 2 (.mv (kI 0))])
 (.seq (.seq (.reg [sq 4 (.fieldA 0 (.t 1)),
sq 5 (.load none (.t 4)),
sq 6 (.call 31 [(.t 5)]),
sq 7 (.not (.t 6))])
 (.cond (.t 7)
 (.seq (.reg [sq 2 (.mv (kI 1))])
 .ret)
 .skip))
 (.seq (.seq (.reg [sq 3 (.mv (kI 0))])
 (.sem (.block 0 (.loop (.seq (.seq (.reg [sq 8 (.mv (.t 3)),
sq 9 (.fieldA 2 (.t 1)),
sq 10 (.load none (.t 9)),
sq 11 (.len (.t 10)),
sq 12 (.bin .lss (.t 8) (.t 11))])
 (.cond (.t 12)
 .skip
 (.exit 0)))
 (.seq (.block 1 (.seq (.reg [sq 15 (.fieldA 2 (.t 1)),
sq 16 (.load none (.t 15)),
sq 17 (.mv (.t 3)),
sq 18 (.indexA 1 (.t 16) (.t 17)),
sq 19 (.load none (.t 18)),
sq 20 (.call 32 [(.t 19)]),
sq 21 (.not (.t 20))])
 (.cond (.t 21)
 (.seq (.reg [sq 2 (.mv (kI 1))])
 .ret)
 .skip)))
 (.reg [sq 13 (.mv (.t 3)),
sq 14 (.bin .add (.t 13) (kI 1)),
sq 3 (.mv (.t 14))])))))))
 (.seq (.seq (.reg [sq 22 (.fieldA 2 (.t 1)),
sq 23 (.load none (.t 22)),
sq 24 (.len (.t 23)),
sq 25 (.bin .gtr (.t 24) (kI 64))])
 (.cond (.t 25)
 (.seq (.reg [sq 2 (.mv (kI 4))])
 .ret)
 .skip))
 (.seq (.reg [sq 2 (.mv (kI 0))])
 .ret)))))⟩
theorem a46_ok:afn Try.prog 46=some a46.er:=by kernel_rfl
theorem F46_ok{x0 r}(h:F46 x0=some r):CallD Try.prog 46 [.agg [dS x0.Key,dI x0.Op,dM (x0.Values.map eS)]] [] (tupV [.c (dI r)]) []:=by
 refine callS a46_ok (by simp[a46]) ?_
 rw[F46]at h
 simp only[a46,VW.down,Nat.reduceEqDiff,reduceCtorEq,Nat.reduceAdd,Nat.reduceLeDiff,Nat.reduceLT,Nat.reduceBEq,Nat.reduceSub,EE.down]
 obtain⟨t1,ht1,h⟩:=bi h
 refine cN [] (F31_ok ht1) trivial (ww ?_)
 refine condBh h (fun c2 h=>?_) (fun c2 h=>?_)
 ·refine ww ?_
  cases h
  exact eF []
 refine ww ?_
 obtain⟨o3,ho,h⟩:=bi h
 refine cutS (fun s=>∃po3,o3=Sum.inr po3∧s=⟨[(1,.one (.c (.pt 0 0)))],[some (.box [dS x0.Key,dI x0.Op,dM (x0.Values.map eS)])]⟩) ?_ ?_
 ·have h0o3:=h
  have h:=ho
  clear ho
  obtain⟨_,hk,h⟩:=bi h
  have hk:=ck_some hk
  refine ww ?_
  refine bL (fun j s=>∃(o3_0:Nat),(o3_0≤x0.Values.length∧j=x0.Values.length-o3_0)∧s=⟨[(1,.one (.c (.pt 0 0))),(3,.one (.c (dI ((o3_0:Int)))))],[some (.box [dS x0.Key,dI x0.Op,dM (x0.Values.map eS)])]⟩∧F46_l3 (x0.Values.drop o3_0) o3_0=some o3) (x0.Values.length-0) [some 0] ⟨0,⟨hk.1,rfl⟩,rfl,h⟩ ?_
  rintro _ _ ⟨o3_0,⟨hi,rfl⟩,rfl,h⟩
  refine ww ?_
  refine condS (fun c4=>?_) (fun c4=>?_)
  ·obtain⟨xo3,hxo3,hd⟩:=countY (show(o3_0:Int)<(x0.Values.length:Int)from c4)
   rw[hd,F46_l3]at h
   refine ww ?_
   refine t_idxF (enc:=eS) (xs:=x0.Values) rfl rfl hxo3 rfl (ww ?_)
   obtain⟨t5,ht5,h⟩:=bi h
   refine cN [] (F32_ok ht5) trivial (ww ?_)
   refine condBh h (fun c6 h=>?_) (fun c6 h=>?_)
   ·refine ww ?_
    obtain⟨fh0o3,hfh0o3,rfl⟩:=Option.map_eq_some_iff.1 h
    have h:=hfh0o3.trans h0o3
    cases h
    exact eF []
   refine ww ?_
   rw[wrapN (by omega)]
   exact eL' (x0.Values.length-(o3_0+1)) [some 0] ⟨o3_0+1,⟨by omega,rfl⟩,rfl,h⟩ (by omega)
  rw[countN (show¬((o3_0:Int)<(x0.Values.length:Int))from c4),F46_l3]at h
  refine ww ?_
  cases h
  exact eM [some 0] ⟨_,rfl,rfl⟩
 rintro _ ⟨po3,rfl,rfl⟩
 clear ho
 dsimp only at h
 refine ww ?_
 refine condSh h (fun c8 h=>?_) (fun c8 h=>?_)
 ·refine ww ?_
  cases h
  exact eF []
 refine ww ?_
 cases h
 exact eF []
end Go.Proofs.Ytadhmlfnfgpjjaa
