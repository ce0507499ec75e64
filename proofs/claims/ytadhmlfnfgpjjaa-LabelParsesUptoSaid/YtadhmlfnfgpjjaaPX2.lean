/- Each Go function as a function over typed data, and its walk. -/
import Derived.Test.YtadhmlfnfgpjjaaPX
namespace Go.Proofs.Ytadhmlfnfgpjjaa
open Go Go.Fw Go.Shelf
set_option maxRecDepth 100000
set_option maxHeartbeats 4000000
set_option linter.unusedSimpArgs false
set_option linter.unusedVariables false
def F51(x0:Int):Option (Bool):=(((if 97≤x0 then(if x0≤122 then some true else(if 48≤x0 then(if x0≤57 then some true else(if x0=45 then some true else(if x0=46 then some true else some (decide (x0=47)))))else(if x0=45 then some true else(if x0=46 then some true else some (decide (x0=47))))))else(if 48≤x0 then(if x0≤57 then some true else(if x0=45 then some true else(if x0=46 then some true else some (decide (x0=47)))))else(if x0=45 then some true else(if x0=46 then some true else some (decide (x0=47))))))).bind fun o1=>some o1)
def a51:AFn:=⟨29,[(.tmp 2)],
 (.seq (.reg [sq 2 (.mv (kB false))])
 (.seq (.sem (.reg [sq 3 (.mv (.t 0)),
sq 4 (.bin .geq (.t 3) (.k (.c (.d (.v (.int .u8 97)))))),
sq 5 (.mv (.t 4)),
zg 6 5 true (.mv (.t 0)),
zg 7 5 true (.bin .leq (.t 6) (.k (.c (.d (.v (.int .u8 122)))))),
sq 8 (.pick (.t 5) (.t 7) (kB false)),
sq 9 (.mv (.t 8)),
zg 10 9 false (.mv (.t 0)),
zg 11 9 false (.bin .geq (.t 10) (.k (.c (.d (.v (.int .u8 48)))))),
zg 12 9 false (.mv (.t 11)),
zg 13 12 true (.mv (.t 0)),
zg 14 12 true (.bin .leq (.t 13) (.k (.c (.d (.v (.int .u8 57)))))),
zg 15 9 false (.pick (.t 12) (.t 14) (kB false)),
sq 16 (.pick (.t 9) (kB true) (.t 15)),
sq 17 (.mv (.t 16)),
zg 18 17 false (.mv (.t 0)),
zg 19 17 false (.bin .eql (.t 18) (.k (.c (.d (.v (.int .u8 45)))))),
sq 20 (.pick (.t 17) (kB true) (.t 19)),
sq 21 (.mv (.t 20)),
zg 22 21 false (.mv (.t 0)),
zg 23 21 false (.bin .eql (.t 22) (.k (.c (.d (.v (.int .u8 46)))))),
sq 24 (.pick (.t 21) (kB true) (.t 23)),
sq 25 (.mv (.t 24)),
zg 26 25 false (.mv (.t 0)),
zg 27 25 false (.bin .eql (.t 26) (.k (.c (.d (.v (.int .u8 47)))))),
sq 28 (.pick (.t 25) (kB true) (.t 27)),
sq 2 (.mv (.t 28))]))
 .ret))⟩
theorem a51_ok:afn Try.prog 51=some a51.er:=by kernel_rfl
theorem F51_ok{x0 r}(h:F51 x0=some r):CallD Try.prog 51 [.c (.d (.v (.int .u8 x0)))] [] (tupV [.c (dB r)]) []:=by
 refine callS a51_ok (by simp[a51]) ?_
 rw[F51]at h
 simp only[a51,VW.down,Nat.reduceEqDiff,reduceCtorEq,Nat.reduceAdd,Nat.reduceLeDiff,Nat.reduceLT,Nat.reduceBEq,Nat.reduceSub,EE.down]
 obtain⟨o1,ho,h⟩:=bi h
 refine cutS (fun s=>s=⟨[(2,.one (.c (dB o1)))],[]⟩) ?_ ?_
 ·have h:=ho
  clear ho
  refine ww ?_
  refine guardSh h (fun g2 h=>?_) (fun g2 h=>?_)
  ·refine ww ?_
   refine guardSh h (fun g3 h=>?_) (fun g3 h=>?_)
   ·refine ww ?_
    cases h
    exact eM [] rfl
   refine ww ?_
   refine guardSh h (fun g4 h=>?_) (fun g4 h=>?_)
   ·refine ww ?_
    refine guardSh h (fun g5 h=>?_) (fun g5 h=>?_)
    ·refine ww ?_
     cases h
     exact eM [] rfl
    refine ww ?_
    refine guardSh h (fun g6 h=>?_) (fun g6 h=>?_)
    ·refine ww ?_
     cases h
     exact eM [] rfl
    refine ww ?_
    refine guardSh h (fun g7 h=>?_) (fun g7 h=>?_)
    ·refine ww ?_
     cases h
     exact eM [] rfl
    refine ww ?_
    cases h
    exact eM [] rfl
   refine ww ?_
   refine guardSh h (fun g8 h=>?_) (fun g8 h=>?_)
   ·refine ww ?_
    cases h
    exact eM [] rfl
   refine ww ?_
   refine guardSh h (fun g9 h=>?_) (fun g9 h=>?_)
   ·refine ww ?_
    cases h
    exact eM [] rfl
   refine ww ?_
   cases h
   exact eM [] rfl
  refine ww ?_
  refine guardSh h (fun g10 h=>?_) (fun g10 h=>?_)
  ·refine ww ?_
   refine guardSh h (fun g11 h=>?_) (fun g11 h=>?_)
   ·refine ww ?_
    cases h
    exact eM [] rfl
   refine ww ?_
   refine guardSh h (fun g12 h=>?_) (fun g12 h=>?_)
   ·refine ww ?_
    cases h
    exact eM [] rfl
   refine ww ?_
   refine guardSh h (fun g13 h=>?_) (fun g13 h=>?_)
   ·refine ww ?_
    cases h
    exact eM [] rfl
   refine ww ?_
   cases h
   exact eM [] rfl
  refine ww ?_
  refine guardSh h (fun g14 h=>?_) (fun g14 h=>?_)
  ·refine ww ?_
   cases h
   exact eM [] rfl
  refine ww ?_
  refine guardSh h (fun g15 h=>?_) (fun g15 h=>?_)
  ·refine ww ?_
   cases h
   exact eM [] rfl
  refine ww ?_
  cases h
  exact eM [] rfl
 rintro _ rfl
 clear ho
 refine ww ?_
 cases h
 exact eF []
def Try.laysCont_ren:Go.Shelf.Ren:=⟨fun|144=>59|143=>72|219=>81|217=>86|225=>87|224=>88|267=>89|266=>101|314=>102|n=>n,fun|9=>9|4=>4|3=>3|5=>5|46=>95|146=>113|51=>110|n=>n,fun|1=>0|n=>n⟩
theorem Try.laysCont:Go.Proofs.Lays.n144 Try.prog Try.laysCont_ren:={
 mixed:=by kernel_rfl
 f143:=Try.func72.trans (congrArg some (by kernel_rfl))
 f144:=Try.func59.trans (congrArg some (by kernel_rfl))
 f217:=Try.func86.trans (congrArg some (by kernel_rfl))
 f219:=Try.func81.trans (congrArg some (by kernel_rfl))
 f224:=Try.func88.trans (congrArg some (by kernel_rfl))
 f225:=Try.func87.trans (congrArg some (by kernel_rfl))
 f266:=Try.func101.trans (congrArg some (by kernel_rfl))
 f267:=Try.func89.trans (congrArg some (by kernel_rfl))
 f314:=Try.func102.trans (congrArg some (by kernel_rfl))
 t3:=Try.underlying3
 a3:=Try.isAgg3
 z3:=Try.sizeOf3
 v3:=Try.zeroValue3
 t4:=Try.underlying4
 a4:=Try.isAgg4
 z4:=Try.sizeOf4
 v4:=Try.zeroValue4
 t5:=Try.underlying5
 a5:=Try.isAgg5
 z5:=Try.sizeOf5
 v5:=Try.zeroValue5
 t9:=Try.underlying9
 a9:=Try.isAgg9
 z9:=Try.sizeOf9
 v9:=Try.zeroValue9
 t46:=Try.underlying95
 a46:=Try.isAgg95
 z46:=Try.sizeOf95
 v46:=Try.zeroValue95
 t51:=Try.underlying110
 a51:=Try.isAgg110
 z51:=Try.sizeOf110
 v51:=Try.zeroValue110
 t146:=Try.underlying113
 a146:=Try.isAgg113
 z146:=Try.sizeOf113
 v146:=Try.zeroValue113
 g1:=by kernel_rfl}
theorem F59_ok{x0 x1:ByteArray}{r:Bool}(h:contI x0 x1=some r):CallD Try.prog 59 [.c (dS x0),.c (dS x1)] [] (tupV [.c (dB r)]) []:=L_contains (ρ:=Try.laysCont_ren) Try.laysCont rfl (by kernel_rfl) (List.mem_singleton.2 rfl) h
def F40_l8(o1_1:Int)(x0:ByteArray):Nat→Int→Option (Int)
 |0,_=>none
 |k+1,o8_0=>(((if(IntKind.i64.wrap (o1_1+o8_0))<(x0.size:Int)then(byI x0 ((IntKind.i64.wrap (o1_1+o8_0)))).bind fun y11=>(F51 y11).bind fun t12=>some t12 else some false)).bind fun o9=>(if o9=true then F40_l8 o1_1 x0 k ((IntKind.i64.wrap (o8_0+1)))else some o8_0))
def F40_l1(x0:ByteArray):Nat→(List ByteArray)→Int→Option (((List ByteArray)×Bool) ⊕ ((List ByteArray)))
 |0,_,_=>none
 |k+1,o1_0,o1_1=>(if o1_1<(x0.size:Int)then(((byI x0 o1_1).bind fun y4=>(if y4=32 then(F40_l1 x0 k o1_0 ((IntKind.i64.wrap (o1_1+1)))).map Sum.inl else(F51 y4).bind fun t6=>(if t6=true then((F40_l8 o1_1 x0 1099511627776 1).bind fun o8=>some (Sum.inr o8))else(((if y4=33 then(if(IntKind.i64.wrap (o1_1+1))<(x0.size:Int)then(byI x0 ((IntKind.i64.wrap (o1_1+1)))).bind fun y17=>some (decide (y17=61))else some false)else some false)).bind fun o14=>(if o14=true then some (Sum.inr 2)else(contI ((⟨#[40,41,44,33,61]⟩:ByteArray)) ((Utf8.encode ((IntKind.i32.wrap y4))))).bind fun t19=>(if(nb t19)=true then((some (([],false))).map Sum.inl).map Sum.inl else some (Sum.inr 1)))))):Option ((((List ByteArray)×Bool) ⊕ ((List ByteArray))) ⊕ (Int))).bind fun o3=>match o3 with|Sum.inl f=>some f|Sum.inr po3=>(subI x0 o1_1 ((IntKind.i64.wrap (o1_1+po3)))).bind fun s21=>(apI o1_0 ([s21])).bind fun a22=>F40_l1 x0 k a22 ((IntKind.i64.wrap (o1_1+po3))))else some (Sum.inr o1_0))
def F40(x0:ByteArray):Option ((List ByteArray)×Bool):=((F40_l1 x0 1099511627776 ([]) 0:Option (((List ByteArray)×Bool) ⊕ ((List ByteArray)))).bind fun o1=>match o1 with|Sum.inl f=>some f|Sum.inr po1=>some ((po1,true)))
def a40:AFn:=⟨75,[(.tmp 2),(.tmp 3)],
 (.seq (.reg [sq 2 (.mv kN),
sq 3 (.mv (kB false))])
 (.seq (.reg [sq 4 (.mv kN)])
 (.seq (.seq (.reg [sq 5 (.mv (kI 0))])
 (.sem (.block 0 (.loop (.seq (.seq (.reg [sq 8 (.mv (.t 5)),
sq 9 (.mv (.t 0)),
sq 10 (.slen (.t 9)),
sq 11 (.bin .lss (.t 8) (.t 10))])
 (.cond (.t 11)
 .skip
 (.exit 0)))
 (.block 1 (.seq (.reg [sq 6 (.mv (kI 1))])
 (.seq (.sem (.seq (.reg [sq 12 (.mv (.t 0)),
sq 13 (.mv (.t 5)),
sq 14 (.sidx (.t 12) (.t 13)),
sq 7 (.mv (.t 14))])
 (.block 2 (.seq (.reg [sq 16 (.mv (.t 7)),
sq 17 (.bin .eql (.t 16) (.k (.c (.d (.v (.int .u8 32)))))),
sq 15 (.mv (.t 17))])
 (.cond (.t 15)
 (.seq (.reg [sq 18 (.mv (.t 5)),
sq 19 (.bin .add (.t 18) (kI 1)),
sq 5 (.mv (.t 19))])
 (.exit 1))
 (.seq (.reg [sq 21 (.mv (.t 7)),
sq 22 (.call 51 [(.t 21)]),
sq 20 (.mv (.t 22))])
 (.cond (.t 20)
 (.sem (.block 3 (.loop (.seq (.seq (.sem (.reg [sq 23 (.mv (.t 5)),
sq 24 (.mv (.t 6)),
sq 25 (.bin .add (.t 23) (.t 24)),
sq 26 (.mv (.t 0)),
sq 27 (.slen (.t 26)),
sq 28 (.bin .lss (.t 25) (.t 27)),
sq 29 (.mv (.t 28)),
zg 30 29 true (.mv (.t 0)),
zg 31 29 true (.mv (.t 5)),
zg 32 29 true (.mv (.t 6)),
zg 33 29 true (.bin .add (.t 31) (.t 32)),
zg 34 29 true (.sidx (.t 30) (.t 33)),
zg 35 29 true (.call 51 [(.t 34)]),
sq 36 (.pick (.t 29) (.t 35) (kB false))]))
 (.cond (.t 36)
 .skip
 (.exit 3)))
 (.block 4 (.reg [sq 37 (.mv (.t 6)),
sq 38 (.bin .add (.t 37) (kI 1)),
sq 6 (.mv (.t 38))]))))))
 (.seq (.sem (.reg [sq 40 (.mv (.t 7)),
sq 41 (.bin .eql (.t 40) (.k (.c (.d (.v (.int .u8 33)))))),
sq 42 (.mv (.t 41)),
zg 43 42 true (.mv (.t 5)),
zg 44 42 true (.bin .add (.t 43) (kI 1)),
zg 45 42 true (.mv (.t 0)),
zg 46 42 true (.slen (.t 45)),
zg 47 42 true (.bin .lss (.t 44) (.t 46)),
sq 48 (.pick (.t 42) (.t 47) (kB false)),
sq 49 (.mv (.t 48)),
zg 50 49 true (.mv (.t 0)),
zg 51 49 true (.mv (.t 5)),
zg 52 49 true (.bin .add (.t 51) (kI 1)),
zg 53 49 true (.sidx (.t 50) (.t 52)),
zg 54 49 true (.bin .eql (.t 53) (.k (.c (.d (.v (.int .u8 61)))))),
sq 55 (.pick (.t 49) (.t 54) (kB false)),
sq 39 (.mv (.t 55))]))
 (.cond (.t 39)
 (.reg [sq 6 (.mv (kI 2))])
 (.seq (.reg [sq 57 (.mv (.t 7)),
sq 58 (.conv .i32 (.t 57)),
sq 59 (.istr (.t 58)),
sq 60 (.call 59 [(kS ⟨#[40,41,44,33,61]⟩),(.t 59)]),
sq 61 (.not (.t 60)),
sq 56 (.mv (.t 61))])
 (.cond (.t 56)
 (.seq (.reg [sq 2 (.mv kN),
sq 3 (.mv (kB false))])
 .ret)
 .skip)))))))))))
 (.seq (.reg [sq 62 (.mv (.t 4)),
sq 63 (.mv (.t 0)),
sq 64 (.mv (.t 5)),
sq 65 (.mv (.t 5)),
sq 66 (.mv (.t 6)),
sq 67 (.bin .add (.t 65) (.t 66)),
sq 68 (.sslice (.t 63) (some (.t 64)) (some (.t 67))),
sq 69 (.bslice 1 [(.t 68)]),
sq 70 (.app 1 16 (.t 62) (.t 69)),
sq 4 (.mv (.t 70))])
 (.reg [sq 71 (.mv (.t 5)),
sq 72 (.mv (.t 6)),
sq 73 (.bin .add (.t 71) (.t 72)),
sq 5 (.mv (.t 73))]))))))))))
 (.seq (.reg [sq 74 (.mv (.t 4)),
sq 2 (.mv (.t 74)),
sq 3 (.mv (kB true))])
 .ret))))⟩
theorem a40_ok:afn Try.prog 40=some a40.er:=by kernel_rfl
theorem F40_ok{x0 r}(h:F40 x0=some r):CallD Try.prog 40 [.c (dS x0)] [] (tupV [.c (.own 0 0 0 (r.1.length) none),.c (dB r.2)]) [some (.arr 0 1 (r.1.map eS))]:=by
 refine callS a40_ok (by simp[a40]) ?_
 rw[F40]at h
 simp only[a40,VW.down,Nat.reduceEqDiff,reduceCtorEq,Nat.reduceAdd,Nat.reduceLeDiff,Nat.reduceLT,Nat.reduceBEq,Nat.reduceSub,EE.down]
 obtain⟨o1,ho,h⟩:=bi h
 refine cutS (fun s=>∃po1,o1=Sum.inr po1∧s=⟨[(4,.one (.c (.own 0 0 0 (po1.length) none)))],[some (.arr 0 1 (po1.map eS))]⟩) ?_ ?_
 ·have h0o1:=h
  have h:=ho
  clear ho
  refine ww ?_
  refine bL (fun j s=>∃(o1_0:List ByteArray) (o1_1:Int),s=⟨[(0,.one (.c (dS x0))),(4,.one (.c (.own 0 0 0 (o1_0.length) none))),(5,.one (.c (dI o1_1)))],[some (.arr 0 1 (o1_0.map eS))]⟩∧F40_l1 x0 j o1_0 o1_1=some o1) 1099511627776 [none] ⟨[],0,rfl,h⟩ ?_
  rintro j _ ⟨o1_0,o1_1,rfl,h⟩
  cases j with
  |zero=>cases(show(none:Option _)=some _ from h)
  |succ j=>
   rw[F40_l1]at h
   refine ww ?_
   refine condSh h (fun c2 h=>?_) (fun c2 h=>?_)
   ·refine ww ?_
    obtain⟨o3,ho,h⟩:=bi h
    refine cutS (fun s=>∃po3,o3=Sum.inr po3∧s=⟨[(0,.one (.c (dS x0))),(4,.one (.c (.own 0 0 0 (o1_0.length) none))),(5,.one (.c (dI o1_1))),(6,.one (.c (dI po3)))],[some (.arr 0 1 (o1_0.map eS))]⟩) ?_ ?_
    ·have h0o3:=h
     have h:=ho
     clear ho
     refine ww ?_
     obtain⟨y4,hy4,h⟩:=bi h
     refine t_sidx rfl rfl hy4 (ww ?_)
     refine condSh h (fun c5 h=>?_) (fun c5 h=>?_)
     ·refine ww ?_
      obtain⟨fh0o3,hfh0o3,rfl⟩:=Option.map_eq_some_iff.1 h
      have h:=hfh0o3.trans h0o3
      exact eL' j [some 0] ⟨o1_0,(IntKind.i64.wrap (o1_1+1)),rfl,h⟩ (Nat.lt_succ_self _)
     ·refine ww ?_
      obtain⟨t6,ht6,h⟩:=bi h
      refine cN [] (F51_ok ht6) trivial (ww ?_)
      refine condBh h (fun c7 h=>?_) (fun c7 h=>?_)
      ·refine ww ?_
       obtain⟨o8,ho,h⟩:=bi h
       refine cutS (fun s=>s=⟨[(0,.one (.c (dS x0))),(4,.one (.c (.own 0 0 0 (o1_0.length) none))),(5,.one (.c (dI o1_1))),(6,.one (.c (dI o8)))],[some (.arr 0 1 (o1_0.map eS))]⟩) ?_ ?_
       ·have h:=ho
        clear ho
        refine ww ?_
        refine bL (fun j s=>∃(o8_0:Int),s=⟨[(0,.one (.c (dS x0))),(4,.one (.c (.own 0 0 0 (o1_0.length) none))),(5,.one (.c (dI o1_1))),(6,.one (.c (dI o8_0)))],[some (.arr 0 1 (o1_0.map eS))]⟩∧F40_l8 o1_1 x0 j o8_0=some o8) 1099511627776 [some 0] ⟨1,rfl,h⟩ ?_
        rintro j _ ⟨o8_0,rfl,h⟩
        cases j with
        |zero=>cases(show(none:Option _)=some _ from h)
        |succ j=>
         rw[F40_l8]at h
         refine ww ?_
         obtain⟨o9,ho,h⟩:=bi h
         refine cutS (fun s=>s=⟨[(0,.one (.c (dS x0))),(4,.one (.c (.own 0 0 0 (o1_0.length) none))),(5,.one (.c (dI o1_1))),(6,.one (.c (dI o8_0))),(36,.one (.c (dB o9)))],[some (.arr 0 1 (o1_0.map eS))]⟩) ?_ ?_
         ·have h:=ho
          clear ho
          refine ww ?_
          refine guardSh h (fun g10 h=>?_) (fun g10 h=>?_)
          ·refine ww ?_
           obtain⟨y11,hy11,h⟩:=bi h
           refine t_sidx rfl rfl hy11 (ww ?_)
           obtain⟨t12,ht12,h⟩:=bi h
           refine cN [] (F51_ok ht12) trivial (ww ?_)
           cases h
           exact eM [some 0] rfl
          ·refine ww ?_
           cases h
           exact eM [some 0] rfl
         ·rintro _ rfl
          clear ho
          refine ww ?_
          refine condBh h (fun c13 h=>?_) (fun c13 h=>?_)
          ·refine ww ?_
           exact eL' j [some 0] ⟨(IntKind.i64.wrap (o8_0+1)),rfl,h⟩ (Nat.lt_succ_self _)
          ·refine ww ?_
           cases h
           exact eM [some 0] rfl
       ·rintro _ rfl
        clear ho
        refine ww ?_
        cases h
        exact eM [some 0] ⟨_,rfl,rfl⟩
      ·refine ww ?_
       obtain⟨o14,ho,h⟩:=bi h
       refine cutS (fun s=>s=⟨[(0,.one (.c (dS x0))),(4,.one (.c (.own 0 0 0 (o1_0.length) none))),(5,.one (.c (dI o1_1))),(6,.one (.c (dI 1))),(7,.one (.c (.d (.v (.int .u8 y4))))),(39,.one (.c (dB o14)))],[some (.arr 0 1 (o1_0.map eS))]⟩) ?_ ?_
       ·have h:=ho
        clear ho
        refine ww ?_
        refine guardSh h (fun g15 h=>?_) (fun g15 h=>?_)
        ·refine ww ?_
         refine guardSh h (fun g16 h=>?_) (fun g16 h=>?_)
         ·refine ww ?_
          obtain⟨y17,hy17,h⟩:=bi h
          refine t_sidx rfl rfl hy17 (ww ?_)
          cases h
          exact eM [some 0] rfl
         ·refine ww ?_
          cases h
          exact eM [some 0] rfl
        ·refine ww ?_
         cases h
         exact eM [some 0] rfl
       ·rintro _ rfl
        clear ho
        refine ww ?_
        refine condBh h (fun c18 h=>?_) (fun c18 h=>?_)
        ·refine ww ?_
         cases h
         exact eM [some 0] ⟨_,rfl,rfl⟩
        ·refine ww ?_
         obtain⟨t19,ht19,h⟩:=bi h
         refine cN [] (F59_ok ht19) trivial (ww ?_)
         refine condBh h (fun c20 h=>?_) (fun c20 h=>?_)
         ·refine ww ?_
          obtain⟨fh0o3,hfh0o3,rfl⟩:=Option.map_eq_some_iff.1 h
          have h:=hfh0o3.trans h0o3
          obtain⟨fh0o1,hfh0o1,rfl⟩:=Option.map_eq_some_iff.1 h
          have h:=hfh0o1.trans h0o1
          cases h
          exact eF [none]
         ·refine ww ?_
          cases h
          exact eM [some 0] ⟨_,rfl,rfl⟩
    ·rintro _ ⟨po3,rfl,rfl⟩
     clear ho
     dsimp only at h
     refine ww ?_
     obtain⟨s21,hs21,h⟩:=bi h
     refine t_sslice rfl rfl rfl hs21 (ww ?_)
     refine t_bslice (enc:=eS) (ys:=[s21]) rfl rfl (by simp[A1.cells]) (by first|rfl|(simp only[List.drop_zero,take_mapL];rfl)|(simp only[lit,List.map_cons,List.map_nil,List.drop_zero,take_mapL,EE.down];done)|(simp only[lit,List.map_cons,List.map_nil,List.drop_zero,take_mapL,EE.down];rfl)) (ww ?_)
     obtain⟨a22,ha22,h⟩:=bi h
     refine t_app (enc:=eS) (xs:=o1_0) rfl rfl (by first|rfl|simp only[List.length_set]|exact(clrL_len (slI_len (by assumption))).symm) rfl (rows_full (enc:=eS) (by first|rfl|simp only[List.length_set]|exact(clrL_len (slI_len (by assumption))).symm) rfl) ha22 (ww ?_)
     exact eL' j [some 0] ⟨a22,(IntKind.i64.wrap (o1_1+po3)),rfl,h⟩ (Nat.lt_succ_self _)
   ·refine ww ?_
    cases h
    exact eM [some 0] ⟨_,rfl,rfl⟩
 rintro _ ⟨po1,rfl,rfl⟩
 clear ho
 dsimp only at h
 refine ww ?_
 cases h
 exact eF [some 0]
def F29_l8(x0:ByteArray):Nat→Int→Option ((Bool) ⊕ (Unit))
 |0,_=>none
 |k+1,o8_0=>(if o8_0<(x0.size:Int)then(byI x0 o8_0).bind fun y10=>(F51 y10).bind fun t11=>(if(nb t11)=true then(some false).map Sum.inl else F29_l8 x0 k ((IntKind.i64.wrap (o8_0+1))))else some (Sum.inr (())))
def F29(x0:ByteArray):Option (Bool):=(((if x0=(⟨#[]⟩:ByteArray)then some true else(if 40<(x0.size:Int)then some true else(byI x0 0).bind fun y4=>(if y4<97 then some true else(byI x0 0).bind fun y6=>some (decide (122<y6)))))).bind fun o1=>(if o1=true then some false else((F29_l8 x0 1099511627776 0:Option ((Bool) ⊕ (Unit))).bind fun o8=>match o8 with|Sum.inl f=>some f|Sum.inr po8=>some true)))
def a29:AFn:=⟨32,[(.tmp 2)],
 (.seq (.reg [sq 2 (.mv (kB false))])
 (.seq (.seq (.sem (.reg [sq 4 (.mv (.t 0)),
sq 5 (.bin .eql (.t 4) (kS ⟨#[]⟩)),
sq 6 (.mv (.t 5)),
zg 7 6 false (.mv (.t 0)),
zg 8 6 false (.slen (.t 7)),
zg 9 6 false (.bin .gtr (.t 8) (kI 40)),
sq 10 (.pick (.t 6) (kB true) (.t 9)),
sq 11 (.mv (.t 10)),
zg 12 11 false (.mv (.t 0)),
zg 13 11 false (.sidx (.t 12) (kI 0)),
zg 14 11 false (.bin .lss (.t 13) (.k (.c (.d (.v (.int .u8 97)))))),
sq 15 (.pick (.t 11) (kB true) (.t 14)),
sq 16 (.mv (.t 15)),
zg 17 16 false (.mv (.t 0)),
zg 18 16 false (.sidx (.t 17) (kI 0)),
zg 19 16 false (.bin .gtr (.t 18) (.k (.c (.d (.v (.int .u8 122)))))),
sq 20 (.pick (.t 16) (kB true) (.t 19))]))
 (.cond (.t 20)
 (.seq (.reg [sq 2 (.mv (kB false))])
 .ret)
 .skip))
 (.seq (.seq (.reg [sq 21 (.mv (.t 0)),
sq 22 (.slen (.t 21)),
sq 23 (.mv (kI 0))])
 (.sem (.block 0 (.loop (.seq (.reg [sq 24 (.bin .lss (.t 23) (.t 22))])
 (.seq (.cond (.t 24)
 .skip
 (.exit 0))
 (.seq (.block 1 (.seq (.reg [sq 25 (.mv (.t 23)),
sq 3 (.mv (.t 25))])
 (.seq (.reg [sq 26 (.mv (.t 0)),
sq 27 (.mv (.t 3)),
sq 28 (.sidx (.t 26) (.t 27)),
sq 29 (.call 51 [(.t 28)]),
sq 30 (.not (.t 29))])
 (.cond (.t 30)
 (.seq (.reg [sq 2 (.mv (kB false))])
 .ret)
 .skip))))
 (.reg [sq 31 (.bin .add (.t 23) (kI 1)),
sq 23 (.mv (.t 31))]))))))))
 (.seq (.reg [sq 2 (.mv (kB true))])
 .ret))))⟩
theorem a29_ok:afn Try.prog 29=some a29.er:=by kernel_rfl
theorem F29_ok{x0 r}(h:F29 x0=some r):CallD Try.prog 29 [.c (dS x0)] [] (tupV [.c (dB r)]) []:=by
 refine callS a29_ok (by simp[a29]) ?_
 rw[F29]at h
 simp only[a29,VW.down,Nat.reduceEqDiff,reduceCtorEq,Nat.reduceAdd,Nat.reduceLeDiff,Nat.reduceLT,Nat.reduceBEq,Nat.reduceSub,EE.down]
 obtain⟨o1,ho,h⟩:=bi h
 refine cutS (fun s=>s=⟨[(0,.one (.c (dS x0))),(20,.one (.c (dB o1)))],[]⟩) ?_ ?_
 ·have h:=ho
  clear ho
  refine ww ?_
  refine guardSh h (fun g2 h=>?_) (fun g2 h=>?_)
  ·refine ww ?_
   cases h
   exact eM [] rfl
  refine ww ?_
  refine guardSh h (fun g3 h=>?_) (fun g3 h=>?_)
  ·refine ww ?_
   cases h
   exact eM [] rfl
  refine ww ?_
  obtain⟨y4,hy4,h⟩:=bi h
  refine t_sidx rfl rfl hy4 (ww ?_)
  refine guardSh h (fun g5 h=>?_) (fun g5 h=>?_)
  ·refine ww ?_
   cases h
   exact eM [] rfl
  refine ww ?_
  obtain⟨y6,hy6,h⟩:=bi h
  refine t_sidx rfl rfl hy6 (ww ?_)
  cases h
  exact eM [] rfl
 rintro _ rfl
 clear ho
 refine ww ?_
 refine condBh h (fun c7 h=>?_) (fun c7 h=>?_)
 ·refine ww ?_
  cases h
  exact eF []
 refine ww ?_
 obtain⟨o8,ho,h⟩:=bi h
 refine cutS (fun s=>∃po8,o8=Sum.inr po8∧s=⟨[],[]⟩) ?_ ?_
 ·have h0o8:=h
  have h:=ho
  clear ho
  refine ww ?_
  refine bL (fun j s=>∃(o8_0:Int),s=⟨[(0,.one (.c (dS x0))),(22,.one (.c (dI ((x0.size:Int))))),(23,.one (.c (dI o8_0)))],[]⟩∧F29_l8 x0 j o8_0=some o8) 1099511627776 [] ⟨0,rfl,h⟩ ?_
  rintro j _ ⟨o8_0,rfl,h⟩
  cases j with
  |zero=>cases(show(none:Option _)=some _ from h)
  |succ j=>
   rw[F29_l8]at h
   refine ww ?_
   refine condSh h (fun c9 h=>?_) (fun c9 h=>?_)
   ·refine ww ?_
    obtain⟨y10,hy10,h⟩:=bi h
    refine t_sidx rfl rfl hy10 (ww ?_)
    obtain⟨t11,ht11,h⟩:=bi h
    refine cN [] (F51_ok ht11) trivial (ww ?_)
    refine condBh h (fun c12 h=>?_) (fun c12 h=>?_)
    ·refine ww ?_
     obtain⟨fh0o8,hfh0o8,rfl⟩:=Option.map_eq_some_iff.1 h
     have h:=hfh0o8.trans h0o8
     cases h
     exact eF []
    ·refine ww ?_
     exact eL' j [] ⟨(IntKind.i64.wrap (o8_0+1)),rfl,h⟩ (Nat.lt_succ_self _)
   ·refine ww ?_
    cases h
    exact eM [] ⟨_,rfl,rfl⟩
 rintro _ ⟨po8,rfl,rfl⟩
 clear ho
 dsimp only at h
 refine ww ?_
 cases h
 exact eF []
def F30_l2(x0:ByteArray):Nat→Int→Option ((Bool) ⊕ (Unit))
 |0,_=>none
 |k+1,o2_0=>(if o2_0<(x0.size:Int)then(((byI x0 o2_0).bind fun y5=>(F51 y5).bind fun t6=>(if(nb t6)=true then some true else(byI x0 o2_0).bind fun y8=>some (decide (y8=47)))).bind fun o4=>(if o4=true then(some false).map Sum.inl else F30_l2 x0 k ((IntKind.i64.wrap (o2_0+1)))))else some (Sum.inr (())))
def F30(x0:ByteArray):Option (Bool):=(if 40<(x0.size:Int)then some false else((F30_l2 x0 1099511627776 0:Option ((Bool) ⊕ (Unit))).bind fun o2=>match o2 with|Sum.inl f=>some f|Sum.inr po2=>some true))
def a30:AFn:=⟨24,[(.tmp 2)],
 (.seq (.reg [sq 2 (.mv (kB false))])
 (.seq (.seq (.reg [sq 4 (.mv (.t 0)),
sq 5 (.slen (.t 4)),
sq 6 (.bin .gtr (.t 5) (kI 40))])
 (.cond (.t 6)
 (.seq (.reg [sq 2 (.mv (kB false))])
 .ret)
 .skip))
 (.seq (.seq (.reg [sq 7 (.mv (.t 0)),
sq 8 (.slen (.t 7)),
sq 9 (.mv (kI 0))])
 (.sem (.block 0 (.loop (.seq (.reg [sq 10 (.bin .lss (.t 9) (.t 8))])
 (.seq (.cond (.t 10)
 .skip
 (.exit 0))
 (.seq (.block 1 (.seq (.reg [sq 11 (.mv (.t 9)),
sq 3 (.mv (.t 11))])
 (.seq (.sem (.reg [sq 12 (.mv (.t 0)),
sq 13 (.mv (.t 3)),
sq 14 (.sidx (.t 12) (.t 13)),
sq 15 (.call 51 [(.t 14)]),
sq 16 (.not (.t 15)),
sq 17 (.mv (.t 16)),
zg 18 17 false (.mv (.t 0)),
zg 19 17 false (.mv (.t 3)),
zg 20 17 false (.sidx (.t 18) (.t 19)),
zg 21 17 false (.bin .eql (.t 20) (.k (.c (.d (.v (.int .u8 47)))))),
sq 22 (.pick (.t 17) (kB true) (.t 21))]))
 (.cond (.t 22)
 (.seq (.reg [sq 2 (.mv (kB false))])
 .ret)
 .skip))))
 (.reg [sq 23 (.bin .add (.t 9) (kI 1)),
sq 9 (.mv (.t 23))]))))))))
 (.seq (.reg [sq 2 (.mv (kB true))])
 .ret))))⟩
theorem a30_ok:afn Try.prog 30=some a30.er:=by kernel_rfl
theorem F30_ok{x0 r}(h:F30 x0=some r):CallD Try.prog 30 [.c (dS x0)] [] (tupV [.c (dB r)]) []:=by
 refine callS a30_ok (by simp[a30]) ?_
 rw[F30]at h
 simp only[a30,VW.down,Nat.reduceEqDiff,reduceCtorEq,Nat.reduceAdd,Nat.reduceLeDiff,Nat.reduceLT,Nat.reduceBEq,Nat.reduceSub,EE.down]
 refine condSh h (fun c1 h=>?_) (fun c1 h=>?_)
 ·refine ww ?_
  cases h
  exact eF []
 refine ww ?_
 obtain⟨o2,ho,h⟩:=bi h
 refine cutS (fun s=>∃po2,o2=Sum.inr po2∧s=⟨[],[]⟩) ?_ ?_
 ·have h0o2:=h
  have h:=ho
  clear ho
  refine ww ?_
  refine bL (fun j s=>∃(o2_0:Int),s=⟨[(0,.one (.c (dS x0))),(8,.one (.c (dI ((x0.size:Int))))),(9,.one (.c (dI o2_0)))],[]⟩∧F30_l2 x0 j o2_0=some o2) 1099511627776 [] ⟨0,rfl,h⟩ ?_
  rintro j _ ⟨o2_0,rfl,h⟩
  cases j with
  |zero=>cases(show(none:Option _)=some _ from h)
  |succ j=>
   rw[F30_l2]at h
   refine ww ?_
   refine condSh h (fun c3 h=>?_) (fun c3 h=>?_)
   ·refine ww ?_
    obtain⟨o4,ho,h⟩:=bi h
    refine cutS (fun s=>s=⟨[(0,.one (.c (dS x0))),(8,.one (.c (dI ((x0.size:Int))))),(9,.one (.c (dI o2_0))),(22,.one (.c (dB o4)))],[]⟩) ?_ ?_
    ·have h:=ho
     clear ho
     refine ww ?_
     obtain⟨y5,hy5,h⟩:=bi h
     refine t_sidx rfl rfl hy5 (ww ?_)
     obtain⟨t6,ht6,h⟩:=bi h
     refine cN [] (F51_ok ht6) trivial (ww ?_)
     refine guardSBh h (fun g7 h=>?_) (fun g7 h=>?_)
     ·refine ww ?_
      cases h
      exact eM [] rfl
     ·refine ww ?_
      obtain⟨y8,hy8,h⟩:=bi h
      refine t_sidx rfl rfl hy8 (ww ?_)
      cases h
      exact eM [] rfl
    ·rintro _ rfl
     clear ho
     refine ww ?_
     refine condBh h (fun c9 h=>?_) (fun c9 h=>?_)
     ·refine ww ?_
      obtain⟨fh0o2,hfh0o2,rfl⟩:=Option.map_eq_some_iff.1 h
      have h:=hfh0o2.trans h0o2
      cases h
      exact eF []
     ·refine ww ?_
      exact eL' j [] ⟨(IntKind.i64.wrap (o2_0+1)),rfl,h⟩ (Nat.lt_succ_self _)
   ·refine ww ?_
    cases h
    exact eM [] ⟨_,rfl,rfl⟩
 rintro _ ⟨po2,rfl,rfl⟩
 clear ho
 dsimp only at h
 refine ww ?_
 cases h
 exact eF []
def F63(x0:ByteArray):Option (Bool):=(F30 x0).bind fun t1=>some (nb t1)
def a63:AFn:=⟨6,[(.tmp 2)],
 (.seq (.reg [sq 2 (.mv (kB false))])
 (.seq (.reg [sq 3 (.mv (.t 0)),
sq 4 (.call 30 [(.t 3)]),
sq 5 (.not (.t 4)),
sq 2 (.mv (.t 5))])
 .ret))⟩
theorem a63_ok:afn Try.prog 63=some a63.er:=by kernel_rfl
theorem F63_ok{x0 r}(h:F63 x0=some r):CallD Try.prog 63 [.c (dS x0)] [] (tupV [.c (dB r)]) []:=by
 refine callS a63_ok (by simp[a63]) ?_
 rw[F63]at h
 simp only[a63,VW.down,Nat.reduceEqDiff,reduceCtorEq,Nat.reduceAdd,Nat.reduceLeDiff,Nat.reduceLT,Nat.reduceBEq,Nat.reduceSub,EE.down]
 obtain⟨t1,ht1,h⟩:=bi h
 refine cN [] (F30_ok ht1) trivial (ww ?_)
 cases h
 exact eF []
def F76_l1:List ByteArray→Nat→Option ((Int) ⊕ (Unit))
 |[],o1_0=>some (Sum.inr (()))
 |xo1::xs,o1_0=>(F63 xo1).bind fun t3=>(if t3=true then(some ((o1_0:Int))).map Sum.inl else F76_l1 xs (o1_0+1))
def F76(x0:(List ByteArray)):Option (Int):=(((ck (0≤x0.length∧x0.length≤4294967290)).bind fun u5=>F76_l1 x0 0:Option ((Int) ⊕ (Unit))).bind fun o1=>match o1 with|Sum.inl f=>some f|Sum.inr po1=>some ((-1)))
def a76:AFn:=⟨19,[(.tmp 4)],
 (.seq (.reg [sq 4 (.mv (kI 0))])
 (.seq (.seq (.reg [sq 6 (.mv (.t 0)),
sq 7 (.len (.t 6)),
sq 8 (.mv (kI 0))])
 (.sem (.block 0 (.loop (.seq (.reg [sq 9 (.bin .lss (.t 8) (.t 7))])
 (.seq (.cond (.t 9)
 .skip
 (.exit 0))
 (.seq (.block 1 (.seq (.reg [sq 10 (.mv (.t 8)),
sq 5 (.mv (.t 10))])
 (.seq (.reg [sq 11 (.mv (.t 1)),
sq 12 (.mv (.t 0)),
sq 13 (.mv (.t 5)),
sq 14 (.indexA 1 (.t 12) (.t 13)),
sq 15 (.load none (.t 14)),
zl 16 (.callv (.t 11) [(.t 15)]) [] [12,14]])
 (.cond (.t 16)
 (.seq (.reg [sq 17 (.mv (.t 5)),
sq 4 (.mv (.t 17))])
 .ret)
 .skip))))
 (.reg [sq 18 (.bin .add (.t 8) (kI 1)),
sq 8 (.mv (.t 18))]))))))))
 (.seq (.reg [sq 4 (.mv (kI (-1)))])
 .ret)))⟩
theorem a76_ok:afn Try.prog 76=some a76.er:=by kernel_rfl
theorem F76_ok{x0 r}(h:F76 x0=some r):CallD Try.prog 76 [.c (dM (x0.map eS)),.c (.fn 63 [])] [] (tupV [.c (dI r)]) []:=by
 refine callS a76_ok (by simp[a76]) ?_
 rw[F76]at h
 simp only[a76,VW.down,Nat.reduceEqDiff,reduceCtorEq,Nat.reduceAdd,Nat.reduceLeDiff,Nat.reduceLT,Nat.reduceBEq,Nat.reduceSub,EE.down]
 obtain⟨o1,ho,h⟩:=bi h
 refine cutS (fun s=>∃po1,o1=Sum.inr po1∧s=⟨[],[]⟩) ?_ ?_
 ·have h0o1:=h
  have h:=ho
  clear ho
  obtain⟨_,hk,h⟩:=bi h
  have hk:=ck_some hk
  refine ww ?_
  refine bL (fun j s=>∃(o1_0:Nat),(o1_0≤x0.length∧j=x0.length-o1_0)∧s=⟨[(0,.one (.c (dM (x0.map eS)))),(1,.one (.c (.fn 63 []))),(7,.one (.c (dI ((x0.length:Int))))),(8,.one (.c (dI ((o1_0:Int)))))],[]⟩∧F76_l1 (x0.drop o1_0) o1_0=some o1) (x0.length-0) [] ⟨0,⟨hk.1,rfl⟩,rfl,h⟩ ?_
  rintro _ _ ⟨o1_0,⟨hi,rfl⟩,rfl,h⟩
  refine ww ?_
  refine condS (fun c2=>?_) (fun c2=>?_)
  ·obtain⟨xo1,hxo1,hd⟩:=countY (show(o1_0:Int)<(x0.length:Int)from c2)
   rw[hd,F76_l1]at h
   refine ww ?_
   refine t_idxF (enc:=eS) (xs:=x0) rfl rfl hxo1 rfl (ww ?_)
   obtain⟨t3,ht3,h⟩:=bi h
   refine cN [] (F63_ok ht3) trivial (ww ?_)
   refine condBh h (fun c4 h=>?_) (fun c4 h=>?_)
   ·refine ww ?_
    obtain⟨fh0o1,hfh0o1,rfl⟩:=Option.map_eq_some_iff.1 h
    have h:=hfh0o1.trans h0o1
    cases h
    exact eF []
   refine ww ?_
   rw[wrapN (by omega)]
   exact eL' (x0.length-(o1_0+1)) [] ⟨o1_0+1,⟨by omega,rfl⟩,rfl,h⟩ (by omega)
  rw[countN (show¬((o1_0:Int)<(x0.length:Int))from c2),F76_l1]at h
  refine ww ?_
  cases h
  exact eM [] ⟨_,rfl,rfl⟩
 rintro _ ⟨po1,rfl,rfl⟩
 clear ho
 dsimp only at h
 refine ww ?_
 cases h
 exact eF []
def F41(x1:ByteArray)(b0:Parser):Option (((List ByteArray))×Bool):=(((if(b0.tokens.length:Int)=0 then some true else(rdI b0.tokens 0).bind fun y3=>some (decide (¬(y3=x1))))).bind fun o1=>(if o1=true then some ((b0.tokens,false))else(slI b0.tokens 1 ((b0.tokens.length:Int))).bind fun s5=>some ((s5,true))))
def a41:AFn:=⟨29,[(.tmp 4)],
 (.seq (.reg [sq 4 (.mv (kB false))])
 (.seq (.seq (.sem (.reg [sq 5 (.mv (.t 0)),
sq 6 (.fieldA 0 (.t 5)),
sq 7 (.fieldA 0 (.t 6)),
sq 8 (.load none (.t 7)),
sq 9 (.len (.t 8)),
sq 10 (.bin .eql (.t 9) (kI 0)),
sq 11 (.mv (.t 10)),
zg 12 11 false (.mv (.t 0)),
zg 13 11 false (.fieldA 0 (.t 12)),
zg 14 11 false (.fieldA 0 (.t 13)),
zg 15 11 false (.load none (.t 14)),
zg 16 11 false (.indexA 1 (.t 15) (kI 0)),
zg 17 11 false (.load none (.t 16)),
zg 18 11 false (.mv (.t 1)),
zg 19 11 false (.bin .neq (.t 17) (.t 18)),
zl 20 (.pick (.t 11) (kB true) (.t 19)) [] [5,6,7,8,12,13,14,15,16]]))
 (.cond (.t 20)
 (.seq (.reg [sq 4 (.mv (kB false))])
 .ret)
 .skip))
 (.seq (.reg [sq 21 (.mv (.t 0)),
sq 22 (.mv (.t 0)),
sq 23 (.fieldA 0 (.t 22)),
sq 24 (.fieldA 0 (.t 23)),
sq 25 (.load none (.t 24)),
sq 26 (.slice 1 (.t 25) (some (kI 1)) none none),
sq 27 (.fieldA 0 (.t 21)),
sq 28 (.fieldA 0 (.t 27)),
⟨none,none,.store 1 (.t 28) (.t 26),[],(.lone [22,23,24,25,21,27])⟩])
 (.seq (.reg [sq 4 (.mv (kB true))])
 .ret))))⟩
theorem a41_ok:afn Try.prog 41=some a41.er:=by kernel_rfl
theorem F41_ok{x1 b0 r}(h:F41 x1 b0=some r):CallD Try.prog 41 [.c (.pt 0 0),.c (dS x1)] [some (.box [dM (b0.tokens.map eS),dB b0.failed])] (tupV [.c (dB r.2)]) [some (.box [dM (r.1.map eS),dB b0.failed])]:=by
 refine callS a41_ok (by simp[a41]) ?_
 rw[F41]at h
 simp only[a41,VW.down,Nat.reduceEqDiff,reduceCtorEq,Nat.reduceAdd,Nat.reduceLeDiff,Nat.reduceLT,Nat.reduceBEq,Nat.reduceSub,EE.down]
 obtain⟨o1,ho,h⟩:=bi h
 refine cutS (fun s=>s=⟨[(0,.one (.c (.pt 0 0))),(20,.one (.c (dB o1)))],[some (.box [dM (b0.tokens.map eS),dB b0.failed])]⟩) ?_ ?_
 ·have h:=ho
  clear ho
  refine ww ?_
  refine guardSh h (fun g2 h=>?_) (fun g2 h=>?_)
  ·refine ww ?_
   cases h
   exact eM [some 0] rfl
  refine ww ?_
  obtain⟨y3,hy3,h⟩:=bi h
  refine t_idxF (enc:=eS) (xs:=b0.tokens) rfl rfl hy3 rfl (ww ?_)
  cases h
  exact eM [some 0] rfl
 rintro _ rfl
 clear ho
 refine ww ?_
 refine condBh h (fun c4 h=>?_) (fun c4 h=>?_)
 ·refine ww ?_
  cases h
  exact eF [some 0]
 refine ww ?_
 obtain⟨s5,hs5,h⟩:=bi h
 refine t_slice (enc:=eS) (xs:=b0.tokens) rfl rfl rfl (fun _=>rfl) hs5 (ww ?_)
 cases h
 exact eF [some 0]
def F73(b0:Parser):Option (ByteArray):=(if(b0.tokens.length:Int)=0 then some ((⟨#[]⟩:ByteArray))else(rdI b0.tokens 0).bind fun y2=>some y2)
def a73:AFn:=⟨15,[(.tmp 2)],
 (.seq (.reg [sq 2 (.mv (kS ⟨#[]⟩))])
 (.seq (.seq (.reg [sq 3 (.mv (.t 0)),
sq 4 (.fieldA 0 (.t 3)),
sq 5 (.fieldA 0 (.t 4)),
sq 6 (.load none (.t 5)),
sq 7 (.len (.t 6)),
sq 8 (.bin .eql (.t 7) (kI 0))])
 (.cond (.t 8)
 (.seq (.reg [sq 2 (.mv (kS ⟨#[]⟩))])
 .ret)
 .skip))
 (.seq (.reg [sq 9 (.mv (.t 0)),
sq 10 (.fieldA 0 (.t 9)),
sq 11 (.fieldA 0 (.t 10)),
sq 12 (.load none (.t 11)),
sq 13 (.indexA 1 (.t 12) (kI 0)),
sq 14 (.load none (.t 13)),
sq 2 (.mv (.t 14))])
 .ret)))⟩
theorem a73_ok:afn Try.prog 73=some a73.er:=by kernel_rfl
theorem F73_ok{b0 r}(h:F73 b0=some r):CallD Try.prog 73 [.c (.pt 0 0)] [some (.box [dM (b0.tokens.map eS),dB b0.failed])] (tupV [.c (dS r)]) [some (.box [dM (b0.tokens.map eS),dB b0.failed])]:=by
 refine callS a73_ok (by simp[a73]) ?_
 rw[F73]at h
 simp only[a73,VW.down,Nat.reduceEqDiff,reduceCtorEq,Nat.reduceAdd,Nat.reduceLeDiff,Nat.reduceLT,Nat.reduceBEq,Nat.reduceSub,EE.down]
 refine condSh h (fun c1 h=>?_) (fun c1 h=>?_)
 ·refine ww ?_
  cases h
  exact eF [some 0]
 refine ww ?_
 obtain⟨y2,hy2,h⟩:=bi h
 refine t_idxF (enc:=eS) (xs:=b0.tokens) rfl rfl hy2 rfl (ww ?_)
 cases h
 exact eF [some 0]
def F60(b0:Parser):Option (((List ByteArray))×ByteArray):=(F73 b0).bind fun t1=>(((if t1=(⟨#[]⟩:ByteArray)then some true else(byI t1 0).bind fun y4=>(F51 y4).bind fun t5=>some (nb t5))).bind fun o2=>(if o2=true then some ((b0.tokens,(⟨#[]⟩:ByteArray)))else(slI b0.tokens 1 ((b0.tokens.length:Int))).bind fun s7=>some ((s7,t1))))
def a60:AFn:=⟨23,[(.tmp 2)],
 (.seq (.reg [sq 2 (.mv (kS ⟨#[]⟩))])
 (.seq (.reg [sq 4 (.mv (.t 0)),
sq 5 (.call 73 [(.t 4)]),
sq 3 (.mv (.t 5))])
 (.seq (.seq (.sem (.reg [sq 6 (.mv (.t 3)),
sq 7 (.bin .eql (.t 6) (kS ⟨#[]⟩)),
sq 8 (.mv (.t 7)),
zg 9 8 false (.mv (.t 3)),
zg 10 8 false (.sidx (.t 9) (kI 0)),
zg 11 8 false (.call 51 [(.t 10)]),
zg 12 8 false (.not (.t 11)),
sq 13 (.pick (.t 8) (kB true) (.t 12))]))
 (.cond (.t 13)
 (.seq (.reg [sq 2 (.mv (kS ⟨#[]⟩))])
 .ret)
 .skip))
 (.seq (.reg [sq 14 (.mv (.t 0)),
sq 15 (.mv (.t 0)),
sq 16 (.fieldA 0 (.t 15)),
sq 17 (.fieldA 0 (.t 16)),
sq 18 (.load none (.t 17)),
sq 19 (.slice 1 (.t 18) (some (kI 1)) none none),
sq 20 (.fieldA 0 (.t 14)),
sq 21 (.fieldA 0 (.t 20)),
⟨none,none,.store 1 (.t 21) (.t 19),[],(.lone [15,16,17,18,14,20])⟩])
 (.seq (.reg [sq 22 (.mv (.t 3)),
sq 2 (.mv (.t 22))])
 .ret)))))⟩
theorem a60_ok:afn Try.prog 60=some a60.er:=by kernel_rfl
theorem F60_ok{b0 r}(h:F60 b0=some r):CallD Try.prog 60 [.c (.pt 0 0)] [some (.box [dM (b0.tokens.map eS),dB b0.failed])] (tupV [.c (dS r.2)]) [some (.box [dM (r.1.map eS),dB b0.failed])]:=by
 refine callS a60_ok (by simp[a60]) ?_
 rw[F60]at h
 simp only[a60,VW.down,Nat.reduceEqDiff,reduceCtorEq,Nat.reduceAdd,Nat.reduceLeDiff,Nat.reduceLT,Nat.reduceBEq,Nat.reduceSub,EE.down]
 obtain⟨t1,ht1,h⟩:=bi h
 refine cN [0] (F73_ok ht1) ⟨⟨rfl,by simp[Blk.live,C.live,hp]⟩,trivial⟩ ?_
 refine ww ?_
 obtain⟨o2,ho,h⟩:=bi h
 refine cutS (fun s=>s=⟨[(0,.one (.c (.pt 0 0))),(3,.one (.c (dS t1))),(13,.one (.c (dB o2)))],[some (.box [dM (b0.tokens.map eS),dB b0.failed])]⟩) ?_ ?_
 ·have h:=ho
  clear ho
  refine ww ?_
  refine guardSh h (fun g3 h=>?_) (fun g3 h=>?_)
  ·refine ww ?_
   cases h
   exact eM [some 0] rfl
  refine ww ?_
  obtain⟨y4,hy4,h⟩:=bi h
  refine t_sidx rfl rfl hy4 (ww ?_)
  obtain⟨t5,ht5,h⟩:=bi h
  refine cN [] (F51_ok ht5) trivial (ww ?_)
  cases h
  exact eM [some 0] rfl
 rintro _ rfl
 clear ho
 refine ww ?_
 refine condBh h (fun c6 h=>?_) (fun c6 h=>?_)
 ·refine ww ?_
  cases h
  exact eF [some 0]
 refine ww ?_
 obtain⟨s7,hs7,h⟩:=bi h
 refine t_slice (enc:=eS) (xs:=b0.tokens) rfl rfl rfl (fun _=>rfl) hs7 (ww ?_)
 cases h
 exact eF [some 0]
def Try.laysSort_ren:Go.Shelf.Ren:=⟨fun|190=>74|125=>83|258=>82|128=>99|129=>100|302=>90|303=>91|304=>92|305=>93|306=>94|307=>95|308=>96|309=>97|310=>98|333=>103|329=>104|330=>105|334=>106|335=>107|336=>108|344=>109|n=>n,fun|31=>41|9=>9|3=>3|46=>95|0=>0|51=>110|53=>112|4=>4|183=>103|182=>102|131=>107|5=>5|218=>115|222=>119|228=>121|229=>122|n=>n,fun|n=>n⟩
theorem Try.laysSort:Go.Proofs.Lays.n190 Try.prog Try.laysSort_ren:={
 mixed:=by kernel_rfl
 f125:=Try.func83.trans (congrArg some (by kernel_rfl))
 f128:=Try.func99.trans (congrArg some (by kernel_rfl))
 f129:=Try.func100.trans (congrArg some (by kernel_rfl))
 f190:=Try.func74.trans (congrArg some (by kernel_rfl))
 f258:=Try.func82.trans (congrArg some (by kernel_rfl))
 f302:=Try.func90.trans (congrArg some (by kernel_rfl))
 f303:=Try.func91.trans (congrArg some (by kernel_rfl))
 f304:=Try.func92.trans (congrArg some (by kernel_rfl))
 f305:=Try.func93.trans (congrArg some (by kernel_rfl))
 f306:=Try.func94.trans (congrArg some (by kernel_rfl))
 f307:=Try.func95.trans (congrArg some (by kernel_rfl))
 f308:=Try.func96.trans (congrArg some (by kernel_rfl))
 f309:=Try.func97.trans (congrArg some (by kernel_rfl))
 f310:=Try.func98.trans (congrArg some (by kernel_rfl))
 f329:=Try.func104.trans (congrArg some (by kernel_rfl))
 f330:=Try.func105.trans (congrArg some (by kernel_rfl))
 f333:=Try.func103.trans (congrArg some (by kernel_rfl))
 f334:=Try.func106.trans (congrArg some (by kernel_rfl))
 f335:=Try.func107.trans (congrArg some (by kernel_rfl))
 f336:=Try.func108.trans (congrArg some (by kernel_rfl))
 f344:=Try.func109.trans (congrArg some (by kernel_rfl))
 t0:=Try.underlying0
 a0:=Try.isAgg0
 z0:=Try.sizeOf0
 v0:=Try.zeroValue0
 t3:=Try.underlying3
 a3:=Try.isAgg3
 z3:=Try.sizeOf3
 v3:=Try.zeroValue3
 t4:=Try.underlying4
 a4:=Try.isAgg4
 z4:=Try.sizeOf4
 v4:=Try.zeroValue4
 t5:=Try.underlying5
 a5:=Try.isAgg5
 z5:=Try.sizeOf5
 v5:=Try.zeroValue5
 t9:=Try.underlying9
 a9:=Try.isAgg9
 z9:=Try.sizeOf9
 v9:=Try.zeroValue9
 t31:=Try.underlying41
 a31:=Try.isAgg41
 z31:=Try.sizeOf41
 v31:=Try.zeroValue41
 t46:=Try.underlying95
 a46:=Try.isAgg95
 z46:=Try.sizeOf95
 v46:=Try.zeroValue95
 t51:=Try.underlying110
 a51:=Try.isAgg110
 z51:=Try.sizeOf110
 v51:=Try.zeroValue110
 t53:=Try.underlying112
 a53:=Try.isAgg112
 z53:=Try.sizeOf112
 v53:=Try.zeroValue112
 t131:=Try.underlying107
 a131:=Try.isAgg107
 z131:=Try.sizeOf107
 v131:=Try.zeroValue107
 t182:=Try.underlying102
 a182:=Try.isAgg102
 z182:=Try.sizeOf102
 v182:=Try.zeroValue102
 t183:=Try.underlying103
 a183:=Try.isAgg103
 z183:=Try.sizeOf103
 v183:=Try.zeroValue103
 t218:=Try.underlying115
 a218:=Try.isAgg115
 z218:=Try.sizeOf115
 v218:=Try.zeroValue115
 t222:=Try.underlying119
 a222:=Try.isAgg119
 z222:=Try.sizeOf119
 v222:=Try.zeroValue119
 t228:=Try.underlying121
 a228:=Try.isAgg121
 z228:=Try.sizeOf121
 v228:=Try.zeroValue121
 t229:=Try.underlying122
 a229:=Try.isAgg122
 z229:=Try.sizeOf122
 v229:=Try.zeroValue122}
theorem F74_ok{x0 r:List ByteArray}{e0:Nat}(h:sortI x0=some r):CallD Try.prog 74 [.c (.own 0 e0 0 x0.length none)] [some (.arr e0 1 (x0.map eS))] (tupV []) [some (.arr e0 1 (r.map eS))]:=L_sort (ρ:=Try.laysSort_ren) Try.laysSort rfl (by kernel_rfl) h
def Try.laysComp_ren:Go.Shelf.Ren:=⟨fun|194=>75|n=>n,fun|31=>41|9=>9|3=>3|4=>4|0=>0|n=>n,fun|n=>n⟩
theorem Try.laysComp:Go.Proofs.Lays.n194 Try.prog Try.laysComp_ren:={
 mixed:=by kernel_rfl
 f194:=Try.func75.trans (congrArg some (by kernel_rfl))
 t0:=Try.underlying0
 a0:=Try.isAgg0
 z0:=Try.sizeOf0
 v0:=Try.zeroValue0
 t3:=Try.underlying3
 a3:=Try.isAgg3
 z3:=Try.sizeOf3
 v3:=Try.zeroValue3
 t4:=Try.underlying4
 a4:=Try.isAgg4
 z4:=Try.sizeOf4
 v4:=Try.zeroValue4
 t9:=Try.underlying9
 a9:=Try.isAgg9
 z9:=Try.sizeOf9
 v9:=Try.zeroValue9
 t31:=Try.underlying41
 a31:=Try.isAgg41
 z31:=Try.sizeOf41
 v31:=Try.zeroValue41}
theorem F75_ok{x0 r:List ByteArray}{e0:Nat}(h:compI x0=some r):CallD Try.prog 75 [.c (.own 0 e0 0 x0.length none)] [some (.arr e0 1 (x0.map eS))] (tupV [.c (.own 0 (e0+1) 0 r.length none)]) [some (.arr (e0+1) 1 (r.map eS))]:=L_comp (ρ:=Try.laysComp_ren) Try.laysComp rfl (by kernel_rfl) h
def F61_l4(b0:Parser):Nat→((List ByteArray))→(List ByteArray)→Option (((List ByteArray))×(List ByteArray))
 |0,_,_=>none
 |k+1,o4_0,o4_1=>(F41 ((⟨#[44]⟩:ByteArray)) ((⟨o4_0,b0.failed⟩:Parser))).bind fun t5=>(if t5.2=true then(F60 ((⟨t5.1,b0.failed⟩:Parser))).bind fun t7=>(apI o4_1 ([t7.2])).bind fun a8=>F61_l4 b0 k t7.1 a8 else some ((t5.1,o4_1)))
def F61(b0:Parser):Option (Parser×(List ByteArray)):=(F41 ((⟨#[40]⟩:ByteArray)) b0).bind fun t1=>(if(nb t1.2)=true then some (((⟨t1.1,true⟩:Parser),[]))else(F60 ((⟨t1.1,b0.failed⟩:Parser))).bind fun t3=>((F61_l4 b0 1099511627776 t3.1 ([t3.2])).bind fun o4=>(((F41 ((⟨#[41]⟩:ByteArray)) ((⟨o4.1,b0.failed⟩:Parser))).bind fun t10=>(if(nb t10.2)=true then some ((⟨t10.1,true⟩:Parser))else some ((⟨t10.1,b0.failed⟩:Parser)))).bind fun o9=>(sortI o4.2).bind fun t12=>(compI t12).bind fun t13=>some (((⟨(o9).tokens,(o9).failed⟩:Parser),t13)))))
def a61:AFn:=⟨30,[(.tmp 2)],
 (.seq (.reg [sq 2 (.mv kN)])
 (.seq (.seq (.reg [sq 4 (.mv (.t 0)),
sq 5 (.call 41 [(.t 4),(kS ⟨#[40]⟩)]),
sq 6 (.not (.t 5))])
 (.cond (.t 6)
 (.seq (.reg [sq 7 (.mv (.t 0)),
sq 8 (.fieldA 0 (.t 7)),
sq 9 (.fieldA 1 (.t 8)),
⟨none,none,.store 1 (.t 9) (kB true),[],(.lone [7,8])⟩])
 (.seq (.reg [sq 2 (.mv kN)])
 .ret))
 .skip))
 (.seq (.reg [sq 10 (.mv (.t 0)),
sq 11 (.call 60 [(.t 10)]),
sq 12 (.bslice 1 [(.t 11)]),
sq 3 (.mv (.t 12))])
 (.seq (.sem (.block 0 (.loop (.seq (.seq (.reg [sq 13 (.mv (.t 0)),
zl 14 (.call 41 [(.t 13),(kS ⟨#[44]⟩)]) [] []])
 (.cond (.t 14)
 .skip
 (.exit 0)))
 (.block 1 (.reg [sq 15 (.mv (.t 3)),
sq 16 (.mv (.t 0)),
sq 17 (.call 60 [(.t 16)]),
sq 18 (.bslice 1 [(.t 17)]),
sq 19 (.app 1 16 (.t 15) (.t 18)),
sq 3 (.mv (.t 19))]))))))
 (.seq (.sem (.seq (.reg [sq 20 (.mv (.t 0)),
sq 21 (.call 41 [(.t 20),(kS ⟨#[41]⟩)]),
sq 22 (.not (.t 21))])
 (.cond (.t 22)
 (.reg [sq 23 (.mv (.t 0)),
sq 24 (.fieldA 0 (.t 23)),
sq 25 (.fieldA 1 (.t 24)),
⟨none,none,.store 1 (.t 25) (kB true),[],(.lone [23,24])⟩])
 .skip)))
 (.seq (.reg [sq 26 (.mv (.t 3)),
zl 27 (.call 74 [(.t 26)]) [] []])
 (.seq (.reg [sq 28 (.mv (.t 3)),
sq 29 (.call 75 [(.t 28)]),
sq 2 (.mv (.t 29))])
 .ret)))))))⟩
theorem a61_ok:afn Try.prog 61=some a61.er:=by kernel_rfl
theorem F61_ok{b0 r}(h:F61 b0=some r):CallD Try.prog 61 [.c (.pt 0 0)] [some (.box [dM (b0.tokens.map eS),dB b0.failed])] (tupV [.c (.own 1 0 0 (r.2.length) none)]) [some (.box [dM (((r.1).tokens).map eS),dB ((r.1).failed)]),some (.arr 0 1 (r.2.map eS))]:=by
 refine callS a61_ok (by simp[a61]) ?_
 rw[F61]at h
 simp only[a61,VW.down,Nat.reduceEqDiff,reduceCtorEq,Nat.reduceAdd,Nat.reduceLeDiff,Nat.reduceLT,Nat.reduceBEq,Nat.reduceSub,EE.down]
 obtain⟨t1,ht1,h⟩:=bi h
 refine cN [0] (F41_ok ht1) ⟨⟨rfl,by simp[Blk.live,C.live,hp]⟩,trivial⟩ ?_
 refine ww ?_
 refine condBh h (fun c2 h=>?_) (fun c2 h=>?_)
 ·refine ww ?_
  cases h
  exact eF [some 0,none]
 refine ww ?_
 obtain⟨t3,ht3,h⟩:=bi h
 refine cN [0] (F60_ok ht3) ⟨⟨rfl,by simp[Blk.live,C.live,hp]⟩,trivial⟩ ?_
 refine ww ?_
 refine t_bslice (enc:=eS) (ys:=[t3.2]) rfl rfl (by simp[A1.cells]) (by first|rfl|(simp only[List.drop_zero,take_mapL];rfl)|(simp only[lit,List.map_cons,List.map_nil,List.drop_zero,take_mapL,EE.down];done)|(simp only[lit,List.map_cons,List.map_nil,List.drop_zero,take_mapL,EE.down];rfl)) (ww ?_)
 obtain⟨o4,ho,h⟩:=bi h
 refine cutS (fun s=>s=⟨[(0,.one (.c (.pt 0 0))),(3,.one (.c (.own 1 0 0 (o4.2.length) none)))],[some (.box [dM (o4.1.map eS),dB b0.failed]),some (.arr 0 1 (o4.2.map eS))]⟩) ?_ ?_
 ·have h:=ho
  clear ho
  refine ww ?_
  refine bL (fun j s=>∃(o4_0:(List ByteArray)) (o4_1:List ByteArray),s=⟨[(0,.one (.c (.pt 0 0))),(3,.one (.c (.own 1 0 0 (o4_1.length) none)))],[some (.box [dM (o4_0.map eS),dB b0.failed]),some (.arr 0 1 (o4_1.map eS))]⟩∧F61_l4 b0 j o4_0 o4_1=some o4) 1099511627776 [some 0,some 1] ⟨t3.1,[t3.2],rfl,h⟩ ?_
  rintro j _ ⟨o4_0,o4_1,rfl,h⟩
  cases j with
  |zero=>cases(show(none:Option _)=some _ from h)
  |succ j=>
   rw[F61_l4]at h
   refine ww ?_
   obtain⟨t5,ht5,h⟩:=bi h
   refine cN [0] (F41_ok ht5) ⟨⟨rfl,by simp[Blk.live,C.live,hp]⟩,trivial⟩ ?_
   refine ww ?_
   refine condBh h (fun c6 h=>?_) (fun c6 h=>?_)
   ·refine ww ?_
    obtain⟨t7,ht7,h⟩:=bi h
    refine cN [0] (F60_ok ht7) ⟨⟨rfl,by simp[Blk.live,C.live,hp]⟩,trivial⟩ ?_
    refine ww ?_
    refine t_bslice (enc:=eS) (ys:=[t7.2]) rfl rfl (by simp[A1.cells]) (by first|rfl|(simp only[List.drop_zero,take_mapL];rfl)|(simp only[lit,List.map_cons,List.map_nil,List.drop_zero,take_mapL,EE.down];done)|(simp only[lit,List.map_cons,List.map_nil,List.drop_zero,take_mapL,EE.down];rfl)) (ww ?_)
    obtain⟨a8,ha8,h⟩:=bi h
    refine t_app (enc:=eS) (xs:=o4_1) rfl rfl (by first|rfl|simp only[List.length_set]|exact(clrL_len (slI_len (by assumption))).symm) rfl (rows_full (enc:=eS) (by first|rfl|simp only[List.length_set]|exact(clrL_len (slI_len (by assumption))).symm) rfl) ha8 (ww ?_)
    exact eL' j [some 0,some 1] ⟨t7.1,a8,rfl,h⟩ (Nat.lt_succ_self _)
   ·refine ww ?_
    cases h
    exact eM [some 0,some 1] rfl
 rintro _ rfl
 clear ho
 refine ww ?_
 obtain⟨o9,ho,h⟩:=bi h
 refine cutS (fun s=>s=⟨[(3,.one (.c (.own 1 0 0 (o4.2.length) none)))],[some (.box [dM (((o9).tokens).map eS),dB ((o9).failed)]),some (.arr 0 1 (o4.2.map eS))]⟩) ?_ ?_
 ·have h:=ho
  clear ho
  refine ww ?_
  obtain⟨t10,ht10,h⟩:=bi h
  refine cN [0] (F41_ok ht10) ⟨⟨rfl,by simp[Blk.live,C.live,hp]⟩,trivial⟩ ?_
  refine ww ?_
  refine condBh h (fun c11 h=>?_) (fun c11 h=>?_)
  ·refine ww ?_
   cases h
   exact eM [some 0,some 1] rfl
  refine ww ?_
  cases h
  exact eM [some 0,some 1] rfl
 rintro _ rfl
 clear ho
 refine ww ?_
 obtain⟨t12,ht12,h⟩:=bi h
 refine cN [1] (F74_ok (e0:=0) ht12) ⟨⟨rfl,trivial⟩,trivial⟩ ?_
 refine ww ?_
 obtain⟨t13,ht13,h⟩:=bi h
 refine callX_n [1] (F75_ok (e0:=0) ht13) ?_ ?_ ?_ ?_ ?_ ?_
 ·first|rfl|simp[nrmA,nrmC,nrm,A1.ren,C.ren,rn,List.length_set,sortI_len ht12]
 ·simp[liveAll,A1.live,C.live,hp]
 ·rfl
 ·decide
 ·exact⟨⟨rfl,trivial⟩,trivial⟩
 refine ww ?_
 cases h
 exact eF [some 0,some 1] (hB:=by simp only[ZZ.down,Nat.reduceEqDiff,reduceCtorEq,Nat.reduceAdd,Nat.reduceLeDiff,Nat.reduceLT,Nat.reduceBNe,EE.down,sortI_len ht12]) (hs:=by simp only[ZZ.down,Nat.reduceEqDiff,reduceCtorEq,Nat.reduceAdd,Nat.reduceLeDiff,Nat.reduceLT,Nat.reduceBNe,EE.down,sortI_len ht12])
def F42(b0:Parser):Option (Parser×ByteArray×Int×(List ByteArray)):=(F41 ((⟨#[33]⟩:ByteArray)) b0).bind fun t1=>(F60 ((⟨t1.1,b0.failed⟩:Parser))).bind fun t2=>(if t2.2=(⟨#[]⟩:ByteArray)then some (((⟨t2.1,true⟩:Parser),t2.2,3,[]))else(if t1.2=true then some (((⟨t2.1,b0.failed⟩:Parser),t2.2,4,[]))else(F41 ((⟨#[61]⟩:ByteArray)) ((⟨t2.1,b0.failed⟩:Parser))).bind fun t5=>(if t5.2=true then(F60 ((⟨t5.1,b0.failed⟩:Parser))).bind fun t7=>some (((⟨t7.1,b0.failed⟩:Parser),t2.2,1,[t7.2]))else(F41 ((⟨#[33,61]⟩:ByteArray)) ((⟨t5.1,b0.failed⟩:Parser))).bind fun t8=>(if t8.2=true then(F60 ((⟨t8.1,b0.failed⟩:Parser))).bind fun t10=>some (((⟨t10.1,b0.failed⟩:Parser),t2.2,2,[t10.2]))else(F41 ((⟨#[105,110]⟩:ByteArray)) ((⟨t8.1,b0.failed⟩:Parser))).bind fun t11=>(if t11.2=true then(F61 ((⟨t11.1,b0.failed⟩:Parser))).bind fun t13=>some (((⟨(t13.1).tokens,(t13.1).failed⟩:Parser),t2.2,1,t13.2))else(F41 ((⟨#[110,111,116,105,110]⟩:ByteArray)) ((⟨t11.1,b0.failed⟩:Parser))).bind fun t14=>(if t14.2=true then(F61 ((⟨t14.1,b0.failed⟩:Parser))).bind fun t16=>some (((⟨(t16.1).tokens,(t16.1).failed⟩:Parser),t2.2,2,t16.2))else some (((⟨t14.1,b0.failed⟩:Parser),t2.2,3,[]))))))))
def a42:AFn:=⟨51,[(.cell 2 (some 3))],
 (.seq (.reg [zl 2 (.zbox [dS ⟨#[]⟩,dI 0,dN]) [] []])
 (.seq (.reg [sq 5 (.mv (.t 0)),
sq 6 (.call 41 [(.t 5),(kS ⟨#[33]⟩)]),
sq 3 (.mv (.t 6))])
 (.seq (.reg [sq 7 (.mv (.t 0)),
sq 8 (.call 60 [(.t 7)]),
sq 9 (.build [dS ⟨#[]⟩,dI 0,dN] [(0,1,(.t 8)),(1,1,(kI 3))]),
sq 4 (.zbox [dS ⟨#[]⟩,dI 0,dN]),
su (.store 3 (.t 4) (.t 9))])
 (.seq (.block 0 (.seq (.reg [sq 11 (.fieldA 0 (.t 4)),
sq 12 (.load none (.t 11)),
sq 13 (.bin .eql (.t 12) (kS ⟨#[]⟩)),
sq 10 (.mv (.t 13))])
 (.cond (.t 10)
 (.reg [sq 14 (.mv (.t 0)),
sq 15 (.fieldA 0 (.t 14)),
sq 16 (.fieldA 1 (.t 15)),
⟨none,none,.store 1 (.t 16) (kB true),[],(.lone [14,15])⟩])
 (.seq (.reg [sq 18 (.mv (.t 3)),
sq 17 (.mv (.t 18))])
 (.cond (.t 17)
 (.reg [sq 19 (.fieldA 1 (.t 4)),
⟨none,none,.store 1 (.t 19) (kI 4),[],(.lone [4])⟩])
 (.seq (.reg [sq 21 (.mv (.t 0)),
sq 22 (.call 41 [(.t 21),(kS ⟨#[61]⟩)]),
sq 20 (.mv (.t 22))])
 (.cond (.t 20)
 (.reg [sq 23 (.mv (.t 0)),
sq 24 (.call 60 [(.t 23)]),
sq 25 (.bslice 1 [(.t 24)]),
sq 26 (.fieldA 1 (.t 4)),
su (.store 1 (.t 26) (kI 1)),
sq 27 (.fieldA 2 (.t 4)),
su (.store 1 (.t 27) (.t 25))])
 (.seq (.reg [sq 29 (.mv (.t 0)),
sq 30 (.call 41 [(.t 29),(kS ⟨#[33,61]⟩)]),
sq 28 (.mv (.t 30))])
 (.cond (.t 28)
 (.reg [sq 31 (.mv (.t 0)),
sq 32 (.call 60 [(.t 31)]),
sq 33 (.bslice 1 [(.t 32)]),
sq 34 (.fieldA 1 (.t 4)),
su (.store 1 (.t 34) (kI 2)),
sq 35 (.fieldA 2 (.t 4)),
su (.store 1 (.t 35) (.t 33))])
 (.seq (.reg [sq 37 (.mv (.t 0)),
sq 38 (.call 41 [(.t 37),(kS ⟨#[105,110]⟩)]),
sq 36 (.mv (.t 38))])
 (.cond (.t 36)
 (.reg [sq 39 (.mv (.t 0)),
sq 40 (.call 61 [(.t 39)]),
sq 41 (.fieldA 1 (.t 4)),
su (.store 1 (.t 41) (kI 1)),
sq 42 (.fieldA 2 (.t 4)),
su (.store 1 (.t 42) (.t 40))])
 (.seq (.reg [sq 44 (.mv (.t 0)),
sq 45 (.call 41 [(.t 44),(kS ⟨#[110,111,116,105,110]⟩)]),
sq 43 (.mv (.t 45))])
 (.cond (.t 43)
 (.reg [sq 46 (.mv (.t 0)),
sq 47 (.call 61 [(.t 46)]),
sq 48 (.fieldA 1 (.t 4)),
su (.store 1 (.t 48) (kI 2)),
sq 49 (.fieldA 2 (.t 4)),
su (.store 1 (.t 49) (.t 47))])
 .skip)))))))))))))
 (.seq (.reg [sq 50 (.load (some 3) (.t 4)),
⟨none,none,.store 3 (.t 2) (.t 50),[],(.lone [4])⟩])
 .ret)))))⟩
theorem a42_ok:afn Try.prog 42=some a42.er:=by kernel_rfl
theorem F42_ok{b0 r}(h:F42 b0=some r):CallD Try.prog 42 [.c (.pt 0 0)] [some (.box [dM (b0.tokens.map eS),dB b0.failed])] (tupV [.agg [dS r.2.1,dI r.2.2.1,.own 1 0 0 (r.2.2.2.length) none]]) [some (.box [dM (((r.1).tokens).map eS),dB ((r.1).failed)]),some (.arr 0 1 (r.2.2.2.map eS))]:=by
 refine callS a42_ok (by simp[a42]) ?_
 rw[F42]at h
 simp only[a42,VW.down,Nat.reduceEqDiff,reduceCtorEq,Nat.reduceAdd,Nat.reduceLeDiff,Nat.reduceLT,Nat.reduceBEq,Nat.reduceSub,EE.down]
 obtain⟨t1,ht1,h⟩:=bi h
 refine cN [0] (F41_ok ht1) ⟨⟨rfl,by simp[Blk.live,C.live,hp]⟩,trivial⟩ ?_
 refine ww ?_
 obtain⟨t2,ht2,h⟩:=bi h
 refine cN [0] (F60_ok ht2) ⟨⟨rfl,by simp[Blk.live,C.live,hp]⟩,trivial⟩ ?_
 refine ww ?_
 refine condSh h (fun c3 h=>?_) (fun c3 h=>?_)
 ·refine ww ?_
  cases h
  exact eF [some 0,none]
 refine ww ?_
 refine condBh h (fun c4 h=>?_) (fun c4 h=>?_)
 ·refine ww ?_
  cases h
  exact eF [some 0,none]
 refine ww ?_
 obtain⟨t5,ht5,h⟩:=bi h
 refine cN [0] (F41_ok ht5) ⟨⟨rfl,by simp[Blk.live,C.live,hp]⟩,trivial⟩ ?_
 refine ww ?_
 refine condBh h (fun c6 h=>?_) (fun c6 h=>?_)
 ·refine ww ?_
  obtain⟨t7,ht7,h⟩:=bi h
  refine cN [0] (F60_ok ht7) ⟨⟨rfl,by simp[Blk.live,C.live,hp]⟩,trivial⟩ ?_
  refine ww ?_
  refine t_bslice (enc:=eS) (ys:=[t7.2]) rfl rfl (by simp[A1.cells]) (by first|rfl|(simp only[List.drop_zero,take_mapL];rfl)|(simp only[lit,List.map_cons,List.map_nil,List.drop_zero,take_mapL,EE.down];done)|(simp only[lit,List.map_cons,List.map_nil,List.drop_zero,take_mapL,EE.down];rfl)) (ww ?_)
  cases h
  exact eF [some 0,some 3]
 refine ww ?_
 obtain⟨t8,ht8,h⟩:=bi h
 refine cN [0] (F41_ok ht8) ⟨⟨rfl,by simp[Blk.live,C.live,hp]⟩,trivial⟩ ?_
 refine ww ?_
 refine condBh h (fun c9 h=>?_) (fun c9 h=>?_)
 ·refine ww ?_
  obtain⟨t10,ht10,h⟩:=bi h
  refine cN [0] (F60_ok ht10) ⟨⟨rfl,by simp[Blk.live,C.live,hp]⟩,trivial⟩ ?_
  refine ww ?_
  refine t_bslice (enc:=eS) (ys:=[t10.2]) rfl rfl (by simp[A1.cells]) (by first|rfl|(simp only[List.drop_zero,take_mapL];rfl)|(simp only[lit,List.map_cons,List.map_nil,List.drop_zero,take_mapL,EE.down];done)|(simp only[lit,List.map_cons,List.map_nil,List.drop_zero,take_mapL,EE.down];rfl)) (ww ?_)
  cases h
  exact eF [some 0,some 3]
 refine ww ?_
 obtain⟨t11,ht11,h⟩:=bi h
 refine cN [0] (F41_ok ht11) ⟨⟨rfl,by simp[Blk.live,C.live,hp]⟩,trivial⟩ ?_
 refine ww ?_
 refine condBh h (fun c12 h=>?_) (fun c12 h=>?_)
 ·refine ww ?_
  obtain⟨t13,ht13,h⟩:=bi h
  refine cN [0] (F61_ok ht13) ⟨⟨rfl,by simp[Blk.live,C.live,hp]⟩,trivial⟩ ?_
  refine ww ?_
  cases h
  exact eF [some 0,some 3]
 refine ww ?_
 obtain⟨t14,ht14,h⟩:=bi h
 refine cN [0] (F41_ok ht14) ⟨⟨rfl,by simp[Blk.live,C.live,hp]⟩,trivial⟩ ?_
 refine ww ?_
 refine condBh h (fun c15 h=>?_) (fun c15 h=>?_)
 ·refine ww ?_
  obtain⟨t16,ht16,h⟩:=bi h
  refine cN [0] (F61_ok ht16) ⟨⟨rfl,by simp[Blk.live,C.live,hp]⟩,trivial⟩ ?_
  refine ww ?_
  cases h
  exact eF [some 0,some 3]
 refine ww ?_
 cases h
 exact eF [some 0,none]
def F54(x0:Int):Option (Bool):=(((if x0=1 then some true else some (decide (x0=2)))).bind fun o1=>some o1)
def a54:AFn:=⟨9,[(.tmp 2)],
 (.seq (.reg [sq 2 (.mv (kB false))])
 (.seq (.sem (.reg [sq 3 (.mv (.t 0)),
sq 4 (.bin .eql (.t 3) (kI 1)),
sq 5 (.mv (.t 4)),
zg 6 5 false (.mv (.t 0)),
zg 7 5 false (.bin .eql (.t 6) (kI 2)),
sq 8 (.pick (.t 5) (kB true) (.t 7)),
sq 2 (.mv (.t 8))]))
 .ret))⟩
theorem a54_ok:afn Try.prog 54=some a54.er:=by kernel_rfl
theorem F54_ok{x0 r}(h:F54 x0=some r):CallD Try.prog 54 [.c (dI x0)] [] (tupV [.c (dB r)]) []:=by
 refine callS a54_ok (by simp[a54]) ?_
 rw[F54]at h
 simp only[a54,VW.down,Nat.reduceEqDiff,reduceCtorEq,Nat.reduceAdd,Nat.reduceLeDiff,Nat.reduceLT,Nat.reduceBEq,Nat.reduceSub,EE.down]
 obtain⟨o1,ho,h⟩:=bi h
 refine cutS (fun s=>s=⟨[(2,.one (.c (dB o1)))],[]⟩) ?_ ?_
 ·have h:=ho
  clear ho
  refine ww ?_
  refine guardSh h (fun g2 h=>?_) (fun g2 h=>?_)
  ·refine ww ?_
   cases h
   exact eM [] rfl
  refine ww ?_
  cases h
  exact eM [] rfl
 rintro _ rfl
 clear ho
 refine ww ?_
 cases h
 exact eF []
def F35_l11(x0:Requirement):List ByteArray→Nat→Option ((Bool) ⊕ (Unit))
 |[],o11_0=>some (Sum.inr (()))
 |xo11::xs,o11_0=>(((F30 xo11).bind fun t14=>(if(nb t14)=true then some true else(if 0<(o11_0:Int)then(rdI x0.Values ((IntKind.i64.wrap (((o11_0:Int))-1)))).bind fun y17=>some ((Op.bytesLess xo11.toList y17.toList||decide (xo11=y17)))else some false))).bind fun o13=>(if o13=true then(some false).map Sum.inl else F35_l11 x0 xs (o11_0+1)))
def F35(x0:Requirement):Option (Bool):=(F29 x0.Key).bind fun t1=>(if(nb t1)=true then some false else(F54 x0.Op).bind fun t3=>(if(nb t3)=true then(((if x0.Op=3 then some (decide ((x0.Values.length:Int)=0))else(if x0.Op=4 then some (decide ((x0.Values.length:Int)=0))else some false))).bind fun o5=>some o5)else(((if(x0.Values.length:Int)<1 then some true else some (decide (64<(x0.Values.length:Int))))).bind fun o8=>(if o8=true then some false else(((ck (0≤x0.Values.length∧x0.Values.length≤4294967290)).bind fun u19=>F35_l11 x0 x0.Values 0:Option ((Bool) ⊕ (Unit))).bind fun o11=>match o11 with|Sum.inl f=>some f|Sum.inr po11=>some true)))))
def a35:AFn:=⟨63,[(.tmp 2)],
 (.seq (.reg [sq 1 (.box (.t 0)),
sq 2 (.mv (kB false))])
 (.seq (.seq (.reg [sq 5 (.fieldA 0 (.t 1)),
sq 6 (.load none (.t 5)),
sq 7 (.call 29 [(.t 6)]),
sq 8 (.not (.t 7))])
 (.cond (.t 8)
 (.seq (.reg [sq 2 (.mv (kB false))])
 .ret)
 .skip))
 (.seq (.seq (.reg [sq 9 (.fieldA 1 (.t 1)),
sq 10 (.load none (.t 9)),
sq 11 (.call 54 [(.t 10)]),
sq 12 (.not (.t 11))])
 (.cond (.t 12)
 (.seq (.sem (.reg [sq 13 (.fieldA 1 (.t 1)),
sq 14 (.load none (.t 13)),
sq 15 (.bin .eql (.t 14) (kI 3)),
sq 16 (.mv (.t 15)),
zg 17 16 false (.fieldA 1 (.t 1)),
zg 18 16 false (.load none (.t 17)),
zg 19 16 false (.bin .eql (.t 18) (kI 4)),
sq 20 (.pick (.t 16) (kB true) (.t 19)),
sq 21 (.mv (.t 20)),
zg 22 21 true (.fieldA 2 (.t 1)),
zg 23 21 true (.load none (.t 22)),
zg 24 21 true (.len (.t 23)),
zg 25 21 true (.bin .eql (.t 24) (kI 0)),
sq 26 (.pick (.t 21) (.t 25) (kB false)),
sq 2 (.mv (.t 26))]))
 .ret)
 .skip))
 (.seq (.seq (.sem (.reg [sq 27 (.fieldA 2 (.t 1)),
sq 28 (.load none (.t 27)),
sq 29 (.len (.t 28)),
sq 30 (.bin .lss (.t 29) (kI 1)),
sq 31 (.mv (.t 30)),
zg 32 31 false (.fieldA 2 (.t 1)),
zg 33 31 false (.load none (.t 32)),
zg 34 31 false (.len (.t 33)),
zg 35 31 false (.bin .gtr (.t 34) (kI 64)),
zl 36 (.pick (.t 31) (kB true) (.t 35)) [] [1,27,28,1,32,33]]))
 (.cond (.t 36)
 (.seq (.reg [sq 2 (.mv (kB false))])
 .ret)
 .skip))
 (.seq (.seq (.reg [sq 37 (.fieldA 2 (.t 1)),
sq 38 (.load none (.t 37)),
sq 39 (.len (.t 38)),
sq 40 (.mv (kI 0))])
 (.sem (.block 0 (.loop (.seq (.reg [sq 41 (.bin .lss (.t 40) (.t 39))])
 (.seq (.cond (.t 41)
 .skip
 (.exit 0))
 (.seq (.block 1 (.seq (.reg [sq 42 (.mv (.t 40)),
sq 43 (.indexA 1 (.t 38) (.t 40)),
sq 44 (.load none (.t 43)),
sq 3 (.mv (.t 42)),
sq 4 (.mv (.t 44))])
 (.seq (.sem (.reg [sq 45 (.mv (.t 4)),
sq 46 (.call 30 [(.t 45)]),
sq 47 (.not (.t 46)),
sq 48 (.mv (.t 47)),
zg 49 48 false (.mv (.t 3)),
zg 50 48 false (.bin .gtr (.t 49) (kI 0)),
zg 51 48 false (.mv (.t 50)),
zg 52 51 true (.mv (.t 4)),
zg 53 51 true (.fieldA 2 (.t 1)),
zg 54 51 true (.load none (.t 53)),
zg 55 51 true (.mv (.t 3)),
zg 56 51 true (.bin .sub (.t 55) (kI 1)),
zg 57 51 true (.indexA 1 (.t 54) (.t 56)),
zg 58 51 true (.load none (.t 57)),
zg 59 51 true (.bin .leq (.t 52) (.t 58)),
zg 60 48 false (.pick (.t 51) (.t 59) (kB false)),
sq 61 (.pick (.t 48) (kB true) (.t 60))]))
 (.cond (.t 61)
 (.seq (.reg [sq 2 (.mv (kB false))])
 .ret)
 .skip))))
 (.reg [sq 62 (.bin .add (.t 40) (kI 1)),
sq 40 (.mv (.t 62))]))))))))
 (.seq (.reg [sq 2 (.mv (kB true))])
 .ret))))))⟩
theorem a35_ok:afn Try.prog 35=some a35.er:=by kernel_rfl
theorem F35_ok{x0 r}(h:F35 x0=some r):CallD Try.prog 35 [.agg [dS x0.Key,dI x0.Op,dM (x0.Values.map eS)]] [] (tupV [.c (dB r)]) []:=by
 refine callS a35_ok (by simp[a35]) ?_
 rw[F35]at h
 simp only[a35,VW.down,Nat.reduceEqDiff,reduceCtorEq,Nat.reduceAdd,Nat.reduceLeDiff,Nat.reduceLT,Nat.reduceBEq,Nat.reduceSub,EE.down]
 obtain⟨t1,ht1,h⟩:=bi h
 refine cN [] (F29_ok ht1) trivial (ww ?_)
 refine condBh h (fun c2 h=>?_) (fun c2 h=>?_)
 ·refine ww ?_
  cases h
  exact eF []
 refine ww ?_
 obtain⟨t3,ht3,h⟩:=bi h
 refine cN [] (F54_ok ht3) trivial (ww ?_)
 refine condBh h (fun c4 h=>?_) (fun c4 h=>?_)
 ·refine ww ?_
  obtain⟨o5,ho,h⟩:=bi h
  refine cutS (fun s=>s=⟨[(2,.one (.c (dB o5)))],[]⟩) ?_ ?_
  ·have h:=ho
   clear ho
   refine ww ?_
   refine guardSh h (fun g6 h=>?_) (fun g6 h=>?_)
   ·refine ww ?_
    cases h
    exact eM [] rfl
   refine ww ?_
   refine guardSh h (fun g7 h=>?_) (fun g7 h=>?_)
   ·refine ww ?_
    cases h
    exact eM [] rfl
   refine ww ?_
   cases h
   exact eM [] rfl
  rintro _ rfl
  clear ho
  refine ww ?_
  cases h
  exact eF []
 refine ww ?_
 obtain⟨o8,ho,h⟩:=bi h
 refine cutS (fun s=>s=⟨[(1,.one (.c (.pt 0 0))),(36,.one (.c (dB o8)))],[some (.box [dS x0.Key,dI x0.Op,dM (x0.Values.map eS)])]⟩) ?_ ?_
 ·have h:=ho
  clear ho
  refine ww ?_
  refine guardSh h (fun g9 h=>?_) (fun g9 h=>?_)
  ·refine ww ?_
   cases h
   exact eM [some 0] rfl
  refine ww ?_
  cases h
  exact eM [some 0] rfl
 rintro _ rfl
 clear ho
 refine ww ?_
 refine condBh h (fun c10 h=>?_) (fun c10 h=>?_)
 ·refine ww ?_
  cases h
  exact eF []
 refine ww ?_
 obtain⟨o11,ho,h⟩:=bi h
 refine cutS (fun s=>∃po11,o11=Sum.inr po11∧s=⟨[],[]⟩) ?_ ?_
 ·have h0o11:=h
  have h:=ho
  clear ho
  obtain⟨_,hk,h⟩:=bi h
  have hk:=ck_some hk
  refine ww ?_
  refine bL (fun j s=>∃(o11_0:Nat),(o11_0≤x0.Values.length∧j=x0.Values.length-o11_0)∧s=⟨[(1,.one (.c (.pt 0 0))),(38,.one (.c (dM (x0.Values.map eS)))),(39,.one (.c (dI ((x0.Values.length:Int))))),(40,.one (.c (dI ((o11_0:Int)))))],[some (.box [dS x0.Key,dI x0.Op,dM (x0.Values.map eS)])]⟩∧F35_l11 x0 (x0.Values.drop o11_0) o11_0=some o11) (x0.Values.length-0) [some 0] ⟨0,⟨hk.1,rfl⟩,rfl,h⟩ ?_
  rintro _ _ ⟨o11_0,⟨hi,rfl⟩,rfl,h⟩
  refine ww ?_
  refine condS (fun c12=>?_) (fun c12=>?_)
  ·obtain⟨xo11,hxo11,hd⟩:=countY (show(o11_0:Int)<(x0.Values.length:Int)from c12)
   rw[hd,F35_l11]at h
   refine ww ?_
   refine t_idxF (enc:=eS) (xs:=x0.Values) rfl rfl hxo11 rfl (ww ?_)
   obtain⟨o13,ho,h⟩:=bi h
   refine cutS (fun s=>s=⟨[(1,.one (.c (.pt 0 0))),(38,.one (.c (dM (x0.Values.map eS)))),(39,.one (.c (dI ((x0.Values.length:Int))))),(40,.one (.c (dI ((o11_0:Int))))),(61,.one (.c (dB o13)))],[some (.box [dS x0.Key,dI x0.Op,dM (x0.Values.map eS)])]⟩) ?_ ?_
   ·have h:=ho
    clear ho
    refine ww ?_
    obtain⟨t14,ht14,h⟩:=bi h
    refine cN [] (F30_ok ht14) trivial (ww ?_)
    refine guardSBh h (fun g15 h=>?_) (fun g15 h=>?_)
    ·refine ww ?_
     cases h
     exact eM [some 0] rfl
    refine ww ?_
    refine guardSh h (fun g16 h=>?_) (fun g16 h=>?_)
    ·refine ww ?_
     obtain⟨y17,hy17,h⟩:=bi h
     refine t_idxF (enc:=eS) (xs:=x0.Values) rfl rfl hy17 rfl (ww ?_)
     cases h
     exact eM [some 0] rfl
    refine ww ?_
    cases h
    exact eM [some 0] rfl
   rintro _ rfl
   clear ho
   refine ww ?_
   refine condBh h (fun c18 h=>?_) (fun c18 h=>?_)
   ·refine ww ?_
    obtain⟨fh0o11,hfh0o11,rfl⟩:=Option.map_eq_some_iff.1 h
    have h:=hfh0o11.trans h0o11
    cases h
    exact eF []
   refine ww ?_
   rw[wrapN (by omega)]
   exact eL' (x0.Values.length-(o11_0+1)) [some 0] ⟨o11_0+1,⟨by omega,rfl⟩,rfl,h⟩ (by omega)
  rw[countN (show¬((o11_0:Int)<(x0.Values.length:Int))from c12),F35_l11]at h
  refine ww ?_
  cases h
  exact eM [] ⟨_,rfl,rfl⟩
 rintro _ ⟨po11,rfl,rfl⟩
 clear ho
 dsimp only at h
 refine ww ?_
 cases h
 exact eF []
def F34(x0:Requirement):Option (Bool):=(F35 x0).bind fun t1=>some (nb t1)
def a34:AFn:=⟨6,[(.tmp 2)],
 (.seq (.reg [sq 1 (.box (.t 0)),
sq 2 (.mv (kB false))])
 (.seq (.reg [sq 3 (.load (some 3) (.t 1)),
sq 4 (.call 35 [(.t 3)]),
sq 5 (.not (.t 4)),
sq 2 (.mv (.t 5))])
 .ret))⟩
theorem a34_ok:afn Try.prog 34=some a34.er:=by kernel_rfl
theorem F34_ok{x0 r}(h:F34 x0=some r):CallD Try.prog 34 [.agg [dS x0.Key,dI x0.Op,dM (x0.Values.map eS)]] [] (tupV [.c (dB r)]) []:=by
 refine callS a34_ok (by simp[a34]) ?_
 rw[F34]at h
 simp only[a34,VW.down,Nat.reduceEqDiff,reduceCtorEq,Nat.reduceAdd,Nat.reduceLeDiff,Nat.reduceLT,Nat.reduceBEq,Nat.reduceSub,EE.down]
 obtain⟨t1,ht1,h⟩:=bi h
 refine cN [] (F35_ok ht1) trivial (ww ?_)
 cases h
 exact eF []
def F13_l2(x0:(List Label)):List Label→Nat→Option ((Bool) ⊕ (Unit))
 |[],o2_0=>some (Sum.inr (()))
 |xo2::xs,o2_0=>(((F29 xo2.Key).bind fun t5=>(if(nb t5)=true then some true else(F30 xo2.Value).bind fun t7=>(if(nb t7)=true then some true else(if 0<(o2_0:Int)then(rdI x0 ((IntKind.i64.wrap (((o2_0:Int))-1)))).bind fun y10=>some ((Op.bytesLess xo2.Key.toList y10.Key.toList||decide (xo2.Key=y10.Key)))else some false)))).bind fun o4=>(if o4=true then(some false).map Sum.inl else F13_l2 x0 xs (o2_0+1)))
def F13(x0:(List Label)):Option (Bool):=(if 16<(x0.length:Int)then some false else(((ck (0≤x0.length∧x0.length≤4294967290)).bind fun u12=>F13_l2 x0 x0 0:Option ((Bool) ⊕ (Unit))).bind fun o2=>match o2 with|Sum.inl f=>some f|Sum.inr po2=>some true))
def a13:AFn:=⟨41,[(.tmp 2)],
 (.seq (.reg [sq 2 (.mv (kB false))])
 (.seq (.seq (.reg [sq 5 (.mv (.t 0)),
sq 6 (.len (.t 5)),
sq 7 (.bin .gtr (.t 6) (kI 16))])
 (.cond (.t 7)
 (.seq (.reg [sq 2 (.mv (kB false))])
 .ret)
 .skip))
 (.seq (.seq (.reg [sq 8 (.mv (.t 0)),
sq 9 (.len (.t 8)),
sq 10 (.mv (kI 0))])
 (.sem (.block 0 (.loop (.seq (.reg [sq 11 (.bin .lss (.t 10) (.t 9))])
 (.seq (.cond (.t 11)
 .skip
 (.exit 0))
 (.seq (.block 1 (.seq (.reg [sq 12 (.mv (.t 10)),
sq 13 (.indexA 2 (.t 8) (.t 10)),
sq 14 (.load (some 2) (.t 13)),
sq 4 (.zbox [dS ⟨#[]⟩,dS ⟨#[]⟩]),
sq 3 (.mv (.t 12)),
su (.store 2 (.t 4) (.t 14))])
 (.seq (.sem (.regd [sq 15 (.fieldA 0 (.t 4)),
sd 16 (.load none (.t 15)) [0],
zl 17 (.call 29 [(.t 16)]) [0,1] [],
sd 18 (.not (.t 17)) [0,1,2],
sd 19 (.mv (.t 18)) [0,1,2,3],
⟨(some 20),(some (19,false)),.fieldA 1 (.t 4),[0,1,2,3,4],(.new [])⟩,
⟨(some 21),(some (19,false)),.load none (.t 20),[0,1,2,3,4,5],(.new [])⟩,
⟨(some 22),(some (19,false)),.call 30 [(.t 21)],[0,1,2,3,4,5,6],(.lone [])⟩,
⟨(some 23),(some (19,false)),.not (.t 22),[0,1,2,3,4,5,6,7],(.new [])⟩,
zl 24 (.pick (.t 19) (kB true) (.t 23)) [0,1,2,3,4,5,6,7,8] [],
sd 25 (.mv (.t 24)) [0,1,2,3,4,5,6,7,8,9],
⟨(some 26),(some (25,false)),.mv (.t 3),[0,1,2,3,4,5,6,7,8,9,10],(.new [])⟩,
⟨(some 27),(some (25,false)),.bin .gtr (.t 26) (kI 0),[0,1,2,3,4,5,6,7,8,9,10,11],(.new [])⟩,
⟨(some 28),(some (25,false)),.mv (.t 27),[0,1,2,3,4,5,6,7,8,9,10,11,12],(.new [])⟩,
⟨(some 29),(some (28,true)),.fieldA 0 (.t 4),[0,1,2,3,4,5,6,7,8,9,10,11,12,13],(.new [])⟩,
⟨(some 30),(some (28,true)),.load none (.t 29),[0,1,2,3,4,5,6,7,8,9,10,11,12,13,14],(.new [])⟩,
⟨(some 31),(some (28,true)),.mv (.t 0),[0,1,2,3,4,5,6,7,8,9,10,11,12,13],(.new [])⟩,
⟨(some 32),(some (28,true)),.mv (.t 3),[0,1,2,3,4,5,6,7,8,9,10,11,12,13],(.new [])⟩,
⟨(some 33),(some (28,true)),.bin .sub (.t 32) (kI 1),[0,1,2,3,4,5,6,7,8,9,10,11,12,13,17],(.new [])⟩,
⟨(some 34),(some (28,true)),.indexA 2 (.t 31) (.t 33),[0,1,2,3,4,5,6,7,8,9,10,11,12,13,16,17,18],(.new [])⟩,
⟨(some 35),(some (28,true)),.fieldA 0 (.t 34),[0,1,2,3,4,5,6,7,8,9,10,11,12,13,16,17,18,19],(.new [])⟩,
⟨(some 36),(some (28,true)),.load none (.t 35),[0,1,2,3,4,5,6,7,8,9,10,11,12,13,16,17,18,19,20],(.new [])⟩,
⟨(some 37),(some (28,true)),.bin .leq (.t 30) (.t 36),[0,1,2,3,4,5,6,7,8,9,10,11,12,13,14,15,16,17,18,19,20,21],(.new [])⟩,
⟨(some 38),(some (25,false)),.pick (.t 28) (.t 37) (kB false),[0,1,2,3,4,5,6,7,8,9,10,11,12,13,14,15,16,17,18,19,20,21,22],(.lone [])⟩,
zl 39 (.pick (.t 25) (kB true) (.t 38)) [0,1,2,3,4,5,6,7,8,9,10,11,12,13,14,15,16,17,18,19,20,21,22,23] []]))
 (.cond (.t 39)
 (.seq (.reg [sq 2 (.mv (kB false))])
 .ret)
 .skip))))
 (.reg [sq 40 (.bin .add (.t 10) (kI 1)),
sq 10 (.mv (.t 40))]))))))))
 (.seq (.reg [sq 2 (.mv (kB true))])
 .ret))))⟩
theorem a13_ok:afn Try.prog 13=some a13.er:=by kernel_rfl
theorem F13_ok{x0 r}(h:F13 x0=some r):CallD Try.prog 13 [.c (dM (x0.map eLabel))] [] (tupV [.c (dB r)]) []:=by
 refine callS a13_ok (by simp[a13]) ?_
 rw[F13]at h
 simp only[a13,VW.down,Nat.reduceEqDiff,reduceCtorEq,Nat.reduceAdd,Nat.reduceLeDiff,Nat.reduceLT,Nat.reduceBEq,Nat.reduceSub,EE.down]
 refine condSh h (fun c1 h=>?_) (fun c1 h=>?_)
 ·refine ww ?_
  cases h
  exact eF []
 refine ww ?_
 obtain⟨o2,ho,h⟩:=bi h
 refine cutS (fun s=>∃po2,o2=Sum.inr po2∧s=⟨[],[]⟩) ?_ ?_
 ·have h0o2:=h
  have h:=ho
  clear ho
  obtain⟨_,hk,h⟩:=bi h
  have hk:=ck_some hk
  refine ww ?_
  refine bL (fun j s=>∃(o2_0:Nat),(o2_0≤x0.length∧j=x0.length-o2_0)∧s=⟨[(0,.one (.c (dM (x0.map eLabel)))),(8,.one (.c (dM (x0.map eLabel)))),(9,.one (.c (dI ((x0.length:Int))))),(10,.one (.c (dI ((o2_0:Int)))))],[]⟩∧F13_l2 x0 (x0.drop o2_0) o2_0=some o2) (x0.length-0) [] ⟨0,⟨hk.1,rfl⟩,rfl,h⟩ ?_
  rintro _ _ ⟨o2_0,⟨hi,rfl⟩,rfl,h⟩
  refine ww ?_
  refine condS (fun c3=>?_) (fun c3=>?_)
  ·obtain⟨xo2,hxo2,hd⟩:=countY (show(o2_0:Int)<(x0.length:Int)from c3)
   rw[hd,F13_l2]at h
   refine ww ?_
   refine t_idxF (enc:=eLabel) (xs:=x0) rfl rfl hxo2 rfl (ww ?_)
   obtain⟨o4,ho,h⟩:=bi h
   refine cutS (fun s=>s=⟨[(0,.one (.c (dM (x0.map eLabel)))),(8,.one (.c (dM (x0.map eLabel)))),(9,.one (.c (dI ((x0.length:Int))))),(10,.one (.c (dI ((o2_0:Int))))),(39,.one (.c (dB o4)))],[]⟩) ?_ ?_
   ·have h:=ho
    clear ho
    refine ww ?_
    obtain⟨t5,ht5,h⟩:=bi h
    refine cN [] (F29_ok ht5) trivial (ww ?_)
    refine guardDBh h (fun g6 h=>?_) (fun g6 h=>?_)
    ·refine ww ?_
     cases h
     exact eM [] rfl
    refine ww ?_
    obtain⟨t7,ht7,h⟩:=bi h
    refine cN [] (F30_ok ht7) trivial (ww ?_)
    refine guardDBh h (fun g8 h=>?_) (fun g8 h=>?_)
    ·refine ww ?_
     cases h
     exact eM [] rfl
    refine ww ?_
    refine guardDh h (fun g9 h=>?_) (fun g9 h=>?_)
    ·refine ww ?_
     obtain⟨y10,hy10,h⟩:=bi h
     refine t_idxF (enc:=eLabel) (xs:=x0) rfl rfl hy10 rfl (ww ?_)
     cases h
     exact eM [] rfl
    refine ww ?_
    cases h
    exact eM [] rfl
   rintro _ rfl
   clear ho
   refine ww ?_
   refine condBh h (fun c11 h=>?_) (fun c11 h=>?_)
   ·refine ww ?_
    obtain⟨fh0o2,hfh0o2,rfl⟩:=Option.map_eq_some_iff.1 h
    have h:=hfh0o2.trans h0o2
    cases h
    exact eF []
   refine ww ?_
   rw[wrapN (by omega)]
   exact eL' (x0.length-(o2_0+1)) [] ⟨o2_0+1,⟨by omega,rfl⟩,rfl,h⟩ (by omega)
  rw[countN (show¬((o2_0:Int)<(x0.length:Int))from c3),F13_l2]at h
  refine ww ?_
  cases h
  exact eM [] ⟨_,rfl,rfl⟩
 rintro _ ⟨po2,rfl,rfl⟩
 clear ho
 dsimp only at h
 refine ww ?_
 cases h
 exact eF []
end Go.Proofs.Ytadhmlfnfgpjjaa
