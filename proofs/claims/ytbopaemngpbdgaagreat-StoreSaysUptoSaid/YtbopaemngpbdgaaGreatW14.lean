/- Each Go function as a function over typed data, and its walk. -/
import Derived.Test.YtbopaemngpbdgaaGreatW0
import Derived.Test.YtbopaemngpbdgaaGreatW3
import Derived.Test.YtbopaemngpbdgaaGreatW7
namespace Go.Proofs.YtbopaemngpbdgaaGreat
open Go Go.Fw Go.Shelf
set_option maxRecDepth 100000
set_option maxHeartbeats 4000000
set_option linter.unusedSimpArgs false
set_option linter.unusedVariables false
def F6_l1(x0:(List TOp)):Nat→Int→Int→Option (Int)
 |0,_,_=>none
 |k+1,o1_0,o1_1=>(((if o1_1<(x0.length:Int)then some (decide (o1_1≤40))else some false)).bind fun o2=>(if o2=true then(rdI x0 o1_1).bind fun y5=>(F7 y5.O).bind fun t6=>F6_l1 x0 k ((IntKind.i64.wrap (o1_0+t6))) ((IntKind.i64.wrap (o1_1+1)))else some o1_0))
def F6(x0:(List TOp)):Option (Bool):=((F6_l1 x0 1099511627776 0 0).bind fun o1=>(((if(x0.length:Int)≤40 then some (decide (o1≤1500))else some false)).bind fun o7=>some o7))
def a6:AFn:=⟨30,[(.tmp 2)],
 (.seq (.reg [sq 2 (.mv (kB false))])
 (.seq (.reg [sq 3 (.mv (kI 0))])
 (.seq (.seq (.reg [sq 4 (.mv (kI 0))])
 (.sem (.block 0 (.loop (.seq (.seq (.sem (.reg [sq 5 (.mv (.t 4)),
sq 6 (.mv (.t 0)),
sq 7 (.len (.t 6)),
sq 8 (.bin .lss (.t 5) (.t 7)),
sq 9 (.mv (.t 8)),
zg 10 9 true (.mv (.t 4)),
zg 11 9 true (.bin .leq (.t 10) (kI 40)),
zl 12 (.pick (.t 9) (.t 11) (kB false)) [] [6]]))
 (.cond (.t 12)
 .skip
 (.exit 0)))
 (.seq (.block 1 (.reg [sq 15 (.mv (.t 3)),
sq 16 (.mv (.t 0)),
sq 17 (.mv (.t 4)),
sq 18 (.indexA 28 (.t 16) (.t 17)),
sq 19 (.fieldA 1 (.t 18)),
sq 20 (.load (some 23) (.t 19)),
sq 21 (.call 7 [(.t 20)]),
sq 22 (.bin .add (.t 15) (.t 21)),
sq 3 (.mv (.t 22))]))
 (.reg [sq 13 (.mv (.t 4)),
sq 14 (.bin .add (.t 13) (kI 1)),
sq 4 (.mv (.t 14))])))))))
 (.seq (.sem (.reg [sq 23 (.mv (.t 0)),
sq 24 (.len (.t 23)),
sq 25 (.bin .leq (.t 24) (kI 40)),
sq 26 (.mv (.t 25)),
zg 27 26 true (.mv (.t 3)),
zg 28 26 true (.bin .leq (.t 27) (kI 1500)),
sq 29 (.pick (.t 26) (.t 28) (kB false)),
sq 2 (.mv (.t 29))]))
 .ret))))⟩
theorem F6_ok{x0 r}(h:F6 x0=some r):CallD Tryz.prog 6 [.c (dM (x0.map eTOp))] [] (tupV [.c (dB r)]) []:=by
 rw[F6]at h
 refine zc a6 (by kernel_rfl) rfl (ww ?_)
 obtain⟨o1,ho,h⟩:=bi h
 refine cutS (fun s=>s=⟨[(0,.one (.c (dM (x0.map eTOp)))),(3,.one (.c (dI o1)))],[]⟩) ?_ ?_
 ·have h:=ho
  clear ho
  refine ww ?_
  refine bL (fun j s=>∃(o1_0:Int) (o1_1:Int),s=⟨[(0,.one (.c (dM (x0.map eTOp)))),(3,.one (.c (dI o1_0))),(4,.one (.c (dI o1_1)))],[]⟩∧F6_l1 x0 j o1_0 o1_1=some o1) 1099511627776 [] ⟨0,0,rfl,h⟩ ?_
  rintro j _ ⟨o1_0,o1_1,rfl,h⟩
  cases j with
  |zero=>cases(show(none:Option _)=some _ from h)
  |succ j=>
   rw[F6_l1]at h
   refine ww ?_
   obtain⟨o2,ho,h⟩:=bi h
   refine cutS (fun s=>s=⟨[(0,.one (.c (dM (x0.map eTOp)))),(3,.one (.c (dI o1_0))),(4,.one (.c (dI o1_1))),(12,.one (.c (dB o2)))],[]⟩) ?_ ?_
   ·have h:=ho
    clear ho
    refine ww ?_
    refine guardSh h (fun g3 h=>?_) (fun g3 h=>?_)
    ·refine ww ?_
     cases h
     exact eM [] rfl
    ·refine ww ?_
     cases h
     exact eM [] rfl
   ·rintro _ rfl
    clear ho
    refine ww ?_
    refine condBh h (fun c4 h=>?_) (fun c4 h=>?_)
    ·refine ww ?_
     obtain⟨y5,hy5,h⟩:=bi h
     refine t_idxF (enc:=eTOp) (xs:=x0) rfl rfl hy5 rfl (ww ?_)
     obtain⟨t6,ht6,h⟩:=bi h
     refine cN [] (F7_ok ht6) trivial (ww ?_)
     exact eL' j [] ⟨(IntKind.i64.wrap (o1_0+t6)),(IntKind.i64.wrap (o1_1+1)),rfl,h⟩ (Nat.lt_succ_self _)
    ·refine ww ?_
     cases h
     exact eM [] rfl
 rintro _ rfl
 clear ho
 refine ww ?_
 obtain⟨o7,ho,h⟩:=bi h
 refine cutS (fun s=>s=⟨[(2,.one (.c (dB o7)))],[]⟩) ?_ ?_
 ·have h:=ho
  clear ho
  refine ww ?_
  refine guardSh h (fun g8 h=>?_) (fun g8 h=>?_)
  ·refine ww ?_
   cases h
   exact eM [] rfl
  refine ww ?_
  cases h
  exact eM [] rfl
 rintro _ rfl
 clear ho
 refine ww ?_
 cases h
 exact eF []
def F21:Option (Unit):=some (())
def a21:AFn:=⟨2,[(.cell 0 (some 6))],
 (.seq (.reg [zl 0 (.zbox [dI 0,dI 0,dI 0,dN,dN,dN]) [] []])
 (.seq (.reg [sq 1 (.build [dI 0,dI 0,dI 0,dN,dN,dN] [(2,1,(kI 1))]),
su (.store 6 (.t 0) (.t 1))])
 .ret))⟩
theorem F21_ok{r}(h:F21=some r):CallD Tryz.prog 21 [] [] (tupV [.agg [dI 0,dI 0,dI 1,dM (([]:List Object).map eObject),dM (([]:List Object).map eObject),dM (([]:List Change).map eChange)]]) []:=by
 rw[F21]at h
 refine zc a21 (by kernel_rfl) rfl (ww ?_)
 cases h
 exact eF []
def F15_l10(x1:TStore):List Change→Nat→Option ((Bool) ⊕ (Unit))
 |[],o10_0=>some (Sum.inr (()))
 |xo10::xs,o10_0=>(((rdI x1.History ((o10_0:Int))).bind fun y13=>(if¬(xo10.Rev=y13.Rev)then some true else(if¬(xo10.Kind=y13.Kind)then some true else(F24 xo10.Object y13.Object).bind fun t16=>some (nb t16)))).bind fun o12=>(if o12=true then(some false).map Sum.inl else F15_l10 x1 xs (o10_0+1)))
def F15(x0:TStore)(x1:TStore):Option (Bool):=(((if¬(x0.Rev=x1.Rev)then some true else(if¬(x0.Floor=x1.Floor)then some true else(if¬(x0.NextUid=x1.NextUid)then some true else(if¬((x0.History.length:Int)=(x1.History.length:Int))then some true else(F27 x0.Base x1.Base).bind fun t6=>(if(nb t6)=true then some true else(F27 x0.Objects x1.Objects).bind fun t8=>some (nb t8))))))).bind fun o1=>(if o1=true then some false else(((ck (0≤x0.History.length∧x0.History.length≤4294967290)).bind fun u18=>F15_l10 x1 x0.History 0:Option ((Bool) ⊕ (Unit))).bind fun o10=>match o10 with|Sum.inl f=>some f|Sum.inr po10=>some true)))
def a15:AFn:=⟨101,[(.tmp 4)],
 (.seq (.reg [sq 2 (.box (.t 0)),
sq 3 (.box (.t 1)),
sq 4 (.mv (kB false))])
 (.seq (.seq (.sem (.reg [sq 6 (.fieldA 0 (.t 2)),
sq 7 (.load none (.t 6)),
sq 8 (.fieldA 0 (.t 3)),
sq 9 (.load none (.t 8)),
sq 10 (.bin .neq (.t 7) (.t 9)),
sq 11 (.mv (.t 10)),
zg 12 11 false (.fieldA 1 (.t 2)),
zg 13 11 false (.load none (.t 12)),
zg 14 11 false (.fieldA 1 (.t 3)),
zg 15 11 false (.load none (.t 14)),
zg 16 11 false (.bin .neq (.t 13) (.t 15)),
sq 17 (.pick (.t 11) (kB true) (.t 16)),
sq 18 (.mv (.t 17)),
zg 19 18 false (.fieldA 2 (.t 2)),
zg 20 18 false (.load none (.t 19)),
zg 21 18 false (.fieldA 2 (.t 3)),
zg 22 18 false (.load none (.t 21)),
zg 23 18 false (.bin .neq (.t 20) (.t 22)),
sq 24 (.pick (.t 18) (kB true) (.t 23)),
sq 25 (.mv (.t 24)),
zg 26 25 false (.fieldA 5 (.t 2)),
zg 27 25 false (.load none (.t 26)),
zg 28 25 false (.len (.t 27)),
zg 29 25 false (.fieldA 5 (.t 3)),
zg 30 25 false (.load none (.t 29)),
zg 31 25 false (.len (.t 30)),
zg 32 25 false (.bin .neq (.t 28) (.t 31)),
sq 33 (.pick (.t 25) (kB true) (.t 32)),
sq 34 (.mv (.t 33)),
zg 35 34 false (.fieldA 3 (.t 2)),
zg 36 34 false (.load none (.t 35)),
zg 37 34 false (.fieldA 3 (.t 3)),
zg 38 34 false (.load none (.t 37)),
zg 39 34 false (.call 27 [(.t 36),(.t 38)]),
zg 40 34 false (.not (.t 39)),
sq 41 (.pick (.t 34) (kB true) (.t 40)),
sq 42 (.mv (.t 41)),
zg 43 42 false (.fieldA 4 (.t 2)),
zg 44 42 false (.load none (.t 43)),
zg 45 42 false (.fieldA 4 (.t 3)),
zg 46 42 false (.load none (.t 45)),
zg 47 42 false (.call 27 [(.t 44),(.t 46)]),
zg 48 42 false (.not (.t 47)),
sq 49 (.pick (.t 42) (kB true) (.t 48))]))
 (.cond (.t 49)
 (.seq (.reg [sq 4 (.mv (kB false))])
 .ret)
 .skip))
 (.seq (.seq (.reg [sq 5 (.mv (kI 0))])
 (.sem (.block 0 (.loop (.seq (.seq (.reg [sq 50 (.mv (.t 5)),
sq 51 (.fieldA 5 (.t 2)),
sq 52 (.load none (.t 51)),
sq 53 (.len (.t 52)),
sq 54 (.bin .lss (.t 50) (.t 53))])
 (.cond (.t 54)
 .skip
 (.exit 0)))
 (.seq (.block 1 (.seq (.sem (.regd [sq 57 (.fieldA 5 (.t 2)),
sd 58 (.load none (.t 57)) [0],
sq 59 (.mv (.t 5)),
sd 60 (.indexA 25 (.t 58) (.t 59)) [0,1,2],
sd 61 (.fieldA 0 (.t 60)) [0,1,2,3],
sd 62 (.load none (.t 61)) [0,1,2,3,4],
sq 63 (.fieldA 5 (.t 3)),
sd 64 (.load none (.t 63)) [6],
sq 65 (.mv (.t 5)),
sd 66 (.indexA 25 (.t 64) (.t 65)) [6,7,8],
sd 67 (.fieldA 0 (.t 66)) [6,7,8,9],
sd 68 (.load none (.t 67)) [6,7,8,9,10],
sd 69 (.bin .neq (.t 62) (.t 68)) [0,1,2,3,4,5,6,7,8,9,10,11],
sd 70 (.mv (.t 69)) [0,1,2,3,4,5,6,7,8,9,10,11,12],
⟨(some 71),(some (70,false)),.fieldA 5 (.t 2),[0,1,2,3,4,5,6,7,8,9,10,11,12,13],(.new [])⟩,
⟨(some 72),(some (70,false)),.load none (.t 71),[0,1,2,3,4,5,6,7,8,9,10,11,12,13,14],(.new [])⟩,
⟨(some 73),(some (70,false)),.mv (.t 5),[0,1,2,3,4,5,6,7,8,9,10,11,12,13],(.new [])⟩,
⟨(some 74),(some (70,false)),.indexA 25 (.t 72) (.t 73),[0,1,2,3,4,5,6,7,8,9,10,11,12,13,14,15,16],(.new [])⟩,
⟨(some 75),(some (70,false)),.fieldA 1 (.t 74),[0,1,2,3,4,5,6,7,8,9,10,11,12,13,14,15,16,17],(.new [])⟩,
⟨(some 76),(some (70,false)),.load none (.t 75),[0,1,2,3,4,5,6,7,8,9,10,11,12,13,14,15,16,17,18],(.new [])⟩,
⟨(some 77),(some (70,false)),.fieldA 5 (.t 3),[0,1,2,3,4,5,6,7,8,9,10,11,12,13],(.new [])⟩,
⟨(some 78),(some (70,false)),.load none (.t 77),[0,1,2,3,4,5,6,7,8,9,10,11,12,13,20],(.new [])⟩,
⟨(some 79),(some (70,false)),.mv (.t 5),[0,1,2,3,4,5,6,7,8,9,10,11,12,13],(.new [])⟩,
⟨(some 80),(some (70,false)),.indexA 25 (.t 78) (.t 79),[0,1,2,3,4,5,6,7,8,9,10,11,12,13,20,21,22],(.new [])⟩,
⟨(some 81),(some (70,false)),.fieldA 1 (.t 80),[0,1,2,3,4,5,6,7,8,9,10,11,12,13,20,21,22,23],(.new [])⟩,
⟨(some 82),(some (70,false)),.load none (.t 81),[0,1,2,3,4,5,6,7,8,9,10,11,12,13,20,21,22,23,24],(.new [])⟩,
⟨(some 83),(some (70,false)),.bin .neq (.t 76) (.t 82),[0,1,2,3,4,5,6,7,8,9,10,11,12,13,14,15,16,17,18,19,20,21,22,23,24,25],(.new [])⟩,
zl 84 (.pick (.t 70) (kB true) (.t 83)) [0,1,2,3,4,5,6,7,8,9,10,11,12,13,14,15,16,17,18,19,20,21,22,23,24,25,26] [],
sd 85 (.mv (.t 84)) [0,1,2,3,4,5,6,7,8,9,10,11,12,13,14,15,16,17,18,19,20,21,22,23,24,25,26,27],
⟨(some 86),(some (85,false)),.fieldA 5 (.t 2),[0,1,2,3,4,5,6,7,8,9,10,11,12,13,14,15,16,17,18,19,20,21,22,23,24,25,26,27,28],(.new [])⟩,
⟨(some 87),(some (85,false)),.load none (.t 86),[0,1,2,3,4,5,6,7,8,9,10,11,12,13,14,15,16,17,18,19,20,21,22,23,24,25,26,27,28,29],(.new [])⟩,
⟨(some 88),(some (85,false)),.mv (.t 5),[0,1,2,3,4,5,6,7,8,9,10,11,12,13,14,15,16,17,18,19,20,21,22,23,24,25,26,27,28],(.new [])⟩,
⟨(some 89),(some (85,false)),.indexA 25 (.t 87) (.t 88),[0,1,2,3,4,5,6,7,8,9,10,11,12,13,14,15,16,17,18,19,20,21,22,23,24,25,26,27,28,29,30,31],(.new [])⟩,
⟨(some 90),(some (85,false)),.fieldA 2 (.t 89),[0,1,2,3,4,5,6,7,8,9,10,11,12,13,14,15,16,17,18,19,20,21,22,23,24,25,26,27,28,29,30,31,32],(.new [])⟩,
⟨(some 91),(some (85,false)),.load (some 23) (.t 90),[0,1,2,3,4,5,6,7,8,9,10,11,12,13,14,15,16,17,18,19,20,21,22,23,24,25,26,27,28,29,30,31,32,33],(.new [])⟩,
⟨(some 92),(some (85,false)),.fieldA 5 (.t 3),[0,1,2,3,4,5,6,7,8,9,10,11,12,13,14,15,16,17,18,19,20,21,22,23,24,25,26,27,28],(.new [])⟩,
⟨(some 93),(some (85,false)),.load none (.t 92),[0,1,2,3,4,5,6,7,8,9,10,11,12,13,14,15,16,17,18,19,20,21,22,23,24,25,26,27,28,35],(.new [])⟩,
⟨(some 94),(some (85,false)),.mv (.t 5),[0,1,2,3,4,5,6,7,8,9,10,11,12,13,14,15,16,17,18,19,20,21,22,23,24,25,26,27,28],(.new [])⟩,
⟨(some 95),(some (85,false)),.indexA 25 (.t 93) (.t 94),[0,1,2,3,4,5,6,7,8,9,10,11,12,13,14,15,16,17,18,19,20,21,22,23,24,25,26,27,28,35,36,37],(.new [])⟩,
⟨(some 96),(some (85,false)),.fieldA 2 (.t 95),[0,1,2,3,4,5,6,7,8,9,10,11,12,13,14,15,16,17,18,19,20,21,22,23,24,25,26,27,28,35,36,37,38],(.new [])⟩,
⟨(some 97),(some (85,false)),.load (some 23) (.t 96),[0,1,2,3,4,5,6,7,8,9,10,11,12,13,14,15,16,17,18,19,20,21,22,23,24,25,26,27,28,35,36,37,38,39],(.new [])⟩,
⟨(some 98),(some (85,false)),.call 24 [(.t 91),(.t 97)],[0,1,2,3,4,5,6,7,8,9,10,11,12,13,14,15,16,17,18,19,20,21,22,23,24,25,26,27,28,29,30,31,32,33,34,35,36,37,38,39,40],(.lone [])⟩,
⟨(some 99),(some (85,false)),.not (.t 98),[0,1,2,3,4,5,6,7,8,9,10,11,12,13,14,15,16,17,18,19,20,21,22,23,24,25,26,27,28,29,30,31,32,33,34,35,36,37,38,39,40,41],(.new [])⟩,
zl 100 (.pick (.t 85) (kB true) (.t 99)) [0,1,2,3,4,5,6,7,8,9,10,11,12,13,14,15,16,17,18,19,20,21,22,23,24,25,26,27,28,29,30,31,32,33,34,35,36,37,38,39,40,41,42] []]))
 (.cond (.t 100)
 (.seq (.reg [sq 4 (.mv (kB false))])
 .ret)
 .skip)))
 (.reg [sq 55 (.mv (.t 5)),
sq 56 (.bin .add (.t 55) (kI 1)),
sq 5 (.mv (.t 56))])))))))
 (.seq (.reg [sq 4 (.mv (kB true))])
 .ret))))⟩
theorem F15_ok{x0 x1 r}(h:F15 x0 x1=some r):CallD Tryz.prog 15 [.agg [dI x0.Rev,dI x0.Floor,dI x0.NextUid,dM (x0.Base.map eObject),dM (x0.Objects.map eObject),dM (x0.History.map eChange)],.agg [dI x1.Rev,dI x1.Floor,dI x1.NextUid,dM (x1.Base.map eObject),dM (x1.Objects.map eObject),dM (x1.History.map eChange)]] [] (tupV [.c (dB r)]) []:=by
 rw[F15]at h
 refine zc a15 (by kernel_rfl) rfl (ww ?_)
 obtain⟨o1,ho,h⟩:=bi h
 refine cutS (fun s=>s=⟨[(2,.one (.c (.pt 0 0))),(3,.one (.c (.pt 1 0))),(49,.one (.c (dB o1)))],[some (.box [dI x0.Rev,dI x0.Floor,dI x0.NextUid,dM (x0.Base.map eObject),dM (x0.Objects.map eObject),dM (x0.History.map eChange)]),some (.box [dI x1.Rev,dI x1.Floor,dI x1.NextUid,dM (x1.Base.map eObject),dM (x1.Objects.map eObject),dM (x1.History.map eChange)])]⟩) ?_ ?_
 ·have h:=ho
  clear ho
  refine ww ?_
  refine guardSh h (fun g2 h=>?_) (fun g2 h=>?_)
  ·refine ww ?_
   cases h
   exact eM [some 0,some 1] rfl
  refine ww ?_
  refine guardSh h (fun g3 h=>?_) (fun g3 h=>?_)
  ·refine ww ?_
   cases h
   exact eM [some 0,some 1] rfl
  refine ww ?_
  refine guardSh h (fun g4 h=>?_) (fun g4 h=>?_)
  ·refine ww ?_
   cases h
   exact eM [some 0,some 1] rfl
  refine ww ?_
  refine guardSh h (fun g5 h=>?_) (fun g5 h=>?_)
  ·refine ww ?_
   cases h
   exact eM [some 0,some 1] rfl
  refine ww ?_
  obtain⟨t6,ht6,h⟩:=bi h
  refine cN [] (F27_ok ht6) trivial (ww ?_)
  refine guardSBh h (fun g7 h=>?_) (fun g7 h=>?_)
  ·refine ww ?_
   cases h
   exact eM [some 0,some 1] rfl
  refine ww ?_
  obtain⟨t8,ht8,h⟩:=bi h
  refine cN [] (F27_ok ht8) trivial (ww ?_)
  cases h
  exact eM [some 0,some 1] rfl
 rintro _ rfl
 clear ho
 refine ww ?_
 refine condBh h (fun c9 h=>?_) (fun c9 h=>?_)
 ·refine ww ?_
  cases h
  exact eF []
 refine ww ?_
 obtain⟨o10,ho,h⟩:=bi h
 refine cutS (fun s=>∃po10,o10=Sum.inr po10∧s=⟨[],[]⟩) ?_ ?_
 ·have h0o10:=h
  have h:=ho
  clear ho
  obtain⟨_,hk,h⟩:=bi h
  have hk:=ck_some hk
  refine ww ?_
  refine bL (fun j s=>∃(o10_0:Nat),(o10_0≤x0.History.length∧j=x0.History.length-o10_0)∧s=⟨[(2,.one (.c (.pt 0 0))),(3,.one (.c (.pt 1 0))),(5,.one (.c (dI ((o10_0:Int)))))],[some (.box [dI x0.Rev,dI x0.Floor,dI x0.NextUid,dM (x0.Base.map eObject),dM (x0.Objects.map eObject),dM (x0.History.map eChange)]),some (.box [dI x1.Rev,dI x1.Floor,dI x1.NextUid,dM (x1.Base.map eObject),dM (x1.Objects.map eObject),dM (x1.History.map eChange)])]⟩∧F15_l10 x1 (x0.History.drop o10_0) o10_0=some o10) (x0.History.length-0) [some 0,some 1] ⟨0,⟨hk.1,rfl⟩,rfl,h⟩ ?_
  rintro _ _ ⟨o10_0,⟨hi,rfl⟩,rfl,h⟩
  refine ww ?_
  refine condS (fun c11=>?_) (fun c11=>?_)
  ·obtain⟨xo10,hxo10,hd⟩:=countY (show(o10_0:Int)<(x0.History.length:Int)from c11)
   rw[hd,F15_l10]at h
   refine ww ?_
   obtain⟨o12,ho,h⟩:=bi h
   refine cutS (fun s=>s=⟨[(2,.one (.c (.pt 0 0))),(3,.one (.c (.pt 1 0))),(5,.one (.c (dI ((o10_0:Int))))),(100,.one (.c (dB o12)))],[some (.box [dI x0.Rev,dI x0.Floor,dI x0.NextUid,dM (x0.Base.map eObject),dM (x0.Objects.map eObject),dM (x0.History.map eChange)]),some (.box [dI x1.Rev,dI x1.Floor,dI x1.NextUid,dM (x1.Base.map eObject),dM (x1.Objects.map eObject),dM (x1.History.map eChange)])]⟩) ?_ ?_
   ·have h:=ho
    clear ho
    refine ww ?_
    refine t_idxF (enc:=eChange) (xs:=x0.History) rfl rfl hxo10 rfl (ww ?_)
    obtain⟨y13,hy13,h⟩:=bi h
    refine t_idxF (enc:=eChange) (xs:=x1.History) rfl rfl hy13 rfl (ww ?_)
    refine guardDh h (fun g14 h=>?_) (fun g14 h=>?_)
    ·refine ww ?_
     cases h
     exact eM [some 0,some 1] rfl
    refine ww ?_
    refine t_idxF (enc:=eChange) (xs:=x0.History) rfl rfl hxo10 rfl (ww ?_)
    refine t_idxF (enc:=eChange) (xs:=x1.History) rfl rfl hy13 rfl (ww ?_)
    refine guardDh h (fun g15 h=>?_) (fun g15 h=>?_)
    ·refine ww ?_
     cases h
     exact eM [some 0,some 1] rfl
    refine ww ?_
    refine t_idxF (enc:=eChange) (xs:=x0.History) rfl rfl hxo10 rfl (ww ?_)
    refine t_idxF (enc:=eChange) (xs:=x1.History) rfl rfl hy13 rfl (ww ?_)
    obtain⟨t16,ht16,h⟩:=bi h
    refine cN [] (F24_ok ht16) trivial (ww ?_)
    cases h
    exact eM [some 0,some 1] rfl
   rintro _ rfl
   clear ho
   refine ww ?_
   refine condBh h (fun c17 h=>?_) (fun c17 h=>?_)
   ·refine ww ?_
    obtain⟨fh0o10,hfh0o10,rfl⟩:=Option.map_eq_some_iff.1 h
    have h:=hfh0o10.trans h0o10
    cases h
    exact eF []
   refine ww ?_
   rw[wrapN (by omega)]
   exact eL' (x0.History.length-(o10_0+1)) [some 0,some 1] ⟨o10_0+1,⟨by omega,rfl⟩,rfl,h⟩ (by omega)
  rw[countN (show¬((o10_0:Int)<(x0.History.length:Int))from c11),F15_l10]at h
  refine ww ?_
  cases h
  exact eM [] ⟨_,rfl,rfl⟩
 rintro _ ⟨po10,rfl,rfl⟩
 clear ho
 dsimp only at h
 refine ww ?_
 cases h
 exact eF []
def F148_l1(x1:ByteArray):List Label→Nat→Option ((ByteArray×Bool) ⊕ (Unit))
 |[],o1_0=>some (Sum.inr (()))
 |xo1::xs,o1_0=>(if xo1.Key=x1 then(some ((xo1.Value,true))).map Sum.inl else F148_l1 x1 xs (o1_0+1))
def F148(x0:(List Label))(x1:ByteArray):Option (ByteArray×Bool):=(((ck (0≤x0.length∧x0.length≤4294967290)).bind fun u4=>F148_l1 x1 x0 0:Option ((ByteArray×Bool) ⊕ (Unit))).bind fun o1=>match o1 with|Sum.inl f=>some f|Sum.inr po1=>some (((⟨#[]⟩:ByteArray),false)))
def a148:AFn:=⟨25,[(.tmp 4),(.tmp 5)],
 (.seq (.reg [sq 4 (.mv (kS ⟨#[]⟩)),
sq 5 (.mv (kB false))])
 (.seq (.seq (.reg [sq 6 (.mv (kI 0))])
 (.sem (.block 0 (.loop (.seq (.seq (.reg [sq 7 (.mv (.t 6)),
sq 8 (.mv (.t 0)),
sq 9 (.len (.t 8)),
sq 10 (.bin .lss (.t 7) (.t 9))])
 (.cond (.t 10)
 .skip
 (.exit 0)))
 (.seq (.block 1 (.seq (.reg [sq 13 (.mv (.t 0)),
sq 14 (.mv (.t 6)),
sq 15 (.indexA 2 (.t 13) (.t 14)),
sq 16 (.fieldA 0 (.t 15)),
sq 17 (.load none (.t 16)),
sq 18 (.mv (.t 1)),
sq 19 (.bin .eql (.t 17) (.t 18))])
 (.cond (.t 19)
 (.seq (.reg [sq 20 (.mv (.t 0)),
sq 21 (.mv (.t 6)),
sq 22 (.indexA 2 (.t 20) (.t 21)),
sq 23 (.fieldA 1 (.t 22)),
sq 24 (.load none (.t 23)),
sq 4 (.mv (.t 24)),
sq 5 (.mv (kB true))])
 .ret)
 .skip)))
 (.reg [sq 11 (.mv (.t 6)),
sq 12 (.bin .add (.t 11) (kI 1)),
sq 6 (.mv (.t 12))])))))))
 (.seq (.reg [sq 4 (.mv (kS ⟨#[]⟩)),
sq 5 (.mv (kB false))])
 .ret)))⟩
theorem F148_ok{x0 x1 r}(h:F148 x0 x1=some r):CallD Tryz.prog 148 [.c (dM (x0.map eLabel)),.c (dS x1)] [] (tupV [.c (dS r.1),.c (dB r.2)]) []:=by
 rw[F148]at h
 refine zc a148 (by kernel_rfl) rfl (ww ?_)
 obtain⟨o1,ho,h⟩:=bi h
 refine cutS (fun s=>∃po1,o1=Sum.inr po1∧s=⟨[],[]⟩) ?_ ?_
 ·have h0o1:=h
  have h:=ho
  clear ho
  obtain⟨_,hk,h⟩:=bi h
  have hk:=ck_some hk
  refine ww ?_
  refine bL (fun j s=>∃(o1_0:Nat),(o1_0≤x0.length∧j=x0.length-o1_0)∧s=⟨[(0,.one (.c (dM (x0.map eLabel)))),(1,.one (.c (dS x1))),(6,.one (.c (dI ((o1_0:Int)))))],[]⟩∧F148_l1 x1 (x0.drop o1_0) o1_0=some o1) (x0.length-0) [] ⟨0,⟨hk.1,rfl⟩,rfl,h⟩ ?_
  rintro _ _ ⟨o1_0,⟨hi,rfl⟩,rfl,h⟩
  refine ww ?_
  refine condS (fun c2=>?_) (fun c2=>?_)
  ·obtain⟨xo1,hxo1,hd⟩:=countY (show(o1_0:Int)<(x0.length:Int)from c2)
   rw[hd,F148_l1]at h
   refine ww ?_
   refine t_idxF (enc:=eLabel) (xs:=x0) rfl rfl hxo1 rfl (ww ?_)
   refine condSh h (fun c3 h=>?_) (fun c3 h=>?_)
   ·refine ww ?_
    refine t_idxF (enc:=eLabel) (xs:=x0) rfl rfl hxo1 rfl (ww ?_)
    obtain⟨fh0o1,hfh0o1,rfl⟩:=Option.map_eq_some_iff.1 h
    have h:=hfh0o1.trans h0o1
    cases h
    exact eF []
   refine ww ?_
   rw[wrapN (by omega)]
   exact eL' (x0.length-(o1_0+1)) [] ⟨o1_0+1,⟨by omega,rfl⟩,rfl,h⟩ (by omega)
  rw[countN (show¬((o1_0:Int)<(x0.length:Int))from c2),F148_l1]at h
  refine ww ?_
  cases h
  exact eM [] ⟨_,rfl,rfl⟩
 rintro _ ⟨po1,rfl,rfl⟩
 clear ho
 dsimp only at h
 refine ww ?_
 cases h
 exact eF []
def F149_l1(x1:ByteArray):List ByteArray→Nat→Option ((Bool) ⊕ (Unit))
 |[],o1_0=>some (Sum.inr (()))
 |xo1::xs,o1_0=>(if xo1=x1 then(some true).map Sum.inl else F149_l1 x1 xs (o1_0+1))
def F149(x0:(List ByteArray))(x1:ByteArray):Option (Bool):=(((ck (0≤x0.length∧x0.length≤4294967290)).bind fun u4=>F149_l1 x1 x0 0:Option ((Bool) ⊕ (Unit))).bind fun o1=>match o1 with|Sum.inl f=>some f|Sum.inr po1=>some false)
def a149:AFn:=⟨18,[(.tmp 4)],
 (.seq (.reg [sq 4 (.mv (kB false))])
 (.seq (.seq (.reg [sq 5 (.mv (kI 0))])
 (.sem (.block 0 (.loop (.seq (.seq (.reg [sq 6 (.mv (.t 5)),
sq 7 (.mv (.t 0)),
sq 8 (.len (.t 7)),
sq 9 (.bin .lss (.t 6) (.t 8))])
 (.cond (.t 9)
 .skip
 (.exit 0)))
 (.seq (.block 1 (.seq (.reg [sq 12 (.mv (.t 0)),
sq 13 (.mv (.t 5)),
sq 14 (.indexA 1 (.t 12) (.t 13)),
sq 15 (.load none (.t 14)),
sq 16 (.mv (.t 1)),
sq 17 (.bin .eql (.t 15) (.t 16))])
 (.cond (.t 17)
 (.seq (.reg [sq 4 (.mv (kB true))])
 .ret)
 .skip)))
 (.reg [sq 10 (.mv (.t 5)),
sq 11 (.bin .add (.t 10) (kI 1)),
sq 5 (.mv (.t 11))])))))))
 (.seq (.reg [sq 4 (.mv (kB false))])
 .ret)))⟩
theorem F149_ok{x0 x1 r}(h:F149 x0 x1=some r):CallD Tryz.prog 149 [.c (dM (x0.map eS)),.c (dS x1)] [] (tupV [.c (dB r)]) []:=by
 rw[F149]at h
 refine zc a149 (by kernel_rfl) rfl (ww ?_)
 obtain⟨o1,ho,h⟩:=bi h
 refine cutS (fun s=>∃po1,o1=Sum.inr po1∧s=⟨[],[]⟩) ?_ ?_
 ·have h0o1:=h
  have h:=ho
  clear ho
  obtain⟨_,hk,h⟩:=bi h
  have hk:=ck_some hk
  refine ww ?_
  refine bL (fun j s=>∃(o1_0:Nat),(o1_0≤x0.length∧j=x0.length-o1_0)∧s=⟨[(0,.one (.c (dM (x0.map eS)))),(1,.one (.c (dS x1))),(5,.one (.c (dI ((o1_0:Int)))))],[]⟩∧F149_l1 x1 (x0.drop o1_0) o1_0=some o1) (x0.length-0) [] ⟨0,⟨hk.1,rfl⟩,rfl,h⟩ ?_
  rintro _ _ ⟨o1_0,⟨hi,rfl⟩,rfl,h⟩
  refine ww ?_
  refine condS (fun c2=>?_) (fun c2=>?_)
  ·obtain⟨xo1,hxo1,hd⟩:=countY (show(o1_0:Int)<(x0.length:Int)from c2)
   rw[hd,F149_l1]at h
   refine ww ?_
   refine t_idxF (enc:=eS) (xs:=x0) rfl rfl hxo1 rfl (ww ?_)
   refine condSh h (fun c3 h=>?_) (fun c3 h=>?_)
   ·refine ww ?_
    obtain⟨fh0o1,hfh0o1,rfl⟩:=Option.map_eq_some_iff.1 h
    have h:=hfh0o1.trans h0o1
    cases h
    exact eF []
   refine ww ?_
   rw[wrapN (by omega)]
   exact eL' (x0.length-(o1_0+1)) [] ⟨o1_0+1,⟨by omega,rfl⟩,rfl,h⟩ (by omega)
  rw[countN (show¬((o1_0:Int)<(x0.length:Int))from c2),F149_l1]at h
  refine ww ?_
  cases h
  exact eM [] ⟨_,rfl,rfl⟩
 rintro _ ⟨po1,rfl,rfl⟩
 clear ho
 dsimp only at h
 refine ww ?_
 cases h
 exact eF []
def F141(x0:Requirement)(x1:(List Label)):Option (Bool):=(F148 x1 x0.Key).bind fun t1=>(if x0.Op=1 then(((if t1.2=true then(F149 x0.Values t1.1).bind fun t5=>some t5 else some false)).bind fun o3=>some o3)else(if x0.Op=2 then(((if(nb t1.2)=true then some true else(F149 x0.Values t1.1).bind fun t9=>some (nb t9))).bind fun o7=>some o7)else(((if x0.Op=3 then(if t1.2=true then some true else(if x0.Op=4 then some (nb t1.2)else some false))else(if x0.Op=4 then some (nb t1.2)else some false))).bind fun o10=>some o10)))
def a141:AFn:=⟨51,[(.tmp 4)],
 (.seq (.reg [sq 2 (.box (.t 0)),
sq 4 (.mv (kB false))])
 (.seq (.reg [sq 8 (.mv (.t 1)),
sq 9 (.fieldA 0 (.t 2)),
sq 10 (.load none (.t 9)),
sq 11 (.call 148 [(.t 8),(.t 10)]),
sq 7 (.mv (.t 11)),
sq 12 (.ext (.t 7) 0),
sq 13 (.ext (.t 7) 1),
sq 5 (.mv (.t 12)),
sq 6 (.mv (.t 13))])
 (.seq (.seq (.reg [sq 14 (.fieldA 1 (.t 2)),
sq 15 (.load none (.t 14)),
sq 16 (.bin .eql (.t 15) (kI 1))])
 (.cond (.t 16)
 (.seq (.sem (.reg [sq 17 (.mv (.t 6)),
sq 18 (.mv (.t 17)),
zg 19 18 true (.fieldA 2 (.t 2)),
zg 20 18 true (.load none (.t 19)),
zg 21 18 true (.mv (.t 5)),
zg 22 18 true (.call 149 [(.t 20),(.t 21)]),
sq 23 (.pick (.t 18) (.t 22) (kB false)),
sq 4 (.mv (.t 23))]))
 .ret)
 .skip))
 (.seq (.seq (.reg [sq 24 (.fieldA 1 (.t 2)),
sq 25 (.load none (.t 24)),
sq 26 (.bin .eql (.t 25) (kI 2))])
 (.cond (.t 26)
 (.seq (.sem (.reg [sq 27 (.mv (.t 6)),
sq 28 (.not (.t 27)),
sq 29 (.mv (.t 28)),
zg 30 29 false (.fieldA 2 (.t 2)),
zg 31 29 false (.load none (.t 30)),
zg 32 29 false (.mv (.t 5)),
zg 33 29 false (.call 149 [(.t 31),(.t 32)]),
zg 34 29 false (.not (.t 33)),
sq 35 (.pick (.t 29) (kB true) (.t 34)),
sq 4 (.mv (.t 35))]))
 .ret)
 .skip))
 (.seq (.sem (.reg [sq 36 (.fieldA 1 (.t 2)),
sq 37 (.load none (.t 36)),
sq 38 (.bin .eql (.t 37) (kI 3)),
sq 39 (.mv (.t 38)),
zg 40 39 true (.mv (.t 6)),
sq 41 (.pick (.t 39) (.t 40) (kB false)),
sq 42 (.mv (.t 41)),
zg 43 42 false (.fieldA 1 (.t 2)),
zg 44 42 false (.load none (.t 43)),
zg 45 42 false (.bin .eql (.t 44) (kI 4)),
zg 46 42 false (.mv (.t 45)),
zg 47 46 true (.mv (.t 6)),
zg 48 46 true (.not (.t 47)),
zg 49 42 false (.pick (.t 46) (.t 48) (kB false)),
sq 50 (.pick (.t 42) (kB true) (.t 49)),
sq 4 (.mv (.t 50))]))
 .ret)))))⟩
theorem F141_ok{x0 x1 r}(h:F141 x0 x1=some r):CallD Tryz.prog 141 [.agg [dS x0.Key,dI x0.Op,dM (x0.Values.map eS)],.c (dM (x1.map eLabel))] [] (tupV [.c (dB r)]) []:=by
 rw[F141]at h
 refine zc a141 (by kernel_rfl) rfl (ww ?_)
 obtain⟨t1,ht1,h⟩:=bi h
 refine cN [] (F148_ok ht1) trivial (ww ?_)
 refine condSh h (fun c2 h=>?_) (fun c2 h=>?_)
 ·refine ww ?_
  obtain⟨o3,ho,h⟩:=bi h
  refine cutS (fun s=>s=⟨[(4,.one (.c (dB o3)))],[]⟩) ?_ ?_
  ·have h:=ho
   clear ho
   refine ww ?_
   refine guardSBh h (fun g4 h=>?_) (fun g4 h=>?_)
   ·refine ww ?_
    obtain⟨t5,ht5,h⟩:=bi h
    refine cN [] (F149_ok ht5) trivial (ww ?_)
    cases h
    exact eM [] rfl
   refine ww ?_
   cases h
   exact eM [] rfl
  rintro _ rfl
  clear ho
  refine ww ?_
  cases h
  exact eF []
 refine ww ?_
 refine condSh h (fun c6 h=>?_) (fun c6 h=>?_)
 ·refine ww ?_
  obtain⟨o7,ho,h⟩:=bi h
  refine cutS (fun s=>s=⟨[(4,.one (.c (dB o7)))],[]⟩) ?_ ?_
  ·have h:=ho
   clear ho
   refine ww ?_
   refine guardSBh h (fun g8 h=>?_) (fun g8 h=>?_)
   ·refine ww ?_
    cases h
    exact eM [] rfl
   refine ww ?_
   obtain⟨t9,ht9,h⟩:=bi h
   refine cN [] (F149_ok ht9) trivial (ww ?_)
   cases h
   exact eM [] rfl
  rintro _ rfl
  clear ho
  refine ww ?_
  cases h
  exact eF []
 refine ww ?_
 obtain⟨o10,ho,h⟩:=bi h
 refine cutS (fun s=>s=⟨[(4,.one (.c (dB o10)))],[]⟩) ?_ ?_
 ·have h:=ho
  clear ho
  refine ww ?_
  refine guardSh h (fun g11 h=>?_) (fun g11 h=>?_)
  ·refine ww ?_
   refine guardSBh h (fun g12 h=>?_) (fun g12 h=>?_)
   ·refine ww ?_
    cases h
    exact eM [] rfl
   refine ww ?_
   refine guardSh h (fun g13 h=>?_) (fun g13 h=>?_)
   ·refine ww ?_
    cases h
    exact eM [] rfl
   refine ww ?_
   cases h
   exact eM [] rfl
  refine ww ?_
  refine guardSh h (fun g14 h=>?_) (fun g14 h=>?_)
  ·refine ww ?_
   cases h
   exact eM [] rfl
  refine ww ?_
  cases h
  exact eM [] rfl
 rintro _ rfl
 clear ho
 refine ww ?_
 cases h
 exact eF []
def F127_l1(x1:(List Label)):List Requirement→Nat→Option ((Bool) ⊕ (Unit))
 |[],o1_0=>some (Sum.inr (()))
 |xo1::xs,o1_0=>(F141 xo1 x1).bind fun t3=>(if(nb t3)=true then(some false).map Sum.inl else F127_l1 x1 xs (o1_0+1))
def F127(x0:(List Requirement))(x1:(List Label)):Option (Bool):=(((ck (0≤x0.length∧x0.length≤4294967290)).bind fun u5=>F127_l1 x1 x0 0:Option ((Bool) ⊕ (Unit))).bind fun o1=>match o1 with|Sum.inl f=>some f|Sum.inr po1=>some true)
def a127:AFn:=⟨19,[(.tmp 4)],
 (.seq (.reg [sq 4 (.mv (kB false))])
 (.seq (.seq (.reg [sq 5 (.mv (kI 0))])
 (.sem (.block 0 (.loop (.seq (.seq (.reg [sq 6 (.mv (.t 5)),
sq 7 (.mv (.t 0)),
sq 8 (.len (.t 7)),
sq 9 (.bin .lss (.t 6) (.t 8))])
 (.cond (.t 9)
 .skip
 (.exit 0)))
 (.seq (.block 1 (.seq (.reg [sq 12 (.mv (.t 0)),
sq 13 (.mv (.t 5)),
sq 14 (.indexA 3 (.t 12) (.t 13)),
sq 15 (.load (some 3) (.t 14)),
sq 16 (.mv (.t 1)),
sq 17 (.call 141 [(.t 15),(.t 16)]),
sq 18 (.not (.t 17))])
 (.cond (.t 18)
 (.seq (.reg [sq 4 (.mv (kB false))])
 .ret)
 .skip)))
 (.reg [sq 10 (.mv (.t 5)),
sq 11 (.bin .add (.t 10) (kI 1)),
sq 5 (.mv (.t 11))])))))))
 (.seq (.reg [sq 4 (.mv (kB true))])
 .ret)))⟩
theorem F127_ok{x0 x1 r}(h:F127 x0 x1=some r):CallD Tryz.prog 127 [.c (dM (x0.map eRequirement)),.c (dM (x1.map eLabel))] [] (tupV [.c (dB r)]) []:=by
 rw[F127]at h
 refine zc a127 (by kernel_rfl) rfl (ww ?_)
 obtain⟨o1,ho,h⟩:=bi h
 refine cutS (fun s=>∃po1,o1=Sum.inr po1∧s=⟨[],[]⟩) ?_ ?_
 ·have h0o1:=h
  have h:=ho
  clear ho
  obtain⟨_,hk,h⟩:=bi h
  have hk:=ck_some hk
  refine ww ?_
  refine bL (fun j s=>∃(o1_0:Nat),(o1_0≤x0.length∧j=x0.length-o1_0)∧s=⟨[(0,.one (.c (dM (x0.map eRequirement)))),(1,.one (.c (dM (x1.map eLabel)))),(5,.one (.c (dI ((o1_0:Int)))))],[]⟩∧F127_l1 x1 (x0.drop o1_0) o1_0=some o1) (x0.length-0) [] ⟨0,⟨hk.1,rfl⟩,rfl,h⟩ ?_
  rintro _ _ ⟨o1_0,⟨hi,rfl⟩,rfl,h⟩
  refine ww ?_
  refine condS (fun c2=>?_) (fun c2=>?_)
  ·obtain⟨xo1,hxo1,hd⟩:=countY (show(o1_0:Int)<(x0.length:Int)from c2)
   rw[hd,F127_l1]at h
   refine ww ?_
   refine t_idxF (enc:=eRequirement) (xs:=x0) rfl rfl hxo1 rfl (ww ?_)
   obtain⟨t3,ht3,h⟩:=bi h
   refine cN [] (F141_ok ht3) trivial (ww ?_)
   refine condBh h (fun c4 h=>?_) (fun c4 h=>?_)
   ·refine ww ?_
    obtain⟨fh0o1,hfh0o1,rfl⟩:=Option.map_eq_some_iff.1 h
    have h:=hfh0o1.trans h0o1
    cases h
    exact eF []
   refine ww ?_
   rw[wrapN (by omega)]
   exact eL' (x0.length-(o1_0+1)) [] ⟨o1_0+1,⟨by omega,rfl⟩,rfl,h⟩ (by omega)
  rw[countN (show¬((o1_0:Int)<(x0.length:Int))from c2),F127_l1]at h
  refine ww ?_
  cases h
  exact eM [] ⟨_,rfl,rfl⟩
 rintro _ ⟨po1,rfl,rfl⟩
 clear ho
 dsimp only at h
 refine ww ?_
 cases h
 exact eF []
def F100(x0:Filter)(x1:Object):Option (Bool):=(((if x0.Kind=(⟨#[]⟩:ByteArray)then(if x0.Namespace=(⟨#[]⟩:ByteArray)then(F127 x0.Selector x1.Meta.Labels).bind fun t4=>some t4 else(if x0.Namespace=x1.Meta.Namespace then(F127 x0.Selector x1.Meta.Labels).bind fun t6=>some t6 else some false))else(if x0.Kind=x1.Meta.Kind then(if x0.Namespace=(⟨#[]⟩:ByteArray)then(F127 x0.Selector x1.Meta.Labels).bind fun t9=>some t9 else(if x0.Namespace=x1.Meta.Namespace then(F127 x0.Selector x1.Meta.Labels).bind fun t11=>some t11 else some false))else some false))).bind fun o1=>some o1)
def a100:AFn:=⟨37,[(.tmp 4)],
 (.seq (.reg [sq 2 (.box (.t 0)),
sq 3 (.box (.t 1)),
sq 4 (.mv (kB false))])
 (.seq (.sem (.reg [sq 5 (.fieldA 0 (.t 2)),
sq 6 (.load none (.t 5)),
sq 7 (.bin .eql (.t 6) (kS ⟨#[]⟩)),
sq 8 (.mv (.t 7)),
zg 9 8 false (.fieldA 0 (.t 2)),
zg 10 8 false (.load none (.t 9)),
zg 11 8 false (.fieldA 0 (.t 3)),
zg 12 8 false (.fieldA 0 (.t 11)),
zg 13 8 false (.load none (.t 12)),
zg 14 8 false (.bin .eql (.t 10) (.t 13)),
sq 15 (.pick (.t 8) (kB true) (.t 14)),
sq 16 (.mv (.t 15)),
zg 17 16 true (.fieldA 1 (.t 2)),
zg 18 16 true (.load none (.t 17)),
zg 19 16 true (.bin .eql (.t 18) (kS ⟨#[]⟩)),
zg 20 16 true (.mv (.t 19)),
zg 21 20 false (.fieldA 1 (.t 2)),
zg 22 20 false (.load none (.t 21)),
zg 23 20 false (.fieldA 0 (.t 3)),
zg 24 20 false (.fieldA 1 (.t 23)),
zg 25 20 false (.load none (.t 24)),
zg 26 20 false (.bin .eql (.t 22) (.t 25)),
zg 27 16 true (.pick (.t 20) (kB true) (.t 26)),
sq 28 (.pick (.t 16) (.t 27) (kB false)),
sq 29 (.mv (.t 28)),
zg 30 29 true (.fieldA 2 (.t 2)),
zg 31 29 true (.load none (.t 30)),
zg 32 29 true (.fieldA 0 (.t 3)),
zg 33 29 true (.fieldA 9 (.t 32)),
zg 34 29 true (.load none (.t 33)),
zg 35 29 true (.call 127 [(.t 31),(.t 34)]),
sq 36 (.pick (.t 29) (.t 35) (kB false)),
sq 4 (.mv (.t 36))]))
 .ret))⟩
theorem F100_ok{x0 x1 r}(h:F100 x0 x1=some r):CallD Tryz.prog 100 [.agg [dS x0.Kind,dS x0.Namespace,dM (x0.Selector.map eRequirement)],.agg [dS x1.Meta.Kind,dS x1.Meta.Namespace,dS x1.Meta.Name,dI x1.Meta.Uid,dI x1.Meta.Version,dI x1.Meta.Generation,dI x1.Meta.Created,dB x1.Meta.Deleting,dI x1.Meta.DeleteAt,dM (x1.Meta.Labels.map eLabel),dM (x1.Meta.Owners.map eOwner),dM (x1.Meta.Finalizers.map eS),dM (x1.Meta.Managers.map eManager),dI x1.Spec.Kind,dI x1.Spec.N,dS x1.Spec.S,dM (x1.Spec.List_.map eTValue),dM (x1.Spec.Fields.map eTField),dI x1.Status.Kind,dI x1.Status.N,dS x1.Status.S,dM (x1.Status.List_.map eTValue),dM (x1.Status.Fields.map eTField)]] [] (tupV [.c (dB r)]) []:=by
 rw[F100]at h
 refine zc a100 (by kernel_rfl) rfl (ww ?_)
 obtain⟨o1,ho,h⟩:=bi h
 refine cutS (fun s=>s=⟨[(4,.one (.c (dB o1)))],[]⟩) ?_ ?_
 ·have h:=ho
  clear ho
  refine ww ?_
  refine guardSh h (fun g2 h=>?_) (fun g2 h=>?_)
  ·refine ww ?_
   refine guardSh h (fun g3 h=>?_) (fun g3 h=>?_)
   ·refine ww ?_
    obtain⟨t4,ht4,h⟩:=bi h
    refine cN [] (F127_ok ht4) trivial (ww ?_)
    cases h
    exact eM [] rfl
   refine ww ?_
   refine guardSh h (fun g5 h=>?_) (fun g5 h=>?_)
   ·refine ww ?_
    obtain⟨t6,ht6,h⟩:=bi h
    refine cN [] (F127_ok ht6) trivial (ww ?_)
    cases h
    exact eM [] rfl
   refine ww ?_
   cases h
   exact eM [] rfl
  refine ww ?_
  refine guardSh h (fun g7 h=>?_) (fun g7 h=>?_)
  ·refine ww ?_
   refine guardSh h (fun g8 h=>?_) (fun g8 h=>?_)
   ·refine ww ?_
    obtain⟨t9,ht9,h⟩:=bi h
    refine cN [] (F127_ok ht9) trivial (ww ?_)
    cases h
    exact eM [] rfl
   refine ww ?_
   refine guardSh h (fun g10 h=>?_) (fun g10 h=>?_)
   ·refine ww ?_
    obtain⟨t11,ht11,h⟩:=bi h
    refine cN [] (F127_ok ht11) trivial (ww ?_)
    cases h
    exact eM [] rfl
   refine ww ?_
   cases h
   exact eM [] rfl
  refine ww ?_
  cases h
  exact eM [] rfl
 rintro _ rfl
 clear ho
 refine ww ?_
 cases h
 exact eF []
def F68_l1(x1:Filter):List Object→Nat→(List Object)→Option ((List Object))
 |[],o1_1,o1_0=>some o1_0
 |xo1::xs,o1_1,o1_0=>(((F100 x1 xo1).bind fun t4=>(if t4=true then(apI o1_0 ([xo1])).bind fun a6=>some a6 else some o1_0)).bind fun o3=>F68_l1 x1 xs (o1_1+1) o3)
def F68(x0:(List Object))(x1:Filter):Option ((List Object)):=(((ck (0≤x0.length∧x0.length≤4294967290)).bind fun u7=>F68_l1 x1 x0 0 ([])).bind fun o1=>some o1)
def a68:AFn:=⟨27,[(.tmp 4)],
 (.seq (.reg [sq 3 (.box (.t 1)),
sq 4 (.mv kN)])
 (.seq (.reg [sq 5 (.mv kN)])
 (.seq (.seq (.reg [sq 6 (.mv (kI 0))])
 (.sem (.block 0 (.loop (.seq (.seq (.reg [sq 7 (.mv (.t 6)),
sq 8 (.mv (.t 0)),
sq 9 (.len (.t 8)),
sq 10 (.bin .lss (.t 7) (.t 9))])
 (.cond (.t 10)
 .skip
 (.exit 0)))
 (.seq (.sem (.block 1 (.seq (.regd [sq 13 (.load (some 3) (.t 3)),
sq 14 (.mv (.t 0)),
sq 15 (.mv (.t 6)),
sd 16 (.indexA 23 (.t 14) (.t 15)) [1,2],
sd 17 (.load (some 23) (.t 16)) [1,2,3],
zl 18 (.call 100 [(.t 13),(.t 17)]) [0,1,2,3,4] []])
 (.cond (.t 18)
 (.reg [sq 19 (.mv (.t 5)),
sq 20 (.mv (.t 0)),
sq 21 (.mv (.t 6)),
sq 22 (.indexA 23 (.t 20) (.t 21)),
sq 23 (.load (some 23) (.t 22)),
sq 24 (.bslice 23 [(.t 23)]),
sq 25 (.app 23 352 (.t 19) (.t 24)),
sq 5 (.mv (.t 25))])
 .skip))))
 (.reg [sq 11 (.mv (.t 6)),
sq 12 (.bin .add (.t 11) (kI 1)),
sq 6 (.mv (.t 12))])))))))
 (.seq (.reg [sq 26 (.mv (.t 5)),
sq 4 (.mv (.t 26))])
 .ret))))⟩
theorem F68_ok{x0 x1 r}(h:F68 x0 x1=some r):CallD Tryz.prog 68 [.c (dM (x0.map eObject)),.agg [dS x1.Kind,dS x1.Namespace,dM (x1.Selector.map eRequirement)]] [] (tupV [.c (.own 0 0 0 (r.length) none)]) [some (.arr 0 23 (r.map eObject))]:=by
 rw[F68]at h
 refine zc a68 (by kernel_rfl) rfl (ww ?_)
 obtain⟨o1,ho,h⟩:=bi h
 refine cutS (fun s=>s=⟨[(5,.one (.c (.own 0 0 0 (o1.length) none)))],[some (.arr 0 23 (o1.map eObject))]⟩) ?_ ?_
 ·have h:=ho
  clear ho
  obtain⟨_,hk,h⟩:=bi h
  have hk:=ck_some hk
  refine ww ?_
  refine bL (fun j s=>∃(o1_1:Nat) (o1_0:List Object),(o1_1≤x0.length∧j=x0.length-o1_1)∧s=⟨[(0,.one (.c (dM (x0.map eObject)))),(3,.one (.c (.pt 0 0))),(5,.one (.c (.own 1 0 0 (o1_0.length) none))),(6,.one (.c (dI ((o1_1:Int)))))],[some (.box [dS x1.Kind,dS x1.Namespace,dM (x1.Selector.map eRequirement)]),some (.arr 0 23 (o1_0.map eObject))]⟩∧F68_l1 x1 (x0.drop o1_1) o1_1 o1_0=some o1) (x0.length-0) [some 0,none] ⟨0,[],⟨hk.1,rfl⟩,rfl,h⟩ ?_
  rintro _ _ ⟨o1_1,o1_0,⟨hi,rfl⟩,rfl,h⟩
  refine ww ?_
  refine condS (fun c2=>?_) (fun c2=>?_)
  ·obtain⟨xo1,hxo1,hd⟩:=countY (show(o1_1:Int)<(x0.length:Int)from c2)
   rw[hd,F68_l1]at h
   refine ww ?_
   obtain⟨o3,ho,h⟩:=bi h
   refine cutS (fun s=>s=⟨[(0,.one (.c (dM (x0.map eObject)))),(3,.one (.c (.pt 0 0))),(5,.one (.c (.own 1 0 0 (o3.length) none))),(6,.one (.c (dI ((o1_1:Int)))))],[some (.box [dS x1.Kind,dS x1.Namespace,dM (x1.Selector.map eRequirement)]),some (.arr 0 23 (o3.map eObject))]⟩) ?_ ?_
   ·have h:=ho
    clear ho
    refine ww ?_
    refine t_idxF (enc:=eObject) (xs:=x0) rfl rfl hxo1 rfl (ww ?_)
    obtain⟨t4,ht4,h⟩:=bi h
    refine cN [] (F100_ok ht4) trivial (ww ?_)
    refine condBh h (fun c5 h=>?_) (fun c5 h=>?_)
    ·refine ww ?_
     refine t_idxF (enc:=eObject) (xs:=x0) rfl rfl hxo1 rfl (ww ?_)
     refine t_bslice (enc:=eObject) (ys:=[xo1]) rfl rfl (by simp[A1.cells]) (by first|rfl|(simp only[List.drop_zero,take_mapL];rfl)|(simp only[lit,List.map_cons,List.map_nil,List.drop_zero,take_mapL,EE.down];done)|(simp only[lit,List.map_cons,List.map_nil,List.drop_zero,take_mapL,EE.down];rfl)) (ww ?_)
     obtain⟨a6,ha6,h⟩:=bi h
     refine t_app (enc:=eObject) (xs:=o1_0) rfl rfl (by first|rfl|simp only[List.length_set]|exact(clrL_len (slI_len (by assumption))).symm) rfl (rows_full (enc:=eObject) (by first|rfl|simp only[List.length_set]|exact(clrL_len (slI_len (by assumption))).symm) rfl) ha6 (ww ?_)
     cases h
     exact eM [some 0,some 1] rfl
    refine ww ?_
    cases h
    exact eM [some 0,some 1] rfl
   rintro _ rfl
   clear ho
   refine ww ?_
   rw[wrapN (by omega)]
   exact eL' (x0.length-(o1_1+1)) [some 0,some 1] ⟨o1_1+1,o3,⟨by omega,rfl⟩,rfl,h⟩ (by omega)
  rw[countN (show¬((o1_1:Int)<(x0.length:Int))from c2),F68_l1]at h
  refine ww ?_
  cases h
  exact eM [some 1] rfl
 rintro _ rfl
 clear ho
 refine ww ?_
 cases h
 exact eF [some 0]
def F30(x0:TStore)(x1:Filter):Option ((List Object)):=(F68 x0.Objects x1).bind fun t1=>some t1
def a30:AFn:=⟨9,[(.tmp 4)],
 (.seq (.reg [sq 2 (.box (.t 0)),
sq 3 (.box (.t 1)),
sq 4 (.mv kN)])
 (.seq (.reg [sq 5 (.fieldA 4 (.t 2)),
sq 6 (.load none (.t 5)),
sq 7 (.load (some 3) (.t 3)),
sq 8 (.call 68 [(.t 6),(.t 7)]),
sq 4 (.mv (.t 8))])
 .ret))⟩
theorem F30_ok{x0 x1 r}(h:F30 x0 x1=some r):CallD Tryz.prog 30 [.agg [dI x0.Rev,dI x0.Floor,dI x0.NextUid,dM (x0.Base.map eObject),dM (x0.Objects.map eObject),dM (x0.History.map eChange)],.agg [dS x1.Kind,dS x1.Namespace,dM (x1.Selector.map eRequirement)]] [] (tupV [.c (.own 0 0 0 (r.length) none)]) [some (.arr 0 23 (r.map eObject))]:=by
 rw[F30]at h
 refine zc a30 (by kernel_rfl) rfl (ww ?_)
 obtain⟨t1,ht1,h⟩:=bi h
 refine cN [] (F68_ok ht1) trivial (ww ?_)
 cases h
 exact eF [some 2]
end Go.Proofs.YtbopaemngpbdgaaGreat
