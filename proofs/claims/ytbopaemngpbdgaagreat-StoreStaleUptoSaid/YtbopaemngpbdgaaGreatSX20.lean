/- Each Go function as a function over typed data, and its walk. -/
import Derived.Test.YtbopaemngpbdgaaGreatSX
import Derived.Test.YtbopaemngpbdgaaGreatSX17
namespace Go.Proofs.YtbopaemngpbdgaaGreat
open Go Go.Fw Go.Shelf
set_option maxRecDepth 100000
set_option maxHeartbeats 4000000
set_option linter.unusedSimpArgs false
set_option linter.unusedVariables false
def F15_l10(x1:TStore):List Change→Nat→Option ((Bool) ⊕ (Unit))
 |[],o10_0=>some (Sum.inr (()))
 |xo10::xs,o10_0=>(((rdI x1.History ((o10_0:Int))).bind fun y13=>(if¬(xo10.Rev=y13.Rev)then some true else(if¬(xo10.Kind=y13.Kind)then some true else(F24 xo10.Object y13.Object).bind fun t16=>some (nb t16)))).bind fun o12=>(if o12=true then(some false).map Sum.inl else F15_l10 x1 xs (o10_0+1)))
def F15(x0:TStore)(x1:TStore):Option (Bool):=(((if¬(x0.Rev=x1.Rev)then some true else(if¬(x0.Floor=x1.Floor)then some true else(if¬(x0.NextUid=x1.NextUid)then some true else(if¬((x0.History.length:Int)=(x1.History.length:Int))then some true else(F27 x0.Base x1.Base).bind fun t6=>(if(nb t6)=true then some true else(F27 x0.Objects x1.Objects).bind fun t8=>some (nb t8))))))).bind fun o1=>(if o1=true then some false else(((ck (0≤x0.History.length∧x0.History.length≤4294967290)).bind fun u18=>F15_l10 x1 x0.History 0:Option ((Bool) ⊕ (Unit))).bind fun o10=>match o10 with|Sum.inl f=>some f|Sum.inr po10=>some true)))
def a15:AFn:=⟨101,[(.tmp 4)],
 (.seq (.reg [sq 2 (.box (.t 0)),
sq 3 (.box (.t 1)),
sq 4 (.mv (kB false))])
 (.seq (.seq (.sem (.reg [sq 6 (.fieldA 0 (.t 2)),
sq 7 (.load none (.t 6)),
sq 8 (.fieldA 0 (.t 3)),
sq 9 (.load none (.t 8)),
sq 10 (.bin .neq (.t 7) (.t 9)),
sq 11 (.mv (.t 10)),
zg 12 11 false (.fieldA 1 (.t 2)),
zg 13 11 false (.load none (.t 12)),
zg 14 11 false (.fieldA 1 (.t 3)),
zg 15 11 false (.load none (.t 14)),
zg 16 11 false (.bin .neq (.t 13) (.t 15)),
sq 17 (.pick (.t 11) (kB true) (.t 16)),
sq 18 (.mv (.t 17)),
zg 19 18 false (.fieldA 2 (.t 2)),
zg 20 18 false (.load none (.t 19)),
zg 21 18 false (.fieldA 2 (.t 3)),
zg 22 18 false (.load none (.t 21)),
zg 23 18 false (.bin .neq (.t 20) (.t 22)),
sq 24 (.pick (.t 18) (kB true) (.t 23)),
sq 25 (.mv (.t 24)),
zg 26 25 false (.fieldA 5 (.t 2)),
zg 27 25 false (.load none (.t 26)),
zg 28 25 false (.len (.t 27)),
zg 29 25 false (.fieldA 5 (.t 3)),
zg 30 25 false (.load none (.t 29)),
zg 31 25 false (.len (.t 30)),
zg 32 25 false (.bin .neq (.t 28) (.t 31)),
sq 33 (.pick (.t 25) (kB true) (.t 32)),
sq 34 (.mv (.t 33)),
zg 35 34 false (.fieldA 3 (.t 2)),
zg 36 34 false (.load none (.t 35)),
zg 37 34 false (.fieldA 3 (.t 3)),
zg 38 34 false (.load none (.t 37)),
zg 39 34 false (.call 27 [(.t 36),(.t 38)]),
zg 40 34 false (.not (.t 39)),
sq 41 (.pick (.t 34) (kB true) (.t 40)),
sq 42 (.mv (.t 41)),
zg 43 42 false (.fieldA 4 (.t 2)),
zg 44 42 false (.load none (.t 43)),
zg 45 42 false (.fieldA 4 (.t 3)),
zg 46 42 false (.load none (.t 45)),
zg 47 42 false (.call 27 [(.t 44),(.t 46)]),
zg 48 42 false (.not (.t 47)),
sq 49 (.pick (.t 42) (kB true) (.t 48))]))
 (.cond (.t 49)
 (.seq (.reg [sq 4 (.mv (kB false))])
 .ret)
 .skip))
 (.seq (.seq (.reg [sq 5 (.mv (kI 0))])
 (.sem (.block 0 (.loop (.seq (.seq (.reg [sq 50 (.mv (.t 5)),
sq 51 (.fieldA 5 (.t 2)),
sq 52 (.load none (.t 51)),
sq 53 (.len (.t 52)),
sq 54 (.bin .lss (.t 50) (.t 53))])
 (.cond (.t 54)
 .skip
 (.exit 0)))
 (.seq (.block 1 (.seq (.sem (.regd [sq 57 (.fieldA 5 (.t 2)),
sd 58 (.load none (.t 57)) [0],
sq 59 (.mv (.t 5)),
sd 60 (.indexA 25 (.t 58) (.t 59)) [0,1,2],
sd 61 (.fieldA 0 (.t 60)) [0,1,2,3],
sd 62 (.load none (.t 61)) [0,1,2,3,4],
sq 63 (.fieldA 5 (.t 3)),
sd 64 (.load none (.t 63)) [6],
sq 65 (.mv (.t 5)),
sd 66 (.indexA 25 (.t 64) (.t 65)) [6,7,8],
sd 67 (.fieldA 0 (.t 66)) [6,7,8,9],
sd 68 (.load none (.t 67)) [6,7,8,9,10],
sd 69 (.bin .neq (.t 62) (.t 68)) [0,1,2,3,4,5,6,7,8,9,10,11],
sd 70 (.mv (.t 69)) [0,1,2,3,4,5,6,7,8,9,10,11,12],
⟨(some 71),(some (70,false)),.fieldA 5 (.t 2),[0,1,2,3,4,5,6,7,8,9,10,11,12,13],(.new [])⟩,
⟨(some 72),(some (70,false)),.load none (.t 71),[0,1,2,3,4,5,6,7,8,9,10,11,12,13,14],(.new [])⟩,
⟨(some 73),(some (70,false)),.mv (.t 5),[0,1,2,3,4,5,6,7,8,9,10,11,12,13],(.new [])⟩,
⟨(some 74),(some (70,false)),.indexA 25 (.t 72) (.t 73),[0,1,2,3,4,5,6,7,8,9,10,11,12,13,14,15,16],(.new [])⟩,
⟨(some 75),(some (70,false)),.fieldA 1 (.t 74),[0,1,2,3,4,5,6,7,8,9,10,11,12,13,14,15,16,17],(.new [])⟩,
⟨(some 76),(some (70,false)),.load none (.t 75),[0,1,2,3,4,5,6,7,8,9,10,11,12,13,14,15,16,17,18],(.new [])⟩,
⟨(some 77),(some (70,false)),.fieldA 5 (.t 3),[0,1,2,3,4,5,6,7,8,9,10,11,12,13],(.new [])⟩,
⟨(some 78),(some (70,false)),.load none (.t 77),[0,1,2,3,4,5,6,7,8,9,10,11,12,13,20],(.new [])⟩,
⟨(some 79),(some (70,false)),.mv (.t 5),[0,1,2,3,4,5,6,7,8,9,10,11,12,13],(.new [])⟩,
⟨(some 80),(some (70,false)),.indexA 25 (.t 78) (.t 79),[0,1,2,3,4,5,6,7,8,9,10,11,12,13,20,21,22],(.new [])⟩,
⟨(some 81),(some (70,false)),.fieldA 1 (.t 80),[0,1,2,3,4,5,6,7,8,9,10,11,12,13,20,21,22,23],(.new [])⟩,
⟨(some 82),(some (70,false)),.load none (.t 81),[0,1,2,3,4,5,6,7,8,9,10,11,12,13,20,21,22,23,24],(.new [])⟩,
⟨(some 83),(some (70,false)),.bin .neq (.t 76) (.t 82),[0,1,2,3,4,5,6,7,8,9,10,11,12,13,14,15,16,17,18,19,20,21,22,23,24,25],(.new [])⟩,
zl 84 (.pick (.t 70) (kB true) (.t 83)) [0,1,2,3,4,5,6,7,8,9,10,11,12,13,14,15,16,17,18,19,20,21,22,23,24,25,26] [],
sd 85 (.mv (.t 84)) [0,1,2,3,4,5,6,7,8,9,10,11,12,13,14,15,16,17,18,19,20,21,22,23,24,25,26,27],
⟨(some 86),(some (85,false)),.fieldA 5 (.t 2),[0,1,2,3,4,5,6,7,8,9,10,11,12,13,14,15,16,17,18,19,20,21,22,23,24,25,26,27,28],(.new [])⟩,
⟨(some 87),(some (85,false)),.load none (.t 86),[0,1,2,3,4,5,6,7,8,9,10,11,12,13,14,15,16,17,18,19,20,21,22,23,24,25,26,27,28,29],(.new [])⟩,
⟨(some 88),(some (85,false)),.mv (.t 5),[0,1,2,3,4,5,6,7,8,9,10,11,12,13,14,15,16,17,18,19,20,21,22,23,24,25,26,27,28],(.new [])⟩,
⟨(some 89),(some (85,false)),.indexA 25 (.t 87) (.t 88),[0,1,2,3,4,5,6,7,8,9,10,11,12,13,14,15,16,17,18,19,20,21,22,23,24,25,26,27,28,29,30,31],(.new [])⟩,
⟨(some 90),(some (85,false)),.fieldA 2 (.t 89),[0,1,2,3,4,5,6,7,8,9,10,11,12,13,14,15,16,17,18,19,20,21,22,23,24,25,26,27,28,29,30,31,32],(.new [])⟩,
⟨(some 91),(some (85,false)),.load (some 23) (.t 90),[0,1,2,3,4,5,6,7,8,9,10,11,12,13,14,15,16,17,18,19,20,21,22,23,24,25,26,27,28,29,30,31,32,33],(.new [])⟩,
⟨(some 92),(some (85,false)),.fieldA 5 (.t 3),[0,1,2,3,4,5,6,7,8,9,10,11,12,13,14,15,16,17,18,19,20,21,22,23,24,25,26,27,28],(.new [])⟩,
⟨(some 93),(some (85,false)),.load none (.t 92),[0,1,2,3,4,5,6,7,8,9,10,11,12,13,14,15,16,17,18,19,20,21,22,23,24,25,26,27,28,35],(.new [])⟩,
⟨(some 94),(some (85,false)),.mv (.t 5),[0,1,2,3,4,5,6,7,8,9,10,11,12,13,14,15,16,17,18,19,20,21,22,23,24,25,26,27,28],(.new [])⟩,
⟨(some 95),(some (85,false)),.indexA 25 (.t 93) (.t 94),[0,1,2,3,4,5,6,7,8,9,10,11,12,13,14,15,16,17,18,19,20,21,22,23,24,25,26,27,28,35,36,37],(.new [])⟩,
⟨(some 96),(some (85,false)),.fieldA 2 (.t 95),[0,1,2,3,4,5,6,7,8,9,10,11,12,13,14,15,16,17,18,19,20,21,22,23,24,25,26,27,28,35,36,37,38],(.new [])⟩,
⟨(some 97),(some (85,false)),.load (some 23) (.t 96),[0,1,2,3,4,5,6,7,8,9,10,11,12,13,14,15,16,17,18,19,20,21,22,23,24,25,26,27,28,35,36,37,38,39],(.new [])⟩,
⟨(some 98),(some (85,false)),.call 24 [(.t 91),(.t 97)],[0,1,2,3,4,5,6,7,8,9,10,11,12,13,14,15,16,17,18,19,20,21,22,23,24,25,26,27,28,29,30,31,32,33,34,35,36,37,38,39,40],(.lone [])⟩,
⟨(some 99),(some (85,false)),.not (.t 98),[0,1,2,3,4,5,6,7,8,9,10,11,12,13,14,15,16,17,18,19,20,21,22,23,24,25,26,27,28,29,30,31,32,33,34,35,36,37,38,39,40,41],(.new [])⟩,
zl 100 (.pick (.t 85) (kB true) (.t 99)) [0,1,2,3,4,5,6,7,8,9,10,11,12,13,14,15,16,17,18,19,20,21,22,23,24,25,26,27,28,29,30,31,32,33,34,35,36,37,38,39,40,41,42] []]))
 (.cond (.t 100)
 (.seq (.reg [sq 4 (.mv (kB false))])
 .ret)
 .skip)))
 (.reg [sq 55 (.mv (.t 5)),
sq 56 (.bin .add (.t 55) (kI 1)),
sq 5 (.mv (.t 56))])))))))
 (.seq (.reg [sq 4 (.mv (kB true))])
 .ret))))⟩
theorem a15_ok:afn Tryz.prog 15=some a15.er:=by kernel_rfl
theorem F15_ok{x0 x1 r}(h:F15 x0 x1=some r):CallD Tryz.prog 15 [.agg [dI x0.Rev,dI x0.Floor,dI x0.NextUid,dM (x0.Base.map eObject),dM (x0.Objects.map eObject),dM (x0.History.map eChange)],.agg [dI x1.Rev,dI x1.Floor,dI x1.NextUid,dM (x1.Base.map eObject),dM (x1.Objects.map eObject),dM (x1.History.map eChange)]] [] (tupV [.c (dB r)]) []:=by
 refine callS a15_ok (by simp[a15]) ?_
 rw[F15]at h
 simp only[a15,VW.down,Nat.reduceEqDiff,reduceCtorEq,Nat.reduceAdd,Nat.reduceLeDiff,Nat.reduceLT,Nat.reduceBEq,Nat.reduceSub,EE.down]
 obtain⟨o1,ho,h⟩:=bi h
 refine cutS (fun s=>s=⟨[(2,.one (.c (.pt 0 0))),(3,.one (.c (.pt 1 0))),(49,.one (.c (dB o1)))],[some (.box [dI x0.Rev,dI x0.Floor,dI x0.NextUid,dM (x0.Base.map eObject),dM (x0.Objects.map eObject),dM (x0.History.map eChange)]),some (.box [dI x1.Rev,dI x1.Floor,dI x1.NextUid,dM (x1.Base.map eObject),dM (x1.Objects.map eObject),dM (x1.History.map eChange)])]⟩) ?_ ?_
 ·have h:=ho
  clear ho
  refine ww ?_
  refine guardSh h (fun g2 h=>?_) (fun g2 h=>?_)
  ·refine ww ?_
   cases h
   exact eM [some 0,some 1] rfl
  refine ww ?_
  refine guardSh h (fun g3 h=>?_) (fun g3 h=>?_)
  ·refine ww ?_
   cases h
   exact eM [some 0,some 1] rfl
  refine ww ?_
  refine guardSh h (fun g4 h=>?_) (fun g4 h=>?_)
  ·refine ww ?_
   cases h
   exact eM [some 0,some 1] rfl
  refine ww ?_
  refine guardSh h (fun g5 h=>?_) (fun g5 h=>?_)
  ·refine ww ?_
   cases h
   exact eM [some 0,some 1] rfl
  refine ww ?_
  obtain⟨t6,ht6,h⟩:=bi h
  refine cN [] (F27_ok ht6) trivial (ww ?_)
  refine guardSBh h (fun g7 h=>?_) (fun g7 h=>?_)
  ·refine ww ?_
   cases h
   exact eM [some 0,some 1] rfl
  refine ww ?_
  obtain⟨t8,ht8,h⟩:=bi h
  refine cN [] (F27_ok ht8) trivial (ww ?_)
  cases h
  exact eM [some 0,some 1] rfl
 rintro _ rfl
 clear ho
 refine ww ?_
 refine condBh h (fun c9 h=>?_) (fun c9 h=>?_)
 ·refine ww ?_
  cases h
  exact eF []
 refine ww ?_
 obtain⟨o10,ho,h⟩:=bi h
 refine cutS (fun s=>∃po10,o10=Sum.inr po10∧s=⟨[],[]⟩) ?_ ?_
 ·have h0o10:=h
  have h:=ho
  clear ho
  obtain⟨_,hk,h⟩:=bi h
  have hk:=ck_some hk
  refine ww ?_
  refine bL (fun j s=>∃(o10_0:Nat),(o10_0≤x0.History.length∧j=x0.History.length-o10_0)∧s=⟨[(2,.one (.c (.pt 0 0))),(3,.one (.c (.pt 1 0))),(5,.one (.c (dI ((o10_0:Int)))))],[some (.box [dI x0.Rev,dI x0.Floor,dI x0.NextUid,dM (x0.Base.map eObject),dM (x0.Objects.map eObject),dM (x0.History.map eChange)]),some (.box [dI x1.Rev,dI x1.Floor,dI x1.NextUid,dM (x1.Base.map eObject),dM (x1.Objects.map eObject),dM (x1.History.map eChange)])]⟩∧F15_l10 x1 (x0.History.drop o10_0) o10_0=some o10) (x0.History.length-0) [some 0,some 1] ⟨0,⟨hk.1,rfl⟩,rfl,h⟩ ?_
  rintro _ _ ⟨o10_0,⟨hi,rfl⟩,rfl,h⟩
  refine ww ?_
  refine condS (fun c11=>?_) (fun c11=>?_)
  ·obtain⟨xo10,hxo10,hd⟩:=countY (show(o10_0:Int)<(x0.History.length:Int)from c11)
   rw[hd,F15_l10]at h
   refine ww ?_
   obtain⟨o12,ho,h⟩:=bi h
   refine cutS (fun s=>s=⟨[(2,.one (.c (.pt 0 0))),(3,.one (.c (.pt 1 0))),(5,.one (.c (dI ((o10_0:Int))))),(100,.one (.c (dB o12)))],[some (.box [dI x0.Rev,dI x0.Floor,dI x0.NextUid,dM (x0.Base.map eObject),dM (x0.Objects.map eObject),dM (x0.History.map eChange)]),some (.box [dI x1.Rev,dI x1.Floor,dI x1.NextUid,dM (x1.Base.map eObject),dM (x1.Objects.map eObject),dM (x1.History.map eChange)])]⟩) ?_ ?_
   ·have h:=ho
    clear ho
    refine ww ?_
    refine t_idxF (enc:=eChange) (xs:=x0.History) rfl rfl hxo10 rfl (ww ?_)
    obtain⟨y13,hy13,h⟩:=bi h
    refine t_idxF (enc:=eChange) (xs:=x1.History) rfl rfl hy13 rfl (ww ?_)
    refine guardDh h (fun g14 h=>?_) (fun g14 h=>?_)
    ·refine ww ?_
     cases h
     exact eM [some 0,some 1] rfl
    refine ww ?_
    refine t_idxF (enc:=eChange) (xs:=x0.History) rfl rfl hxo10 rfl (ww ?_)
    refine t_idxF (enc:=eChange) (xs:=x1.History) rfl rfl hy13 rfl (ww ?_)
    refine guardDh h (fun g15 h=>?_) (fun g15 h=>?_)
    ·refine ww ?_
     cases h
     exact eM [some 0,some 1] rfl
    refine ww ?_
    refine t_idxF (enc:=eChange) (xs:=x0.History) rfl rfl hxo10 rfl (ww ?_)
    refine t_idxF (enc:=eChange) (xs:=x1.History) rfl rfl hy13 rfl (ww ?_)
    obtain⟨t16,ht16,h⟩:=bi h
    refine cN [] (F24_ok ht16) trivial (ww ?_)
    cases h
    exact eM [some 0,some 1] rfl
   rintro _ rfl
   clear ho
   refine ww ?_
   refine condBh h (fun c17 h=>?_) (fun c17 h=>?_)
   ·refine ww ?_
    obtain⟨fh0o10,hfh0o10,rfl⟩:=Option.map_eq_some_iff.1 h
    have h:=hfh0o10.trans h0o10
    cases h
    exact eF []
   refine ww ?_
   rw[wrapN (by omega)]
   exact eL' (x0.History.length-(o10_0+1)) [some 0,some 1] ⟨o10_0+1,⟨by omega,rfl⟩,rfl,h⟩ (by omega)
  rw[countN (show¬((o10_0:Int)<(x0.History.length:Int))from c11),F15_l10]at h
  refine ww ?_
  cases h
  exact eM [] ⟨_,rfl,rfl⟩
 rintro _ ⟨po10,rfl,rfl⟩
 clear ho
 dsimp only at h
 refine ww ?_
 cases h
 exact eF []
end Go.Proofs.YtbopaemngpbdgaaGreat
