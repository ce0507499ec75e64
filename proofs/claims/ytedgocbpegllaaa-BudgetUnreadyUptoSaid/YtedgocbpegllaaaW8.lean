/- Each Go function as a function over typed data, and its walk. -/
import Derived.Test.YtedgocbpegllaaaW0
namespace Go.Proofs.Ytedgocbpegllaaa
open Go Go.Fw Go.Shelf
set_option maxRecDepth 100000
set_option maxHeartbeats 4000000
set_option linter.unusedSimpArgs false
set_option linter.unusedVariables false
def F51(x0:ByteArray)(x1:ByteArray)(x2:ByteArray):Option (ByteArray):=(catI x0 ((⟨#[47]⟩:ByteArray))).bind fun s1=>(catI s1 x1).bind fun s2=>(catI s2 ((⟨#[47]⟩:ByteArray))).bind fun s3=>(catI s3 x2).bind fun s4=>some s4
def a51:AFn:=⟨14,[(.tmp 6)],
 (.seq (.reg [sq 6 (.mv (kS ⟨#[]⟩))])
 (.seq (.reg [Qa 7 0,
sq 8 (.bin .add (.t 7) (kS ⟨#[47]⟩)),
Qa 9 1,
sq 10 (.bin .add (.t 8) (.t 9)),
sq 11 (.bin .add (.t 10) (kS ⟨#[47]⟩)),
Qa 12 2,
sq 13 (.bin .add (.t 11) (.t 12)),
Qa 6 13])
 .ret))⟩
theorem F51_ok{x0 x1 x2 r}(h:F51 x0 x1 x2=some r):CallD Try.prog 51 [.c (dS x0),.c (dS x1),.c (dS x2)] [] (tupV [.c (dS r)]) []:=by
 rw[F51]at h
 refine zc a51 (by kernel_rfl) rfl (ww ?_)
 obtain⟨s1,hs1,h⟩:=bi h
 obtain⟨hle,es1⟩:=cat_some hs1
 refine⟨hle,?_⟩
 first|rw[←es1]|subst es1
 refine ww ?_
 obtain⟨s2,hs2,h⟩:=bi h
 obtain⟨hle,es2⟩:=cat_some hs2
 refine⟨hle,?_⟩
 first|rw[←es2]|subst es2
 refine ww ?_
 obtain⟨s3,hs3,h⟩:=bi h
 obtain⟨hle,es3⟩:=cat_some hs3
 refine⟨hle,?_⟩
 first|rw[←es3]|subst es3
 refine ww ?_
 obtain⟨s4,hs4,h⟩:=bi h
 obtain⟨hle,es4⟩:=cat_some hs4
 refine⟨hle,?_⟩
 first|rw[←es4]|subst es4
 refine ww ?_
 cases h
 exact eF []
def F20(x0:Meta):Option (ByteArray):=(F51 x0.Kind x0.Namespace x0.Name).bind fun t1=>some t1
def a20:AFn:=⟨10,[(.tmp 2)],
 (.seq (.reg [Qg 1 0,
sq 2 (.mv (kS ⟨#[]⟩))])
 (.seq (.reg [Qb 3 0 1,
Qd 4 3,
Qb 5 1 1,
Qd 6 5,
Qb 7 2 1,
Qd 8 7,
sq 9 (.call 51 [(.t 4),(.t 6),(.t 8)]),
Qa 2 9])
 .ret))⟩
theorem F20_ok{x0 r}(h:F20 x0=some r):CallD Try.prog 20 [.agg (bMeta x0)] [] (tupV [.c (dS r)]) []:=by
 rw[F20]at h
 refine zc a20 (by kernel_rfl) rfl (ww ?_)
 obtain⟨t1,ht1,h⟩:=bi h
 refine cN [] (F51_ok ht1) trivial (ww ?_)
 cases h
 exact eF []
def F10_l11(x1:Budget):List WorkItem→Nat→Option ((Bool) ⊕ (Unit))
 |[],o11_0=>some (Sum.inr (()))
 |xo11::xs,o11_0=>(rdI x1.Disrupted ((o11_0:Int))).bind fun y13=>(if¬(xo11.Key=y13.Key∧xo11.At=y13.At)then(some false).map Sum.inl else F10_l11 x1 xs (o11_0+1))
def F10(x0:Budget)(x1:Budget):Option (Bool):=(((if¬((x0.Disrupted.length:Int)=(x1.Disrupted.length:Int))then some true else(if¬(x0.Observed=x1.Observed)then some true else(if¬(x0.Healthy=x1.Healthy)then some true else(if¬(x0.Desired=x1.Desired)then some true else(if¬(x0.Expected=x1.Expected)then some true else(if¬(x0.Allowed=x1.Allowed)then some true else(F20 x0.Meta).bind fun t8=>(F20 x1.Meta).bind fun t9=>some (decide (¬(t8=t9)))))))))).bind fun o1=>(if o1=true then some false else(((ck (0≤x0.Disrupted.length∧x0.Disrupted.length≤4294967290)).bind fun u15=>F10_l11 x1 x0.Disrupted 0:Option ((Bool) ⊕ (Unit))).bind fun o11=>match o11 with|Sum.inl f=>some f|Sum.inr po11=>(((if(x0.Selector.length:Int)=(x1.Selector.length:Int)then(if(x0.MinAvailable.length:Int)=(x1.MinAvailable.length:Int)then some (decide ((x0.MaxUnavailable.length:Int)=(x1.MaxUnavailable.length:Int)))else some false)else some false)).bind fun o16=>some o16))))
def a10:AFn:=⟨100,[(.tmp 4)],
 (.seq (.reg [Qg 2 0,
Qg 3 1,
Qf 4 false])
 (.seq (.seq (.sem (.regd [Qb 6 21 2,
sd 7 (.load none (.t 6)) [0],
sd 8 (.len (.t 7)) [0,1],
Qb 9 21 3,
sd 10 (.load none (.t 9)) [3],
sd 11 (.len (.t 10)) [3,4],
sd 12 (.bin .neq (.t 8) (.t 11)) [0,1,2,3,4,5],
sd 13 (.mv (.t 12)) [0,1,2,3,4,5,6],
⟨(some 14),(some (13,false)),.fieldA 16 (.t 2),[0,1,2,3,4,5,6,7],(.new [])⟩,
⟨(some 15),(some (13,false)),.load none (.t 14),[0,1,2,3,4,5,6,7,8],(.new [])⟩,
⟨(some 16),(some (13,false)),.fieldA 16 (.t 3),[0,1,2,3,4,5,6,7],(.new [])⟩,
⟨(some 17),(some (13,false)),.load none (.t 16),[0,1,2,3,4,5,6,7,10],(.new [])⟩,
⟨(some 18),(some (13,false)),.bin .neq (.t 15) (.t 17),[0,1,2,3,4,5,6,7,8,9,10,11],(.new [])⟩,
zl 19 (.pick (.t 13) (kB true) (.t 18)) [0,1,2,3,4,5,6,7,8,9,10,11,12] [],
sd 20 (.mv (.t 19)) [0,1,2,3,4,5,6,7,8,9,10,11,12,13],
⟨(some 21),(some (20,false)),.fieldA 17 (.t 2),[0,1,2,3,4,5,6,7,8,9,10,11,12,13,14],(.new [])⟩,
⟨(some 22),(some (20,false)),.load none (.t 21),[0,1,2,3,4,5,6,7,8,9,10,11,12,13,14,15],(.new [])⟩,
⟨(some 23),(some (20,false)),.fieldA 17 (.t 3),[0,1,2,3,4,5,6,7,8,9,10,11,12,13,14],(.new [])⟩,
⟨(some 24),(some (20,false)),.load none (.t 23),[0,1,2,3,4,5,6,7,8,9,10,11,12,13,14,17],(.new [])⟩,
⟨(some 25),(some (20,false)),.bin .neq (.t 22) (.t 24),[0,1,2,3,4,5,6,7,8,9,10,11,12,13,14,15,16,17,18],(.new [])⟩,
zl 26 (.pick (.t 20) (kB true) (.t 25)) [0,1,2,3,4,5,6,7,8,9,10,11,12,13,14,15,16,17,18,19] [],
sd 27 (.mv (.t 26)) [0,1,2,3,4,5,6,7,8,9,10,11,12,13,14,15,16,17,18,19,20],
⟨(some 28),(some (27,false)),.fieldA 18 (.t 2),[0,1,2,3,4,5,6,7,8,9,10,11,12,13,14,15,16,17,18,19,20,21],(.new [])⟩,
⟨(some 29),(some (27,false)),.load none (.t 28),[0,1,2,3,4,5,6,7,8,9,10,11,12,13,14,15,16,17,18,19,20,21,22],(.new [])⟩,
⟨(some 30),(some (27,false)),.fieldA 18 (.t 3),[0,1,2,3,4,5,6,7,8,9,10,11,12,13,14,15,16,17,18,19,20,21],(.new [])⟩,
⟨(some 31),(some (27,false)),.load none (.t 30),[0,1,2,3,4,5,6,7,8,9,10,11,12,13,14,15,16,17,18,19,20,21,24],(.new [])⟩,
⟨(some 32),(some (27,false)),.bin .neq (.t 29) (.t 31),[0,1,2,3,4,5,6,7,8,9,10,11,12,13,14,15,16,17,18,19,20,21,22,23,24,25],(.new [])⟩,
zl 33 (.pick (.t 27) (kB true) (.t 32)) [0,1,2,3,4,5,6,7,8,9,10,11,12,13,14,15,16,17,18,19,20,21,22,23,24,25,26] [],
sd 34 (.mv (.t 33)) [0,1,2,3,4,5,6,7,8,9,10,11,12,13,14,15,16,17,18,19,20,21,22,23,24,25,26,27],
⟨(some 35),(some (34,false)),.fieldA 19 (.t 2),[0,1,2,3,4,5,6,7,8,9,10,11,12,13,14,15,16,17,18,19,20,21,22,23,24,25,26,27,28],(.new [])⟩,
⟨(some 36),(some (34,false)),.load none (.t 35),[0,1,2,3,4,5,6,7,8,9,10,11,12,13,14,15,16,17,18,19,20,21,22,23,24,25,26,27,28,29],(.new [])⟩,
⟨(some 37),(some (34,false)),.fieldA 19 (.t 3),[0,1,2,3,4,5,6,7,8,9,10,11,12,13,14,15,16,17,18,19,20,21,22,23,24,25,26,27,28],(.new [])⟩,
⟨(some 38),(some (34,false)),.load none (.t 37),[0,1,2,3,4,5,6,7,8,9,10,11,12,13,14,15,16,17,18,19,20,21,22,23,24,25,26,27,28,31],(.new [])⟩,
⟨(some 39),(some (34,false)),.bin .neq (.t 36) (.t 38),[0,1,2,3,4,5,6,7,8,9,10,11,12,13,14,15,16,17,18,19,20,21,22,23,24,25,26,27,28,29,30,31,32],(.new [])⟩,
zl 40 (.pick (.t 34) (kB true) (.t 39)) [0,1,2,3,4,5,6,7,8,9,10,11,12,13,14,15,16,17,18,19,20,21,22,23,24,25,26,27,28,29,30,31,32,33] [],
sd 41 (.mv (.t 40)) [0,1,2,3,4,5,6,7,8,9,10,11,12,13,14,15,16,17,18,19,20,21,22,23,24,25,26,27,28,29,30,31,32,33,34],
⟨(some 42),(some (41,false)),.fieldA 20 (.t 2),[0,1,2,3,4,5,6,7,8,9,10,11,12,13,14,15,16,17,18,19,20,21,22,23,24,25,26,27,28,29,30,31,32,33,34,35],(.new [])⟩,
⟨(some 43),(some (41,false)),.load none (.t 42),[0,1,2,3,4,5,6,7,8,9,10,11,12,13,14,15,16,17,18,19,20,21,22,23,24,25,26,27,28,29,30,31,32,33,34,35,36],(.new [])⟩,
⟨(some 44),(some (41,false)),.fieldA 20 (.t 3),[0,1,2,3,4,5,6,7,8,9,10,11,12,13,14,15,16,17,18,19,20,21,22,23,24,25,26,27,28,29,30,31,32,33,34,35],(.new [])⟩,
⟨(some 45),(some (41,false)),.load none (.t 44),[0,1,2,3,4,5,6,7,8,9,10,11,12,13,14,15,16,17,18,19,20,21,22,23,24,25,26,27,28,29,30,31,32,33,34,35,38],(.new [])⟩,
⟨(some 46),(some (41,false)),.bin .neq (.t 43) (.t 45),[0,1,2,3,4,5,6,7,8,9,10,11,12,13,14,15,16,17,18,19,20,21,22,23,24,25,26,27,28,29,30,31,32,33,34,35,36,37,38,39],(.new [])⟩,
zl 47 (.pick (.t 41) (kB true) (.t 46)) [0,1,2,3,4,5,6,7,8,9,10,11,12,13,14,15,16,17,18,19,20,21,22,23,24,25,26,27,28,29,30,31,32,33,34,35,36,37,38,39,40] [],
sd 48 (.mv (.t 47)) [0,1,2,3,4,5,6,7,8,9,10,11,12,13,14,15,16,17,18,19,20,21,22,23,24,25,26,27,28,29,30,31,32,33,34,35,36,37,38,39,40,41],
⟨(some 49),(some (48,false)),.fieldA 0 (.t 2),[0,1,2,3,4,5,6,7,8,9,10,11,12,13,14,15,16,17,18,19,20,21,22,23,24,25,26,27,28,29,30,31,32,33,34,35,36,37,38,39,40,41,42],(.new [])⟩,
⟨(some 50),(some (48,false)),.load (some 13) (.t 49),[0,1,2,3,4,5,6,7,8,9,10,11,12,13,14,15,16,17,18,19,20,21,22,23,24,25,26,27,28,29,30,31,32,33,34,35,36,37,38,39,40,41,42,43],(.new [])⟩,
⟨(some 51),(some (48,false)),.call 20 [(.t 50)],[0,1,2,3,4,5,6,7,8,9,10,11,12,13,14,15,16,17,18,19,20,21,22,23,24,25,26,27,28,29,30,31,32,33,34,35,36,37,38,39,40,41,42,43,44],(.new [43,44])⟩,
⟨(some 52),(some (48,false)),.fieldA 0 (.t 3),[0,1,2,3,4,5,6,7,8,9,10,11,12,13,14,15,16,17,18,19,20,21,22,23,24,25,26,27,28,29,30,31,32,33,34,35,36,37,38,39,40,41,42],(.new [])⟩,
⟨(some 53),(some (48,false)),.load (some 13) (.t 52),[0,1,2,3,4,5,6,7,8,9,10,11,12,13,14,15,16,17,18,19,20,21,22,23,24,25,26,27,28,29,30,31,32,33,34,35,36,37,38,39,40,41,42,46],(.new [])⟩,
⟨(some 54),(some (48,false)),.call 20 [(.t 53)],[0,1,2,3,4,5,6,7,8,9,10,11,12,13,14,15,16,17,18,19,20,21,22,23,24,25,26,27,28,29,30,31,32,33,34,35,36,37,38,39,40,41,42,43,44,45,46,47],(.lone [])⟩,
⟨(some 55),(some (48,false)),.bin .neq (.t 51) (.t 54),[0,1,2,3,4,5,6,7,8,9,10,11,12,13,14,15,16,17,18,19,20,21,22,23,24,25,26,27,28,29,30,31,32,33,34,35,36,37,38,39,40,41,42,43,44,45,46,47,48],(.new [])⟩,
zl 56 (.pick (.t 48) (kB true) (.t 55)) [0,1,2,3,4,5,6,7,8,9,10,11,12,13,14,15,16,17,18,19,20,21,22,23,24,25,26,27,28,29,30,31,32,33,34,35,36,37,38,39,40,41,42,43,44,45,46,47,48,49] []]))
 (.cond (.t 56)
 (.seq (.reg [Qf 4 false])
 .ret)
 .skip))
 (.seq (.seq (.reg [Qe 5 0])
 (.sem (.block 0 (.loop (.seq (.seq (.reg [Qa 57 5,
Qb 58 21 2,
Qd 59 58,
Qh 60 59,
Qn 61 57 60])
 (.cond (.t 61)
 .skip
 (.exit 0)))
 (.seq (.block 1 (.seq (.regd [Qb 64 21 2,
sd 65 (.load none (.t 64)) [0],
Qa 66 5,
sd 67 (.indexA 2 (.t 65) (.t 66)) [0,1,2],
sd 68 (.load (some 2) (.t 67)) [0,1,2,3],
Qb 69 21 3,
sd 70 (.load none (.t 69)) [5],
Qa 71 5,
sd 72 (.indexA 2 (.t 70) (.t 71)) [5,6,7],
sd 73 (.load (some 2) (.t 72)) [5,6,7,8],
zl 74 (.eqs true [(0,2),(1,0)] (.t 68) (.t 73)) [0,1,2,3,4,5,6,7,8,9] []])
 (.cond (.t 74)
 (.seq (.reg [Qf 4 false])
 .ret)
 .skip)))
 (.reg [Qa 62 5,
Qm 63 62 1,
Qa 5 63])))))))
 (.seq (.sem (.reg [Qb 75 13 2,
Qd 76 75,
Qh 77 76,
Qb 78 13 3,
Qd 79 78,
Qh 80 79,
sq 81 (.bin .eql (.t 77) (.t 80)),
Qa 82 81,
Qs 83 82 true 14 2,
Qt 84 82 true 83,
zg 85 82 true (.len (.t 84)),
Qs 86 82 true 14 3,
Qt 87 82 true 86,
zg 88 82 true (.len (.t 87)),
zg 89 82 true (.bin .eql (.t 85) (.t 88)),
Qi 90 82 89,
Qa 91 90,
Qs 92 91 true 15 2,
Qt 93 91 true 92,
zg 94 91 true (.len (.t 93)),
Qs 95 91 true 15 3,
Qt 96 91 true 95,
zg 97 91 true (.len (.t 96)),
zg 98 91 true (.bin .eql (.t 94) (.t 97)),
Qi 99 91 98,
Qa 4 99]))
 .ret))))⟩
theorem F10_ok{x0 x1 r}(h:F10 x0 x1=some r):CallD Try.prog 10 [.agg (bBudget x0),.agg (bBudget x1)] [] (tupV [.c (dB r)]) []:=by
 rw[F10]at h
 refine zc a10 (by kernel_rfl) rfl (ww ?_)
 obtain⟨o1,ho,h⟩:=bi h
 refine cutS (fun s=>s=⟨[(2,Pz 0),(3,Pz 1),(56,oc (dB o1))],[xb (bBudget x0),xb (bBudget x1)]⟩) ?_ ?_
 ·have h:=ho
  clear ho
  refine ww ?_
  refine guardDh h (fun g2 h=>ww ?_) (fun g2 h=>ww ?_)
  ·cases h
   exact eM [some 0,some 1] rfl
  refine guardDh h (fun g3 h=>ww ?_) (fun g3 h=>ww ?_)
  ·cases h
   exact eM [some 0,some 1] rfl
  refine guardDh h (fun g4 h=>ww ?_) (fun g4 h=>ww ?_)
  ·cases h
   exact eM [some 0,some 1] rfl
  refine guardDh h (fun g5 h=>ww ?_) (fun g5 h=>ww ?_)
  ·cases h
   exact eM [some 0,some 1] rfl
  refine guardDh h (fun g6 h=>ww ?_) (fun g6 h=>ww ?_)
  ·cases h
   exact eM [some 0,some 1] rfl
  refine guardDh h (fun g7 h=>ww ?_) (fun g7 h=>ww ?_)
  ·cases h
   exact eM [some 0,some 1] rfl
  obtain⟨t8,ht8,h⟩:=bi h
  refine cN [] (F20_ok ht8) trivial (ww ?_)
  obtain⟨t9,ht9,h⟩:=bi h
  refine cN [] (F20_ok ht9) trivial (ww ?_)
  cases h
  exact eM [some 0,some 1] rfl
 rintro _ rfl
 clear ho
 refine ww ?_
 refine condBh h (fun c10 h=>ww ?_) (fun c10 h=>ww ?_)
 ·cases h
  exact eF []
 obtain⟨o11,ho,h⟩:=bi h
 refine cutS (fun s=>∃po11,o11=Sum.inr po11∧s=⟨[(2,Pz 0),(3,Pz 1)],[xb (bBudget x0),xb (bBudget x1)]⟩) ?_ ?_
 ·have h0o11:=h
  have h:=ho
  clear ho
  obtain⟨_,hk,h⟩:=bi h
  have hk:=ck_some hk
  refine ww ?_
  refine bL (fun j s=>∃(o11_0:Nat),(o11_0≤x0.Disrupted.length∧j=x0.Disrupted.length-o11_0)∧s=⟨[(2,Pz 0),(3,Pz 1),(5,oc (dI ((o11_0:Int))))],[xb (bBudget x0),xb (bBudget x1)]⟩∧F10_l11 x1 (x0.Disrupted.drop o11_0) o11_0=some o11) (x0.Disrupted.length-0) [some 0,some 1] ⟨0,⟨hk.1,rfl⟩,rfl,h⟩ ?_
  rintro _ _ ⟨o11_0,⟨hi,rfl⟩,rfl,h⟩
  refine ww ?_
  refine condS (fun c12=>?_) (fun c12=>?_)
  ·obtain⟨xo11,hxo11,hd⟩:=countY (show(o11_0:Int)<(x0.Disrupted.length:Int)from c12)
   rw[hd,F10_l11]at h
   refine ww ?_
   refine t_idxF (enc:=eWorkItem) (xs:=x0.Disrupted) rfl rfl hxo11 rfl (ww ?_)
   obtain⟨y13,hy13,h⟩:=bi h
   refine t_idxF (enc:=eWorkItem) (xs:=x1.Disrupted) rfl rfl hy13 rfl (ww ?_)
   refine condSh h (fun c14 h=>ww ?_) (fun c14 h=>ww ?_)
   ·obtain⟨fh0o11,hfh0o11,rfl⟩:=Option.map_eq_some_iff.1 h
    have h:=hfh0o11.trans h0o11
    cases h
    exact eF []
   rw[wrapN (by omega)]
   exact eL' (x0.Disrupted.length-(o11_0+1)) [some 0,some 1] ⟨o11_0+1,⟨by omega,rfl⟩,rfl,h⟩ (by omega)
  rw[countN (show¬((o11_0:Int)<(x0.Disrupted.length:Int))from c12),F10_l11]at h
  refine ww ?_
  cases h
  exact eM [some 0,some 1] ⟨_,rfl,rfl⟩
 rintro _ ⟨po11,rfl,rfl⟩
 clear ho
 dsimp only at h
 refine ww ?_
 obtain⟨o16,ho,h⟩:=bi h
 refine cutS (fun s=>s=⟨[(4,oc (dB o16))],[]⟩) ?_ ?_
 ·have h:=ho
  clear ho
  refine ww ?_
  refine guardSh h (fun g17 h=>ww ?_) (fun g17 h=>ww ?_)
  ·refine guardSh h (fun g18 h=>ww ?_) (fun g18 h=>ww ?_)
   ·cases h
    exact eM [] rfl
   cases h
   exact eM [] rfl
  cases h
  exact eM [] rfl
 rintro _ rfl
 clear ho
 refine ww ?_
 cases h
 exact eF []
end Go.Proofs.Ytedgocbpegllaaa
