/- Each Go function as a function over typed data, and its walk. -/
import Derived.Test.YtondgcmdhkhkkaaGreatW0
import Derived.Test.YtondgcmdhkhkkaaGreatW1
import Derived.Test.YtondgcmdhkhkkaaGreatW3
import Derived.Test.YtondgcmdhkhkkaaGreatW12
import Derived.Test.YtondgcmdhkhkkaaGreatW14
namespace Go.Proofs.YtondgcmdhkhkkaaGreat
open Go Go.Fw Go.Shelf
set_option maxRecDepth 100000
set_option maxHeartbeats 4000000
set_option linter.unusedSimpArgs false
set_option linter.unusedVariables false
def F10:Option (Bool):=(((F30).bind fun t2=>some ((t2.1,t2.2.1,t2.2.2.1,t2.2.2.2.1,t2.2.2.2.2.1,t2.2.2.2.2.2))).bind fun o1=>(((F31 ((⟨#[120]⟩:ByteArray))).bind fun t4=>(F12 ((⟨o1.1,o1.2.1,o1.2.2.1,o1.2.2.2.1,o1.2.2.2.2.1,o1.2.2.2.2.2⟩:TStore)) ((⟨(⟨#[]⟩:ByteArray),(⟨#[]⟩:ByteArray),[(⟨(⟨#[97,112,112]⟩:ByteArray),1,[((⟨#[120]⟩:ByteArray))]⟩:Requirement)]⟩:Filter)) 0).bind fun t5=>some ((t5.1,t5.2.1,t5.2.2.1,t5.2.2.2.1,t5.2.2.2.2))).bind fun o3=>(F14 ((⟨o1.1,o1.2.1,o1.2.2.1,o1.2.2.2.1,o1.2.2.2.2.1,o1.2.2.2.2.2⟩:TStore)) ((⟨(⟨o3.1,o3.2.1,o3.2.2.1⟩:Filter),o3.2.2.2.1⟩:Watcher)) 9).bind fun t6=>(F14 ((⟨o1.1,o1.2.1,o1.2.2.1,o1.2.2.2.1,o1.2.2.2.2.1,o1.2.2.2.2.2⟩:TStore)) ((⟨(⟨o3.1,o3.2.1,o3.2.2.1⟩:Filter),o3.2.2.2.1⟩:Watcher)) 1).bind fun t7=>(F31 ((⟨#[121]⟩:ByteArray))).bind fun t8=>(F14 ((⟨o1.1,o1.2.1,o1.2.2.1,o1.2.2.2.1,o1.2.2.2.2.1,o1.2.2.2.2.2⟩:TStore)) ((⟨(⟨(⟨#[]⟩:ByteArray),(⟨#[]⟩:ByteArray),[(⟨(⟨#[97,112,112]⟩:ByteArray),1,[((⟨#[121]⟩:ByteArray))]⟩:Requirement)]⟩:Filter),0⟩:Watcher)) 9).bind fun t9=>(F31 ((⟨#[120]⟩:ByteArray))).bind fun t10=>(F12 ((⟨o1.1,o1.2.1,o1.2.2.1,o1.2.2.2.1,o1.2.2.2.2.1,o1.2.2.2.2.2⟩:TStore)) ((⟨(⟨#[]⟩:ByteArray),(⟨#[]⟩:ByteArray),[(⟨(⟨#[97,112,112]⟩:ByteArray),1,[((⟨#[120]⟩:ByteArray))]⟩:Requirement)]⟩:Filter)) 5).bind fun t11=>(((if¬(o3.2.2.2.2=0)then some true else(if¬(t6.2.2.2=0)then some true else(if¬(t7.2.2.2=0)then some true else(if¬(t9.2.2.2=0)then some true else(if¬(t11.2.2.2.2=5)then some true else(if¬((t6.2.2.1.length:Int)=3)then some true else(if¬((t7.2.2.1.length:Int)=1)then some true else some (decide (¬((t9.2.2.1.length:Int)=2))))))))))).bind fun o12=>(if o12=true then some false else(((rdI t6.2.2.1 0).bind fun y22=>(if y22.Type_=1 then(rdI t6.2.2.1 0).bind fun y24=>(if y24.Rev=1 then(rdI t6.2.2.1 1).bind fun y26=>(if y26.Type_=3 then(rdI t6.2.2.1 1).bind fun y28=>(if y28.Rev=3 then(rdI t6.2.2.1 2).bind fun y30=>(if y30.Type_=4 then(rdI t6.2.2.1 2).bind fun y32=>(if y32.Rev=4 then(if t6.2.1=4 then(rdI t7.2.2.1 0).bind fun y35=>(if y35.Rev=1 then(if t7.2.1=1 then(rdI t9.2.2.1 0).bind fun y38=>(if y38.Rev=3 then(rdI t9.2.2.1 1).bind fun y40=>some (decide (y40.Type_=3))else some false)else some false)else some false)else some false)else some false)else some false)else some false)else some false)else some false)else some false)).bind fun o21=>some o21)))))
def a10:AFn:=⟨154,[(.tmp 0)],
 (.seq (.reg [sq 0 (.mv (kB false))])
 (.seq (.sem (.reg [sq 15 (.call 30 []),
sq 1 (.zbox [dI 0,dI 0,dI 0,dN,dN,dN]),
su (.store 6 (.t 1) (.t 15))]))
 (.seq (.sem (.regd [sq 17 (.load (some 6) (.t 1)),
sq 18 (.call 31 [(kS ⟨#[120]⟩)]),
zn 19 (.call 12 [(.t 17),(.t 18),(kI 0)]) [0,1] [0,1],
sd 16 (.mv (.t 19)) [0,1,2],
sd 20 (.ext (.t 16) 0) [0,1,2,3],
sd 21 (.ext (.t 16) 1) [0,1,2,3],
sq 2 (.zbox [dS ⟨#[]⟩,dS ⟨#[]⟩,dN,dI 0]),
⟨none,none,.store 4 (.t 2) (.t 20),[0,1,2,3,4,6],(.lone [])⟩,
sd 3 (.mv (.t 21)) [0,1,2,3,4,5,6,7]]))
 (.seq (.reg [sq 23 (.load (some 6) (.t 1)),
sq 24 (.load (some 4) (.t 2)),
sq 25 (.call 14 [(.t 23),(.t 24),(kI 9)]),
sq 22 (.mv (.t 25)),
sq 26 (.ext (.t 22) 0),
sq 27 (.ext (.t 22) 1),
sq 28 (.ext (.t 22) 2),
sq 4 (.zbox [dS ⟨#[]⟩,dS ⟨#[]⟩,dN,dI 0]),
su (.store 4 (.t 4) (.t 26)),
sq 5 (.mv (.t 27)),
sq 6 (.mv (.t 28))])
 (.seq (.reg [sq 30 (.load (some 6) (.t 1)),
sq 31 (.load (some 4) (.t 2)),
sq 32 (.call 14 [(.t 30),(.t 31),(kI 1)]),
sq 29 (.mv (.t 32)),
sq 33 (.ext (.t 29) 0),
sq 34 (.ext (.t 29) 1),
sq 35 (.ext (.t 29) 2),
sq 7 (.zbox [dS ⟨#[]⟩,dS ⟨#[]⟩,dN,dI 0]),
su (.store 4 (.t 7) (.t 33)),
sq 8 (.mv (.t 34)),
sq 9 (.mv (.t 35))])
 (.seq (.regd [sq 37 (.load (some 6) (.t 1)),
sq 38 (.call 31 [(kS ⟨#[121]⟩)]),
sd 39 (.build [dS ⟨#[]⟩,dS ⟨#[]⟩,dN,dI 0] [(0,3,(.t 38))]) [1],
zn 40 (.call 14 [(.t 37),(.t 39),(kI 9)]) [0,1,2] [0,1,2],
sd 36 (.mv (.t 40)) [0,1,2,3],
sd 41 (.ext (.t 36) 0) [0,1,2,3,4],
sd 42 (.ext (.t 36) 1) [0,1,2,3,4],
sd 43 (.ext (.t 36) 2) [0,1,2,3,4],
sq 10 (.zbox [dS ⟨#[]⟩,dS ⟨#[]⟩,dN,dI 0]),
⟨none,none,.store 4 (.t 10) (.t 41),[0,1,2,3,4,5,8],(.lone [])⟩,
sd 11 (.mv (.t 42)) [0,1,2,3,4,5,6,8,9],
sd 12 (.mv (.t 43)) [0,1,2,3,4,5,6,7,8,9,10]])
 (.seq (.regd [sq 45 (.load (some 6) (.t 1)),
sq 46 (.call 31 [(kS ⟨#[120]⟩)]),
zn 47 (.call 12 [(.t 45),(.t 46),(kI 5)]) [0,1] [0,1],
sd 44 (.mv (.t 47)) [0,1,2],
sd 48 (.ext (.t 44) 0) [0,1,2,3],
sd 49 (.ext (.t 44) 1) [0,1,2,3],
sq 13 (.zbox [dS ⟨#[]⟩,dS ⟨#[]⟩,dN,dI 0]),
⟨none,none,.store 4 (.t 13) (.t 48),[0,1,2,3,4,6],(.lone [])⟩,
sd 14 (.mv (.t 49)) [0,1,2,3,4,5,6,7]])
 (.seq (.seq (.sem (.reg [sq 50 (.mv (.t 3)),
sq 51 (.bin .neq (.t 50) (kI 0)),
sq 52 (.mv (.t 51)),
zg 53 52 false (.mv (.t 6)),
zg 54 52 false (.bin .neq (.t 53) (kI 0)),
sq 55 (.pick (.t 52) (kB true) (.t 54)),
sq 56 (.mv (.t 55)),
zg 57 56 false (.mv (.t 9)),
zg 58 56 false (.bin .neq (.t 57) (kI 0)),
sq 59 (.pick (.t 56) (kB true) (.t 58)),
sq 60 (.mv (.t 59)),
zg 61 60 false (.mv (.t 12)),
zg 62 60 false (.bin .neq (.t 61) (kI 0)),
sq 63 (.pick (.t 60) (kB true) (.t 62)),
sq 64 (.mv (.t 63)),
zg 65 64 false (.mv (.t 14)),
zg 66 64 false (.bin .neq (.t 65) (kI 5)),
sq 67 (.pick (.t 64) (kB true) (.t 66)),
sq 68 (.mv (.t 67)),
zg 69 68 false (.mv (.t 5)),
zg 70 68 false (.len (.t 69)),
zg 71 68 false (.bin .neq (.t 70) (kI 3)),
sq 72 (.pick (.t 68) (kB true) (.t 71)),
sq 73 (.mv (.t 72)),
zg 74 73 false (.mv (.t 8)),
zg 75 73 false (.len (.t 74)),
zg 76 73 false (.bin .neq (.t 75) (kI 1)),
sq 77 (.pick (.t 73) (kB true) (.t 76)),
sq 78 (.mv (.t 77)),
zg 79 78 false (.mv (.t 11)),
zg 80 78 false (.len (.t 79)),
zg 81 78 false (.bin .neq (.t 80) (kI 2)),
sq 82 (.pick (.t 78) (kB true) (.t 81))]))
 (.cond (.t 82)
 (.seq (.reg [sq 0 (.mv (kB false))])
 .ret)
 .skip))
 (.seq (.sem (.reg [sq 83 (.mv (.t 5)),
sq 84 (.indexA 25 (.t 83) (kI 0)),
sq 85 (.fieldA 0 (.t 84)),
sq 86 (.load none (.t 85)),
sq 87 (.bin .eql (.t 86) (kI 1)),
sq 88 (.mv (.t 87)),
zg 89 88 true (.mv (.t 5)),
zg 90 88 true (.indexA 25 (.t 89) (kI 0)),
zg 91 88 true (.fieldA 1 (.t 90)),
zg 92 88 true (.load none (.t 91)),
zg 93 88 true (.bin .eql (.t 92) (kI 1)),
sq 94 (.pick (.t 88) (.t 93) (kB false)),
sq 95 (.mv (.t 94)),
zg 96 95 true (.mv (.t 5)),
zg 97 95 true (.indexA 25 (.t 96) (kI 1)),
zg 98 95 true (.fieldA 0 (.t 97)),
zg 99 95 true (.load none (.t 98)),
zg 100 95 true (.bin .eql (.t 99) (kI 3)),
sq 101 (.pick (.t 95) (.t 100) (kB false)),
sq 102 (.mv (.t 101)),
zg 103 102 true (.mv (.t 5)),
zg 104 102 true (.indexA 25 (.t 103) (kI 1)),
zg 105 102 true (.fieldA 1 (.t 104)),
zg 106 102 true (.load none (.t 105)),
zg 107 102 true (.bin .eql (.t 106) (kI 3)),
sq 108 (.pick (.t 102) (.t 107) (kB false)),
sq 109 (.mv (.t 108)),
zg 110 109 true (.mv (.t 5)),
zg 111 109 true (.indexA 25 (.t 110) (kI 2)),
zg 112 109 true (.fieldA 0 (.t 111)),
zg 113 109 true (.load none (.t 112)),
zg 114 109 true (.bin .eql (.t 113) (kI 4)),
sq 115 (.pick (.t 109) (.t 114) (kB false)),
sq 116 (.mv (.t 115)),
zg 117 116 true (.mv (.t 5)),
zg 118 116 true (.indexA 25 (.t 117) (kI 2)),
zg 119 116 true (.fieldA 1 (.t 118)),
zg 120 116 true (.load none (.t 119)),
zg 121 116 true (.bin .eql (.t 120) (kI 4)),
sq 122 (.pick (.t 116) (.t 121) (kB false)),
sq 123 (.mv (.t 122)),
zg 124 123 true (.fieldA 3 (.t 4)),
zg 125 123 true (.load none (.t 124)),
zg 126 123 true (.bin .eql (.t 125) (kI 4)),
sq 127 (.pick (.t 123) (.t 126) (kB false)),
sq 128 (.mv (.t 127)),
zg 129 128 true (.mv (.t 8)),
zg 130 128 true (.indexA 25 (.t 129) (kI 0)),
zg 131 128 true (.fieldA 1 (.t 130)),
zg 132 128 true (.load none (.t 131)),
zg 133 128 true (.bin .eql (.t 132) (kI 1)),
sq 134 (.pick (.t 128) (.t 133) (kB false)),
sq 135 (.mv (.t 134)),
zg 136 135 true (.fieldA 3 (.t 7)),
zg 137 135 true (.load none (.t 136)),
zg 138 135 true (.bin .eql (.t 137) (kI 1)),
sq 139 (.pick (.t 135) (.t 138) (kB false)),
sq 140 (.mv (.t 139)),
zg 141 140 true (.mv (.t 11)),
zg 142 140 true (.indexA 25 (.t 141) (kI 0)),
zg 143 140 true (.fieldA 1 (.t 142)),
zg 144 140 true (.load none (.t 143)),
zg 145 140 true (.bin .eql (.t 144) (kI 3)),
sq 146 (.pick (.t 140) (.t 145) (kB false)),
sq 147 (.mv (.t 146)),
zg 148 147 true (.mv (.t 11)),
zg 149 147 true (.indexA 25 (.t 148) (kI 1)),
zg 150 147 true (.fieldA 0 (.t 149)),
zg 151 147 true (.load none (.t 150)),
zg 152 147 true (.bin .eql (.t 151) (kI 3)),
sq 153 (.pick (.t 147) (.t 152) (kB false)),
sq 0 (.mv (.t 153))]))
 .ret)))))))))⟩
theorem a10_ok:afn Tryz.prog 10=some a10.er:=by kernel_rfl
theorem F10_ok{r}(h:F10=some r):CallD Tryz.prog 10 [] [] (tupV [.c (dB r)]) []:=by
 refine callS a10_ok (by simp[a10]) ?_
 rw[F10]at h
 simp only[a10,VW.down,Nat.reduceEqDiff,reduceCtorEq,Nat.reduceAdd,Nat.reduceLeDiff,Nat.reduceLT,Nat.reduceBEq,Nat.reduceSub,EE.down]
 obtain⟨o1,ho,h⟩:=bi h
 refine cutS (fun s=>s=⟨[(1,.one (.c (.pt 0 0)))],[some (.box [dI o1.1,dI o1.2.1,dI o1.2.2.1,dM (o1.2.2.2.1.map eObject),dM (o1.2.2.2.2.1.map eObject),dM (o1.2.2.2.2.2.map eChange)])]⟩) ?_ ?_
 ·have h:=ho
  clear ho
  refine ww ?_
  obtain⟨t2,ht2,h⟩:=bi h
  refine cN [] (F30_ok ht2) trivial (ww ?_)
  cases h
  exact eM [some 3] rfl
 rintro _ rfl
 clear ho
 refine ww ?_
 obtain⟨o3,ho,h⟩:=bi h
 refine cutS (fun s=>s=⟨[(1,.one (.c (.pt 0 0))),(2,.one (.c (.pt 1 0))),(3,.one (.c (dI o3.2.2.2.2)))],[some (.box [dI o1.1,dI o1.2.1,dI o1.2.2.1,dM (o1.2.2.2.1.map eObject),dM (o1.2.2.2.2.1.map eObject),dM (o1.2.2.2.2.2.map eChange)]),some (.box [dS o3.1,dS o3.2.1,dM (o3.2.2.1.map eRequirement),dI o3.2.2.2.1])]⟩) ?_ ?_
 ·have h:=ho
  clear ho
  refine ww ?_
  obtain⟨t4,ht4,h⟩:=bi h
  refine cN [] (F31_ok ht4) trivial (ww ?_)
  refine kD_new (by simp[wrs,allW,hset]) (ww ?_)
  obtain⟨t5,ht5,h⟩:=bi h
  refine callX_gen (as1:=[.agg [dI o1.1,dI o1.2.1,dI o1.2.2.1,dM (o1.2.2.2.1.map eObject),dM (o1.2.2.2.2.1.map eObject),dM (o1.2.2.2.2.2.map eChange)],.agg [dS ((⟨#[]⟩:ByteArray)),dS ((⟨#[]⟩:ByteArray)),dM (([(⟨(⟨#[97,112,112]⟩:ByteArray),1,[((⟨#[120]⟩:ByteArray))]⟩:Requirement)]).map eRequirement)],.c (dI 0)]) [(1,.arr 1 3 [])] [some 0,none] [] (F12_ok ht5) ⟨?_,rfl,?_⟩ ?_ ?_ ?_ ?_ ?_ ?_ ?_ ?_
  ·simp only[ZZ.down,Nat.reduceEqDiff,reduceCtorEq,Nat.reduceAdd,Nat.reduceLeDiff,Nat.reduceLT,Nat.reduceBNe,EE.down]
  ·simp only[ZZ.down,Nat.reduceEqDiff,reduceCtorEq,Nat.reduceAdd,Nat.reduceLeDiff,Nat.reduceLT,Nat.reduceBNe,EE.down]
  ·simp only[ZZ.down,Nat.reduceEqDiff,reduceCtorEq,Nat.reduceAdd,Nat.reduceLeDiff,Nat.reduceLT,Nat.reduceBNe,EE.down]
  ·rfl
  ·rfl
  ·simp[liveAll,A1.live,C.live]
  ·rfl
  ·decide
  ·exact trivial
  refine ww ?_
  refine kD_own (by simp[wrs,allW,hset,ownW]) (ww ?_)
  refine kD_new (by simp[wrs,allW,hset]) (ww ?_)
  cases h
  exact eM [some 0,some 3] rfl
 rintro _ rfl
 clear ho
 refine ww ?_
 obtain⟨t6,ht6,h⟩:=bi h
 refine cN [] (F14_ok ht6) trivial (ww ?_)
 obtain⟨t7,ht7,h⟩:=bi h
 refine cN [] (F14_ok ht7) trivial (ww ?_)
 obtain⟨t8,ht8,h⟩:=bi h
 refine cN [] (F31_ok ht8) trivial (ww ?_)
 refine kD_new (by simp[wrs,allW,hset]) (ww ?_)
 obtain⟨t9,ht9,h⟩:=bi h
 refine callX_gen (as1:=[.agg [dI o1.1,dI o1.2.1,dI o1.2.2.1,dM (o1.2.2.2.1.map eObject),dM (o1.2.2.2.2.1.map eObject),dM (o1.2.2.2.2.2.map eChange)],.agg [dS ((⟨#[]⟩:ByteArray)),dS ((⟨#[]⟩:ByteArray)),dM (([(⟨(⟨#[97,112,112]⟩:ByteArray),1,[((⟨#[121]⟩:ByteArray))]⟩:Requirement)]).map eRequirement),dI 0],.c (dI 9)]) [(8,.arr 1 3 [])] [some 0,some 1,some 2,some 3,some 4,some 5,some 6,some 7,none] [] (F14_ok ht9) ⟨?_,rfl,?_⟩ ?_ ?_ ?_ ?_ ?_ ?_ ?_ ?_
 ·simp only[ZZ.down,Nat.reduceEqDiff,reduceCtorEq,Nat.reduceAdd,Nat.reduceLeDiff,Nat.reduceLT,Nat.reduceBNe,EE.down]
 ·simp only[ZZ.down,Nat.reduceEqDiff,reduceCtorEq,Nat.reduceAdd,Nat.reduceLeDiff,Nat.reduceLT,Nat.reduceBNe,EE.down]
 ·simp only[ZZ.down,Nat.reduceEqDiff,reduceCtorEq,Nat.reduceAdd,Nat.reduceLeDiff,Nat.reduceLT,Nat.reduceBNe,EE.down]
 ·rfl
 ·rfl
 ·simp[liveAll,A1.live,C.live]
 ·rfl
 ·decide
 ·exact trivial
 refine ww ?_
 refine kD_own (by simp[wrs,allW,hset,ownW]) (ww ?_)
 refine kD_new (by simp[wrs,allW,hset]) (ww ?_)
 obtain⟨t10,ht10,h⟩:=bi h
 refine cN [] (F31_ok ht10) trivial (ww ?_)
 refine kD_new (by simp[wrs,allW,hset]) (ww ?_)
 obtain⟨t11,ht11,h⟩:=bi h
 refine callX_gen (as1:=[.agg [dI o1.1,dI o1.2.1,dI o1.2.2.1,dM (o1.2.2.2.1.map eObject),dM (o1.2.2.2.2.1.map eObject),dM (o1.2.2.2.2.2.map eChange)],.agg [dS ((⟨#[]⟩:ByteArray)),dS ((⟨#[]⟩:ByteArray)),dM (([(⟨(⟨#[97,112,112]⟩:ByteArray),1,[((⟨#[120]⟩:ByteArray))]⟩:Requirement)]).map eRequirement)],.c (dI 5)]) [(12,.arr 1 3 [])] [some 0,some 1,some 2,some 3,some 4,some 5,some 6,some 7,some 8,some 9,some 10,some 11,none] [] (F12_ok ht11) ⟨?_,rfl,?_⟩ ?_ ?_ ?_ ?_ ?_ ?_ ?_ ?_
 ·simp only[ZZ.down,Nat.reduceEqDiff,reduceCtorEq,Nat.reduceAdd,Nat.reduceLeDiff,Nat.reduceLT,Nat.reduceBNe,EE.down]
 ·simp only[ZZ.down,Nat.reduceEqDiff,reduceCtorEq,Nat.reduceAdd,Nat.reduceLeDiff,Nat.reduceLT,Nat.reduceBNe,EE.down]
 ·simp only[ZZ.down,Nat.reduceEqDiff,reduceCtorEq,Nat.reduceAdd,Nat.reduceLeDiff,Nat.reduceLT,Nat.reduceBNe,EE.down]
 ·rfl
 ·rfl
 ·simp[liveAll,A1.live,C.live]
 ·rfl
 ·decide
 ·exact trivial
 refine ww ?_
 refine kD_own (by simp[wrs,allW,hset,ownW]) (ww ?_)
 refine kD_new (by simp[wrs,allW,hset]) (ww ?_)
 obtain⟨o12,ho,h⟩:=bi h
 refine cutS (fun s=>s=⟨[(4,.one (.c (.pt 0 0))),(5,.one (.c (.own 2 0 0 (t6.2.2.1.length) none))),(7,.one (.c (.pt 3 0))),(8,.one (.c (.own 5 0 0 (t7.2.2.1.length) none))),(11,.one (.c (.own 6 0 0 (t9.2.2.1.length) none))),(82,.one (.c (dB o12)))],[some (.box [dS o3.1,dS o3.2.1,.own 1 0 0 (t6.1.length) none,dI t6.2.1]),some (.arr 0 3 (t6.1.map eRequirement)),some (.arr 0 25 (t6.2.2.1.map eEvent)),some (.box [dS o3.1,dS o3.2.1,.own 4 0 0 (t7.1.length) none,dI t7.2.1]),some (.arr 0 3 (t7.1.map eRequirement)),some (.arr 0 25 (t7.2.2.1.map eEvent)),some (.arr 0 25 (t9.2.2.1.map eEvent))]⟩) ?_ ?_
 ·have h:=ho
  clear ho
  refine ww ?_
  refine guardSh h (fun g13 h=>?_) (fun g13 h=>?_)
  ·refine ww ?_
   cases h
   exact eM [some 4,some 2,some 3,some 7,some 5,some 6,some 10] rfl
  refine ww ?_
  refine guardSh h (fun g14 h=>?_) (fun g14 h=>?_)
  ·refine ww ?_
   cases h
   exact eM [some 4,some 2,some 3,some 7,some 5,some 6,some 10] rfl
  refine ww ?_
  refine guardSh h (fun g15 h=>?_) (fun g15 h=>?_)
  ·refine ww ?_
   cases h
   exact eM [some 4,some 2,some 3,some 7,some 5,some 6,some 10] rfl
  refine ww ?_
  refine guardSh h (fun g16 h=>?_) (fun g16 h=>?_)
  ·refine ww ?_
   cases h
   exact eM [some 4,some 2,some 3,some 7,some 5,some 6,some 10] rfl
  refine ww ?_
  refine guardSh h (fun g17 h=>?_) (fun g17 h=>?_)
  ·refine ww ?_
   cases h
   exact eM [some 4,some 2,some 3,some 7,some 5,some 6,some 10] rfl
  refine ww ?_
  refine guardSh h (fun g18 h=>?_) (fun g18 h=>?_)
  ·refine ww ?_
   cases h
   exact eM [some 4,some 2,some 3,some 7,some 5,some 6,some 10] rfl
  refine ww ?_
  refine guardSh h (fun g19 h=>?_) (fun g19 h=>?_)
  ·refine ww ?_
   cases h
   exact eM [some 4,some 2,some 3,some 7,some 5,some 6,some 10] rfl
  refine ww ?_
  cases h
  exact eM [some 4,some 2,some 3,some 7,some 5,some 6,some 10] rfl
 rintro _ rfl
 clear ho
 refine ww ?_
 refine condBh h (fun c20 h=>?_) (fun c20 h=>?_)
 ·refine ww ?_
  cases h
  exact eF []
 refine ww ?_
 obtain⟨o21,ho,h⟩:=bi h
 refine cutS (fun s=>s=⟨[(0,.one (.c (dB o21)))],[]⟩) ?_ ?_
 ·have h:=ho
  clear ho
  refine ww ?_
  obtain⟨y22,hy22,h⟩:=bi h
  refine t_idxO (enc:=eEvent) (xs:=t6.2.2.1) rfl rfl rfl (by first|rfl|simp only[List.length_set]|exact(clrL_len (slI_len (by assumption))).symm) hy22 (ww ?_)
  refine LdRow.rd (rdI_some hy22).2.1 (ww ?_)
  refine guardSh h (fun g23 h=>?_) (fun g23 h=>?_)
  ·refine ww ?_
   obtain⟨y24,hy24,h⟩:=bi h
   refine t_idxO (enc:=eEvent) (xs:=t6.2.2.1) rfl rfl rfl (by first|rfl|simp only[List.length_set]|exact(clrL_len (slI_len (by assumption))).symm) hy24 (ww ?_)
   refine LdRow.rd (rdI_some hy24).2.1 (ww ?_)
   refine guardSh h (fun g25 h=>?_) (fun g25 h=>?_)
   ·refine ww ?_
    obtain⟨y26,hy26,h⟩:=bi h
    refine t_idxO (enc:=eEvent) (xs:=t6.2.2.1) rfl rfl rfl (by first|rfl|simp only[List.length_set]|exact(clrL_len (slI_len (by assumption))).symm) hy26 (ww ?_)
    refine LdRow.rd (rdI_some hy26).2.1 (ww ?_)
    refine guardSh h (fun g27 h=>?_) (fun g27 h=>?_)
    ·refine ww ?_
     obtain⟨y28,hy28,h⟩:=bi h
     refine t_idxO (enc:=eEvent) (xs:=t6.2.2.1) rfl rfl rfl (by first|rfl|simp only[List.length_set]|exact(clrL_len (slI_len (by assumption))).symm) hy28 (ww ?_)
     refine LdRow.rd (rdI_some hy28).2.1 (ww ?_)
     refine guardSh h (fun g29 h=>?_) (fun g29 h=>?_)
     ·refine ww ?_
      obtain⟨y30,hy30,h⟩:=bi h
      refine t_idxO (enc:=eEvent) (xs:=t6.2.2.1) rfl rfl rfl (by first|rfl|simp only[List.length_set]|exact(clrL_len (slI_len (by assumption))).symm) hy30 (ww ?_)
      refine LdRow.rd (rdI_some hy30).2.1 (ww ?_)
      refine guardSh h (fun g31 h=>?_) (fun g31 h=>?_)
      ·refine ww ?_
       obtain⟨y32,hy32,h⟩:=bi h
       refine t_idxO (enc:=eEvent) (xs:=t6.2.2.1) rfl rfl rfl (by first|rfl|simp only[List.length_set]|exact(clrL_len (slI_len (by assumption))).symm) hy32 (ww ?_)
       refine LdRow.rd (rdI_some hy32).2.1 (ww ?_)
       refine guardSh h (fun g33 h=>?_) (fun g33 h=>?_)
       ·refine ww ?_
        refine guardSh h (fun g34 h=>?_) (fun g34 h=>?_)
        ·refine ww ?_
         obtain⟨y35,hy35,h⟩:=bi h
         refine t_idxO (enc:=eEvent) (xs:=t7.2.2.1) rfl rfl rfl (by first|rfl|simp only[List.length_set]|exact(clrL_len (slI_len (by assumption))).symm) hy35 (ww ?_)
         refine LdRow.rd (rdI_some hy35).2.1 (ww ?_)
         refine guardSh h (fun g36 h=>?_) (fun g36 h=>?_)
         ·refine ww ?_
          refine guardSh h (fun g37 h=>?_) (fun g37 h=>?_)
          ·refine ww ?_
           obtain⟨y38,hy38,h⟩:=bi h
           refine t_idxO (enc:=eEvent) (xs:=t9.2.2.1) rfl rfl rfl (by first|rfl|simp only[List.length_set]|exact(clrL_len (slI_len (by assumption))).symm) hy38 (ww ?_)
           refine LdRow.rd (rdI_some hy38).2.1 (ww ?_)
           refine guardSh h (fun g39 h=>?_) (fun g39 h=>?_)
           ·refine ww ?_
            obtain⟨y40,hy40,h⟩:=bi h
            refine t_idxO (enc:=eEvent) (xs:=t9.2.2.1) rfl rfl rfl (by first|rfl|simp only[List.length_set]|exact(clrL_len (slI_len (by assumption))).symm) hy40 (ww ?_)
            refine LdRow.rd (rdI_some hy40).2.1 (ww ?_)
            cases h
            exact eM [] rfl
           refine ww ?_
           cases h
           exact eM [] rfl
          refine ww ?_
          cases h
          exact eM [] rfl
         refine ww ?_
         cases h
         exact eM [] rfl
        refine ww ?_
        cases h
        exact eM [] rfl
       refine ww ?_
       cases h
       exact eM [] rfl
      refine ww ?_
      cases h
      exact eM [] rfl
     refine ww ?_
     cases h
     exact eM [] rfl
    refine ww ?_
    cases h
    exact eM [] rfl
   refine ww ?_
   cases h
   exact eM [] rfl
  refine ww ?_
  cases h
  exact eM [] rfl
 rintro _ rfl
 clear ho
 refine ww ?_
 cases h
 exact eF []
def F11_l2:List TOp→Nat→Int→Int→Int→(List Object)→(List Object)→(List Change)→Option (TStore)
 |[],o2_6,o2_0,o2_1,o2_2,o2_3,o2_4,o2_5=>some ((⟨o2_0,o2_1,o2_2,o2_3,o2_4,o2_5⟩:TStore))
 |xo2::xs,o2_6,o2_0,o2_1,o2_2,o2_3,o2_4,o2_5=>(F33 ((⟨o2_0,o2_1,o2_2,o2_3,o2_4,o2_5⟩:TStore)) xo2).bind fun t4=>F11_l2 xs (o2_6+1) t4.1 t4.2.1 t4.2.2.1 t4.2.2.2.1 t4.2.2.2.2.1 t4.2.2.2.2.2.1
def F11(x0:(List TOp)):Option (TStore):=(F32).bind fun t1=>(((ck (0≤x0.length∧x0.length≤4294967290)).bind fun u5=>F11_l2 x0 0 0 0 1 ([]) ([]) ([])).bind fun o2=>some ((⟨(o2).Rev,(o2).Floor,(o2).NextUid,(o2).Base,(o2).Objects,(o2).History⟩:TStore)))
def a11:AFn:=⟨23,[(.cell 2 (some 6))],
 (.seq (.reg [zl 2 (.zbox [dI 0,dI 0,dI 0,dN,dN,dN]) [] []])
 (.seq (.reg [sq 5 (.call 32 []),
sq 3 (.zbox [dI 0,dI 0,dI 0,dN,dN,dN]),
su (.store 6 (.t 3) (.t 5))])
 (.seq (.seq (.reg [sq 4 (.mv (kI 0))])
 (.sem (.block 0 (.loop (.seq (.seq (.reg [sq 6 (.mv (.t 4)),
sq 7 (.mv (.t 0)),
sq 8 (.len (.t 7)),
sq 9 (.bin .lss (.t 6) (.t 8))])
 (.cond (.t 9)
 .skip
 (.exit 0)))
 (.seq (.block 1 (.regd [sq 13 (.load (some 6) (.t 3)),
sq 14 (.mv (.t 0)),
sq 15 (.mv (.t 4)),
sd 16 (.indexA 28 (.t 14) (.t 15)) [1,2],
sd 17 (.load (some 28) (.t 16)) [1,2,3],
zl 18 (.call 33 [(.t 13),(.t 17)]) [0,1,2,3,4] [],
sd 12 (.mv (.t 18)) [0,1,2,3,4,5],
sd 19 (.ext (.t 12) 0) [0,1,2,3,4,5,6],
sd 20 (.ext (.t 12) 1) [0,1,2,3,4,5,6],
sd 21 (.ext (.t 12) 2) [0,1,2,3,4,5,6],
⟨none,none,.store 6 (.t 3) (.t 19),[0,1,2,3,4,5,6,7],(.lone [])⟩]))
 (.reg [sq 10 (.mv (.t 4)),
sq 11 (.bin .add (.t 10) (kI 1)),
sq 4 (.mv (.t 11))])))))))
 (.seq (.reg [sq 22 (.load (some 6) (.t 3)),
⟨none,none,.store 6 (.t 2) (.t 22),[],(.lone [3])⟩])
 .ret))))⟩
theorem a11_ok:afn Tryz.prog 11=some a11.er:=by kernel_rfl
theorem F11_ok{x0 r}(h:F11 x0=some r):CallD Tryz.prog 11 [.c (dM (x0.map eTOp))] [] (tupV [.agg [dI ((r).Rev),dI ((r).Floor),dI ((r).NextUid),dM (((r).Base).map eObject),dM (((r).Objects).map eObject),dM (((r).History).map eChange)]]) []:=by
 refine callS a11_ok (by simp[a11]) ?_
 rw[F11]at h
 simp only[a11,VW.down,Nat.reduceEqDiff,reduceCtorEq,Nat.reduceAdd,Nat.reduceLeDiff,Nat.reduceLT,Nat.reduceBEq,Nat.reduceSub,EE.down]
 obtain⟨t1,ht1,h⟩:=bi h
 refine cN [] (F32_ok ht1) trivial (ww ?_)
 obtain⟨o2,ho,h⟩:=bi h
 refine cutS (fun s=>s=⟨[(2,.one (.c (.pt 0 0))),(3,.one (.c (.pt 1 0)))],[some (.box [dI 0,dI 0,dI 0,dN,dN,dN]),some (.box [dI ((o2).Rev),dI ((o2).Floor),dI ((o2).NextUid),dM (((o2).Base).map eObject),dM (((o2).Objects).map eObject),dM (((o2).History).map eChange)])]⟩) ?_ ?_
 ·have h:=ho
  clear ho
  obtain⟨_,hk,h⟩:=bi h
  have hk:=ck_some hk
  refine ww ?_
  refine bL (fun j s=>∃(o2_6:Nat) (o2_0:Int) (o2_1:Int) (o2_2:Int) (o2_3:List Object) (o2_4:List Object) (o2_5:List Change),(o2_6≤x0.length∧j=x0.length-o2_6)∧s=⟨[(0,.one (.c (dM (x0.map eTOp)))),(2,.one (.c (.pt 0 0))),(3,.one (.c (.pt 1 0))),(4,.one (.c (dI ((o2_6:Int)))))],[some (.box [dI 0,dI 0,dI 0,dN,dN,dN]),some (.box [dI o2_0,dI o2_1,dI o2_2,dM (o2_3.map eObject),dM (o2_4.map eObject),dM (o2_5.map eChange)])]⟩∧F11_l2 (x0.drop o2_6) o2_6 o2_0 o2_1 o2_2 o2_3 o2_4 o2_5=some o2) (x0.length-0) [some 0,some 1] ⟨0,0,0,1,[],[],[],⟨hk.1,rfl⟩,rfl,h⟩ ?_
  rintro _ _ ⟨o2_6,o2_0,o2_1,o2_2,o2_3,o2_4,o2_5,⟨hi,rfl⟩,rfl,h⟩
  refine ww ?_
  refine condS (fun c3=>?_) (fun c3=>?_)
  ·obtain⟨xo2,hxo2,hd⟩:=countY (show(o2_6:Int)<(x0.length:Int)from c3)
   rw[hd,F11_l2]at h
   refine ww ?_
   refine t_idxF (enc:=eTOp) (xs:=x0) rfl rfl hxo2 rfl (ww ?_)
   obtain⟨t4,ht4,h⟩:=bi h
   refine cN [] (F33_ok ht4) trivial (ww ?_)
   rw[wrapN (by omega)]
   exact eL' (x0.length-(o2_6+1)) [some 0,some 1] ⟨o2_6+1,t4.1,t4.2.1,t4.2.2.1,t4.2.2.2.1,t4.2.2.2.2.1,t4.2.2.2.2.2.1,⟨by omega,rfl⟩,rfl,h⟩ (by omega)
  rw[countN (show¬((o2_6:Int)<(x0.length:Int))from c3),F11_l2]at h
  refine ww ?_
  cases h
  exact eM [some 0,some 1] rfl
 rintro _ rfl
 clear ho
 refine ww ?_
 cases h
 exact eF []
end Go.Proofs.YtondgcmdhkhkkaaGreat
