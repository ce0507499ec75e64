/- Each Go function as a function over typed data, and its walk. -/
import Derived.Test.YtdkmamiedcanfaaGreatW0
import Derived.Test.YtdkmamiedcanfaaGreatW3
import Derived.Test.YtdkmamiedcanfaaGreatW7
import Derived.Test.YtdkmamiedcanfaaGreatW8
import Derived.Test.YtdkmamiedcanfaaGreatW9
import Derived.Test.YtdkmamiedcanfaaGreatW10
namespace Go.Proofs.YtdkmamiedcanfaaGreat
open Go Go.Fw Go.Shelf
set_option maxRecDepth 100000
set_option maxHeartbeats 4000000
set_option linter.unusedSimpArgs false
set_option linter.unusedVariables false
def F106(x0:Ag)(x1:Int)(x2:Object):Option (Int×Int×(List Object)×(List Object)×(List Change)):=(F104 x0).bind fun t1=>(F105 x2).bind fun t2=>(F105 x2).bind fun t3=>(F147 t1.2.1 ((⟨(IntKind.i64.wrap (x0.Rev+1)),x1,(⟨(⟨x2.Meta.Kind,x2.Meta.Namespace,x2.Meta.Name,x2.Meta.Uid,x2.Meta.Version,x2.Meta.Ai,x2.Meta.Created,x2.Meta.Av,x2.Meta.Ar,t3.1,t3.2.1,t3.2.2.1,t3.2.2.2.1⟩:Meta),(⟨t3.2.2.2.2.1,t3.2.2.2.2.2.1,t3.2.2.2.2.2.2.1,t3.2.2.2.2.2.2.2.1,t3.2.2.2.2.2.2.2.2.1⟩:Ab),(⟨t3.2.2.2.2.2.2.2.2.2.1,t3.2.2.2.2.2.2.2.2.2.2.1,t3.2.2.2.2.2.2.2.2.2.2.2.1,t3.2.2.2.2.2.2.2.2.2.2.2.2.1,t3.2.2.2.2.2.2.2.2.2.2.2.2.2⟩:Ab)⟩:Object)⟩:Change))).bind fun t4=>(apI t1.2.2 ([(⟨(IntKind.i64.wrap (x0.Rev+1)),x1,(⟨(⟨x2.Meta.Kind,x2.Meta.Namespace,x2.Meta.Name,x2.Meta.Uid,x2.Meta.Version,x2.Meta.Ai,x2.Meta.Created,x2.Meta.Av,x2.Meta.Ar,t2.1,t2.2.1,t2.2.2.1,t2.2.2.2.1⟩:Meta),(⟨t2.2.2.2.2.1,t2.2.2.2.2.2.1,t2.2.2.2.2.2.2.1,t2.2.2.2.2.2.2.2.1,t2.2.2.2.2.2.2.2.2.1⟩:Ab),(⟨t2.2.2.2.2.2.2.2.2.2.1,t2.2.2.2.2.2.2.2.2.2.2.1,t2.2.2.2.2.2.2.2.2.2.2.2.1,t2.2.2.2.2.2.2.2.2.2.2.2.2.1,t2.2.2.2.2.2.2.2.2.2.2.2.2.2⟩:Ab)⟩:Object)⟩:Change)])).bind fun a5=>(if 4000<(a5.length:Int)then(F110 ((⟨(IntKind.i64.wrap (x0.Rev+1)),x0.As,x0.Am,t1.1,t4.1,a5⟩:Ag)) ((IntKind.i64.wrap (x0.As+1)))).bind fun t7=>(F104 ((⟨((IntKind.i64.wrap (x0.Rev+1))),((IntKind.i64.wrap (x0.As+1))),x0.Am,t7.1,t4.1,t7.2⟩:Ag))).bind fun t8=>some (((((IntKind.i64.wrap (x0.Rev+1)))),(((IntKind.i64.wrap (x0.As+1)))),t8.1,t8.2.1,t8.2.2))else some (((IntKind.i64.wrap (x0.Rev+1)),x0.As,t1.1,t4.1,a5)))
def a106:AFn:=⟨50,[(.cell 6 (some 6))],
 (.seq (.reg [Qg 3 0,
Qg 5 2,
sq 6 (.zbox [dI 0,dI 0,dI 0,dN,dN,dN])])
 (.seq (.reg [Qc 8 6 3,
Qk 9 104 8,
su (.store 6 (.t 3) (.t 9))])
 (.seq (.reg [Qb 10 0 3,
Qd 11 10,
Qm 12 11 1,
Qb 13 0 3,
⟨none,none,.store 1 (.t 13) (.t 12),[],(.lone [3,10,3])⟩])
 (.seq (.regd [Qb 14 0 3,
sd 15 (.load none (.t 14)) [0],
Qa 16 1,
Qc 17 23 5,
zn 18 (.call 105 [(.t 17)]) [3] [3],
sd 19 (.build [dI 0,dI 0,dS ⟨#[]⟩,dS ⟨#[]⟩,dS ⟨#[]⟩,dI 0,dI 0,dI 0,dI 0,dB false,dI 0,dN,dN,dN,dN,dI 0,dI 0,dS ⟨#[]⟩,dN,dN,dI 0,dI 0,dS ⟨#[]⟩,dN,dN] [(0,1,(.t 15)),(1,1,(.t 16)),(2,23,(.t 18))]) [0,1,2,3,4],
sq 7 (.zbox [dI 0,dI 0,dS ⟨#[]⟩,dS ⟨#[]⟩,dS ⟨#[]⟩,dI 0,dI 0,dI 0,dI 0,dB false,dI 0,dN,dN,dN,dN,dI 0,dI 0,dS ⟨#[]⟩,dN,dN,dI 0,dI 0,dS ⟨#[]⟩,dN,dN]),
⟨none,none,.store 25 (.t 7) (.t 19),[0,1,2,3,4,5,6],(.lone [])⟩])
 (.seq (.regd [Qb 21 4 3,
sd 22 (.load none (.t 21)) [0],
Qb 23 0 3,
sd 24 (.load none (.t 23)) [2],
Qa 25 1,
Qc 26 23 5,
zl 27 (.call 105 [(.t 26)]) [5] [3,21,3,23],
zl 28 (.build [dI 0,dI 0,dS ⟨#[]⟩,dS ⟨#[]⟩,dS ⟨#[]⟩,dI 0,dI 0,dI 0,dI 0,dB false,dI 0,dN,dN,dN,dN,dI 0,dI 0,dS ⟨#[]⟩,dN,dN,dI 0,dI 0,dS ⟨#[]⟩,dN,dN] [(0,1,(.t 24)),(1,1,(.t 25)),(2,23,(.t 27))]) [2,3,4,5,6] [3,21],
zl 29 (.call 147 [(.t 22),(.t 28)]) [0,1,2,3,4,5,6,7] [],
sd 20 (.mv (.t 29)) [0,1,2,3,4,5,6,7,8],
sd 30 (.ext (.t 20) 0) [0,1,2,3,4,5,6,7,8,9],
sd 31 (.ext (.t 20) 1) [0,1,2,3,4,5,6,7,8,9],
sd 32 (.fieldA 4 (.t 3)) [0,1,2,3,4,5,6,7,8,9,10],
⟨none,none,.store 1 (.t 32) (.t 30),[0,1,2,3,4,5,6,7,8,9,10,12],(.lone [])⟩])
 (.seq (.reg [Qb 33 5 3,
Qd 34 33,
Qc 35 25 7,
sq 36 (.bslice 25 [(.t 35)]),
sq 37 (.app 25 368 (.t 34) (.t 36)),
Qb 38 5 3,
su (.store 1 (.t 38) (.t 37))])
 (.seq (.seq (.reg [Qb 39 5 3,
Qd 40 39,
Qh 41 40,
sq 42 (.bin .gtr (.t 41) (kI 4000))])
 (.cond (.t 42)
 (.reg [Qc 43 6 3,
Qb 44 1 3,
Qd 45 44,
Qm 46 45 1,
Ql 47 110 43 46,
Qk 48 104 47,
su (.store 6 (.t 3) (.t 48))])
 .skip))
 (.seq (.reg [Qc 49 6 3,
⟨none,none,.store 6 (.t 6) (.t 49),[],(.lone [3])⟩])
 .ret))))))))⟩
theorem F106_ok{x0 x1 x2 r}(h:F106 x0 x1 x2=some r):An Tryz.prog 106 [.agg (AO x0),.c (dI x1),.agg (Bc x2)] [] (AL [.agg [dI r.1,dI r.2.1,dI x0.Am,.own 0 0 0 (r.2.2.1.length) none,.own 1 0 0 (r.2.2.2.1.length) none,.own 2 0 0 (r.2.2.2.2.length) none]]) [some (.arr 0 23 (r.2.2.1.map Ad)),some (.arr 0 23 (r.2.2.2.1.map Ad)),some (.arr 0 25 (r.2.2.2.2.map A9))]:=by
 rw[F106]at h
 refine zc a106 (by kernel_rfl) rfl (ww ?_)
 obtain⟨t1,ht1,h⟩:=bi h
 refine cN [] (F104_ok ht1) trivial (ww ?_)
 obtain⟨t2,ht2,h⟩:=bi h
 refine cN [] (F105_ok ht2) trivial (ww ?_)
 refine B3 (by simp[wrs,B8,BV]) (ww ?_)
 refine B3 (by simp[wrs,B8,BV]) (ww ?_)
 obtain⟨t3,ht3,h⟩:=bi h
 refine cN [] (F105_ok ht3) trivial (ww ?_)
 obtain⟨t4,ht4,h⟩:=bi h
 refine Ce (as1:=[.c (.own 4 0 0 (t1.2.1.length) none),.agg [dI ((IntKind.i64.wrap (x0.Rev+1))),dI x1,dS x2.Meta.Kind,dS x2.Meta.Namespace,dS x2.Meta.Name,dI x2.Meta.Uid,dI x2.Meta.Version,dI x2.Meta.Ai,dI x2.Meta.Created,dB x2.Meta.Av,dI x2.Meta.Ar,dM (t3.1.map AY),dM (t3.2.1.map A3),dM (t3.2.2.1.map eS),dM (t3.2.2.2.1.map AG),dI t3.2.2.2.2.1,dI t3.2.2.2.2.2.1,dS t3.2.2.2.2.2.2.1,dM (t3.2.2.2.2.2.2.2.1.map Ap),dM (t3.2.2.2.2.2.2.2.2.1.map Ao),dI t3.2.2.2.2.2.2.2.2.2.1,dI t3.2.2.2.2.2.2.2.2.2.2.1,dS t3.2.2.2.2.2.2.2.2.2.2.2.1,dM (t3.2.2.2.2.2.2.2.2.2.2.2.2.1.map Ap),dM (t3.2.2.2.2.2.2.2.2.2.2.2.2.2.map Ao)]]) [(11,.arr 1 2 []),(12,.arr 1 5 []),(13,.arr 1 1 []),(14,.arr 1 2 [])] [some 0,some 1,some 2,some 3,some 4,some 5,some 6,some 7,some 8,some 9,some 10,none,none,none,none] [4] (F147_ok (e0:=0) ht4) ⟨?_,rfl,?_⟩ ?_ ?_ ?_ ?_ ?_ ?_ ?_ ?_
 ·simp only[ZZ.down,Nat.reduceEqDiff,reduceCtorEq,Nat.reduceAdd,Nat.reduceLeDiff,Nat.reduceLT,Nat.reduceBNe,EE.down]
 ·simp only[ZZ.down,Nat.reduceEqDiff,reduceCtorEq,Nat.reduceAdd,Nat.reduceLeDiff,Nat.reduceLT,Nat.reduceBNe,EE.down]
 ·simp only[ZZ.down,Nat.reduceEqDiff,reduceCtorEq,Nat.reduceAdd,Nat.reduceLeDiff,Nat.reduceLT,Nat.reduceBNe,EE.down]
 ·rfl
 ·rfl
 ·simp[Cj,A1.live,C.live,hp]
 ·rfl
 ·decide
 ·exact⟨⟨rfl,trivial⟩,trivial⟩
 refine ww ?_
 refine BE (enc:=A9) (ys:=[(⟨(IntKind.i64.wrap (x0.Rev+1)),x1,(⟨(⟨x2.Meta.Kind,x2.Meta.Namespace,x2.Meta.Name,x2.Meta.Uid,x2.Meta.Version,x2.Meta.Ai,x2.Meta.Created,x2.Meta.Av,x2.Meta.Ar,t2.1,t2.2.1,t2.2.2.1,t2.2.2.2.1⟩:Meta),(⟨t2.2.2.2.2.1,t2.2.2.2.2.2.1,t2.2.2.2.2.2.2.1,t2.2.2.2.2.2.2.2.1,t2.2.2.2.2.2.2.2.2.1⟩:Ab),(⟨t2.2.2.2.2.2.2.2.2.2.1,t2.2.2.2.2.2.2.2.2.2.2.1,t2.2.2.2.2.2.2.2.2.2.2.2.1,t2.2.2.2.2.2.2.2.2.2.2.2.2.1,t2.2.2.2.2.2.2.2.2.2.2.2.2.2⟩:Ab)⟩:Object)⟩:Change)]) rfl rfl (by simp[A1.cells]) (by first|rfl|(simp only[List.drop_zero,Aw];rfl)|(simp only[lit,List.map_cons,List.map_nil,List.drop_zero,Aw,EE.down];done)|(simp only[lit,List.map_cons,List.map_nil,List.drop_zero,Aw,EE.down];rfl)) (ww ?_)
 obtain⟨a5,ha5,h⟩:=bi h
 refine D6 (enc:=A9) (xs:=t1.2.2) rfl rfl (by first|rfl|simp only[List.length_set]|exact(AN (AX (by assumption))).symm) rfl (Co (enc:=A9) (by first|rfl|simp only[List.length_set]|exact(AN (AX (by assumption))).symm) rfl) ha5 (ww ?_)
 refine AH h (fun c6 h=>ww ?_) (fun c6 h=>ww ?_)
 ·obtain⟨t7,ht7,h⟩:=bi h
  refine Ce (as1:=[.agg [dI ((IntKind.i64.wrap (x0.Rev+1))),dI x0.As,dI x0.Am,dM (t1.1.map Ad),dM (t4.1.map Ad),dM (a5.map A9)],.c (dI ((IntKind.i64.wrap (x0.As+1))))]) [(3,.arr 1 23 []),(4,.arr 3 23 []),(5,.arr 2 25 []),(0,.box [dI ((IntKind.i64.wrap (x0.Rev+1))),dI x0.As,dI x0.Am,.own 3 0 0 0 (some 0),.own 4 2 0 0 (some 0),.own 5 1 0 0 (some 0)]),(10,.box [dI ((IntKind.i64.wrap (x0.Rev+1))),dI x1,dS x2.Meta.Kind,dS x2.Meta.Namespace,dS x2.Meta.Name,dI x2.Meta.Uid,dI x2.Meta.Version,dI x2.Meta.Ai,dI x2.Meta.Created,dB x2.Meta.Av,dI x2.Meta.Ar,.own 6 0 0 0 (some 0),.own 7 0 0 0 (some 0),.own 8 0 0 0 (some 0),.own 9 0 0 0 (some 0),dI t2.2.2.2.2.1,dI t2.2.2.2.2.2.1,dS t2.2.2.2.2.2.2.1,dM (t2.2.2.2.2.2.2.2.1.map Ap),dM (t2.2.2.2.2.2.2.2.2.1.map Ao),dI t2.2.2.2.2.2.2.2.2.2.1,dI t2.2.2.2.2.2.2.2.2.2.2.1,dS t2.2.2.2.2.2.2.2.2.2.2.2.1,dM (t2.2.2.2.2.2.2.2.2.2.2.2.2.1.map Ap),dM (t2.2.2.2.2.2.2.2.2.2.2.2.2.2.map Ao)])] [some 0,some 1,some 2,none,none,none,some 6,some 7,some 8,some 9,some 10,some 11,some 12,some 13,some 14,some 15] [] (F110_ok ht7) ⟨?_,rfl,?_⟩ ?_ ?_ ?_ ?_ ?_ ?_ ?_ ?_
  ·simp only[ZZ.down,Nat.reduceEqDiff,reduceCtorEq,Nat.reduceAdd,Nat.reduceLeDiff,Nat.reduceLT,Nat.reduceBNe,EE.down]
  ·simp only[ZZ.down,Nat.reduceEqDiff,reduceCtorEq,Nat.reduceAdd,Nat.reduceLeDiff,Nat.reduceLT,Nat.reduceBNe,EE.down]
  ·simp only[ZZ.down,Nat.reduceEqDiff,reduceCtorEq,Nat.reduceAdd,Nat.reduceLeDiff,Nat.reduceLT,Nat.reduceBNe,EE.down]
  ·rfl
  ·rfl
  ·simp[Cj,A1.live,C.live]
  ·rfl
  ·decide
  ·exact trivial
  refine ww ?_
  obtain⟨t8,ht8,h⟩:=bi h
  refine Ce (as1:=[.agg [dI (((IntKind.i64.wrap (x0.Rev+1)))),dI (((IntKind.i64.wrap (x0.As+1)))),dI x0.Am,dM (t7.1.map Ad),dM (t4.1.map Ad),dM (t7.2.map A9)]]) [(16,.arr 1 23 [])] [some 0,some 1,some 2,some 3,some 4,some 5,some 6,some 7,some 8,some 9,some 10,some 11,some 12,some 13,some 14,some 15,none] [] (F104_ok ht8) ⟨?_,rfl,?_⟩ ?_ ?_ ?_ ?_ ?_ ?_ ?_ ?_
  ·simp only[ZZ.down,Nat.reduceEqDiff,reduceCtorEq,Nat.reduceAdd,Nat.reduceLeDiff,Nat.reduceLT,Nat.reduceBNe,EE.down]
  ·simp only[ZZ.down,Nat.reduceEqDiff,reduceCtorEq,Nat.reduceAdd,Nat.reduceLeDiff,Nat.reduceLT,Nat.reduceBNe,EE.down]
  ·simp only[ZZ.down,Nat.reduceEqDiff,reduceCtorEq,Nat.reduceAdd,Nat.reduceLeDiff,Nat.reduceLT,Nat.reduceBNe,EE.down]
  ·rfl
  ·rfl
  ·simp[Cj,A1.live,C.live]
  ·rfl
  ·decide
  ·exact trivial
  refine ww ?_
  cases h
  exact eF [some 17,some 18,some 19]
 cases h
 exact eF [some 3,some 4,some 5]
def F74(x0:Ag)(x1:Object)(x2:Int):Option (Int×Int×Int×(List Object)×(List Object)×(List Change)×Object×Int):=(F33 x1.Meta).bind fun t1=>(F102 x0.Aa t1).bind fun t2=>(((F103 x1).bind fun t4=>(if(nb t4)=true then some true else(if x2<0 then some true else some (decide (1000000000000<x2))))).bind fun o3=>(if o3=true then(F104 x0).bind fun t8=>some ((x0.Rev,x0.As,x0.Am,t8.1,t8.2.1,t8.2.2,(⟨(⟨(⟨#[]⟩:ByteArray),(⟨#[]⟩:ByteArray),(⟨#[]⟩:ByteArray),0,0,0,0,false,0,[],[],[],[]⟩:Meta),(⟨0,0,(⟨#[]⟩:ByteArray),[],[]⟩:Ab),(⟨0,0,(⟨#[]⟩:ByteArray),[],[]⟩:Ab)⟩:Object),1))else(if t2.2=true then(F104 x0).bind fun t10=>some ((x0.Rev,x0.As,x0.Am,t10.1,t10.2.1,t10.2.2,(⟨(⟨(⟨#[]⟩:ByteArray),(⟨#[]⟩:ByteArray),(⟨#[]⟩:ByteArray),0,0,0,0,false,0,[],[],[],[]⟩:Meta),(⟨0,0,(⟨#[]⟩:ByteArray),[],[]⟩:Ab),(⟨0,0,(⟨#[]⟩:ByteArray),[],[]⟩:Ab)⟩:Object),8))else(((if 500≤(x0.Aa.length:Int)then some true else(if 1000000000000000≤x0.Rev then some true else some (decide (1000000000000000≤x0.Am))))).bind fun o11=>(if o11=true then(F104 x0).bind fun t15=>some ((x0.Rev,x0.As,x0.Am,t15.1,t15.2.1,t15.2.2,(⟨(⟨(⟨#[]⟩:ByteArray),(⟨#[]⟩:ByteArray),(⟨#[]⟩:ByteArray),0,0,0,0,false,0,[],[],[],[]⟩:Meta),(⟨0,0,(⟨#[]⟩:ByteArray),[],[]⟩:Ab),(⟨0,0,(⟨#[]⟩:ByteArray),[],[]⟩:Ab)⟩:Object),15))else(F105 x1).bind fun t16=>((some (())).bind fun o17=>(F106 x0 1 ((⟨(⟨x1.Meta.Kind,x1.Meta.Namespace,x1.Meta.Name,x0.Am,(IntKind.i64.wrap (x0.Rev+1)),1,x2,false,0,t16.1,t16.2.1,t16.2.2.1,t16.2.2.2.1⟩:Meta),(⟨t16.2.2.2.2.1,t16.2.2.2.2.2.1,t16.2.2.2.2.2.2.1,t16.2.2.2.2.2.2.2.1,t16.2.2.2.2.2.2.2.2.1⟩:Ab),(⟨t16.2.2.2.2.2.2.2.2.2.1,t16.2.2.2.2.2.2.2.2.2.2.1,t16.2.2.2.2.2.2.2.2.2.2.2.1,t16.2.2.2.2.2.2.2.2.2.2.2.2.1,t16.2.2.2.2.2.2.2.2.2.2.2.2.2⟩:Ab)⟩:Object))).bind fun t18=>some ((t18.1,t18.2.1,(IntKind.i64.wrap (x0.Am+1)),t18.2.2.1,t18.2.2.2.1,t18.2.2.2.2,(⟨(⟨x1.Meta.Kind,x1.Meta.Namespace,x1.Meta.Name,x0.Am,(IntKind.i64.wrap (x0.Rev+1)),1,x2,false,0,t16.1,t16.2.1,t16.2.2.1,t16.2.2.2.1⟩:Meta),(⟨t16.2.2.2.2.1,t16.2.2.2.2.2.1,t16.2.2.2.2.2.2.1,t16.2.2.2.2.2.2.2.1,t16.2.2.2.2.2.2.2.2.1⟩:Ab),(⟨t16.2.2.2.2.2.2.2.2.2.1,t16.2.2.2.2.2.2.2.2.2.2.1,t16.2.2.2.2.2.2.2.2.2.2.2.1,t16.2.2.2.2.2.2.2.2.2.2.2.2.1,t16.2.2.2.2.2.2.2.2.2.2.2.2.2⟩:Ab)⟩:Object),0))))))))
def a74:AFn:=⟨97,[(.cell 6 (some 6)),(.cell 7 (some 23)),(.tmp 8)],
 (.seq (.reg [Qg 3 0,
Qg 4 1,
sq 6 (.zbox [dI 0,dI 0,dI 0,dN,dN,dN]),
sq 7 (.zbox [dS ⟨#[]⟩,dS ⟨#[]⟩,dS ⟨#[]⟩,dI 0,dI 0,dI 0,dI 0,dB false,dI 0,dN,dN,dN,dN,dI 0,dI 0,dS ⟨#[]⟩,dN,dN,dI 0,dI 0,dS ⟨#[]⟩,dN,dN]),
Qe 8 0])
 (.seq (.regd [Qb 15 4 3,
sd 16 (.load none (.t 15)) [0],
Qb 17 0 4,
sd 18 (.load (some 13) (.t 17)) [2],
zl 19 (.call 33 [(.t 18)]) [2,3] [3,15],
zl 20 (.call 102 [(.t 16),(.t 19)]) [0,1,2,3,4] [],
sd 14 (.mv (.t 20)) [0,1,2,3,4,5],
sd 21 (.ext (.t 14) 0) [0,1,2,3,4,5,6],
sd 22 (.ext (.t 14) 1) [0,1,2,3,4,5,6],
sd 9 (.mv (.t 21)) [0,1,2,3,4,5,6,7],
sd 10 (.mv (.t 22)) [0,1,2,3,4,5,6,7,8,9]])
 (.seq (.block 0 (.seq (.sem (.reg [Qc 24 23 4,
Qk 25 103 24,
Qq 26 25,
Qa 27 26,
Qv 28 27 false 2,
zg 29 27 false (.bin .lss (.t 28) (kI 0)),
Qj 30 27 29,
Qa 31 30,
Qv 32 31 false 2,
zg 33 31 false (.bin .gtr (.t 32) (kI 1000000000000)),
Qj 34 31 33,
Qa 23 34]))
 (.cond (.t 23)
 (.seq (.reg [Qc 35 6 3,
Qk 36 104 35,
sq 37 (.build [dS ⟨#[]⟩,dS ⟨#[]⟩,dS ⟨#[]⟩,dI 0,dI 0,dI 0,dI 0,dB false,dI 0,dN,dN,dN,dN,dI 0,dI 0,dS ⟨#[]⟩,dN,dN,dI 0,dI 0,dS ⟨#[]⟩,dN,dN] []),
su (.store 6 (.t 6) (.t 36)),
su (.store 23 (.t 7) (.t 37)),
Qe 8 1])
 .ret)
 (.seq (.reg [Qa 39 10,
Qa 38 39])
 (.cond (.t 38)
 (.seq (.reg [Qc 40 6 3,
Qk 41 104 40,
sq 42 (.build [dS ⟨#[]⟩,dS ⟨#[]⟩,dS ⟨#[]⟩,dI 0,dI 0,dI 0,dI 0,dB false,dI 0,dN,dN,dN,dN,dI 0,dI 0,dS ⟨#[]⟩,dN,dN,dI 0,dI 0,dS ⟨#[]⟩,dN,dN] []),
su (.store 6 (.t 6) (.t 41)),
su (.store 23 (.t 7) (.t 42)),
Qe 8 8])
 .ret)
 (.seq (.sem (.reg [Qb 44 4 3,
Qd 45 44,
Qh 46 45,
sq 47 (.bin .geq (.t 46) (kI 500)),
Qa 48 47,
Qs 49 48 false 0 3,
Qt 50 48 false 49,
zg 51 48 false (.bin .geq (.t 50) (kI 1000000000000000)),
Qj 52 48 51,
Qa 53 52,
Qs 54 53 false 2 3,
Qt 55 53 false 54,
zg 56 53 false (.bin .geq (.t 55) (kI 1000000000000000)),
Qj 57 53 56,
Qa 43 57]))
 (.cond (.t 43)
 (.seq (.reg [Qc 58 6 3,
Qk 59 104 58,
sq 60 (.build [dS ⟨#[]⟩,dS ⟨#[]⟩,dS ⟨#[]⟩,dI 0,dI 0,dI 0,dI 0,dB false,dI 0,dN,dN,dN,dN,dI 0,dI 0,dS ⟨#[]⟩,dN,dN,dI 0,dI 0,dS ⟨#[]⟩,dN,dN] []),
su (.store 6 (.t 6) (.t 59)),
su (.store 23 (.t 7) (.t 60)),
Qe 8 15])
 .ret)
 .skip)))))))
 (.seq (.reg [Qc 61 23 4,
Qk 62 105 61,
sq 11 (.zbox [dS ⟨#[]⟩,dS ⟨#[]⟩,dS ⟨#[]⟩,dI 0,dI 0,dI 0,dI 0,dB false,dI 0,dN,dN,dN,dN,dI 0,dI 0,dS ⟨#[]⟩,dN,dN,dI 0,dI 0,dS ⟨#[]⟩,dN,dN]),
su (.store 23 (.t 11) (.t 62))])
 (.seq (.reg [Qb 63 0 11,
Qa 12 63])
 (.seq (.sem (.regd [Qa 64 12,
Qa 65 12,
Qa 66 12,
Qa 67 12,
Qa 68 12,
Qa 69 12,
Qb 70 2 3,
sd 71 (.load none (.t 70)) [6],
Qb 72 0 3,
sd 73 (.load none (.t 72)) [8],
sd 74 (.bin .add (.t 73) (kI 1)) [8,9],
Qa 75 2,
sd 76 (.fieldA 0 (.t 64)) [0,6,7],
sd 77 (.fieldA 3 (.t 76)) [0,6,7,12],
⟨none,none,.store 1 (.t 77) (.t 71),[0,6,7,12,13],(.lone [3,72])⟩,
sd 78 (.fieldA 0 (.t 65)) [0,1,6,7,8,9,10,12,13,14],
sd 79 (.fieldA 4 (.t 78)) [0,1,6,7,8,9,10,12,13,14,15],
⟨none,none,.store 1 (.t 79) (.t 74),[0,1,6,7,8,9,10,12,13,14,15,16],(.lone [])⟩,
sd 80 (.fieldA 0 (.t 66)) [0,1,2,6,7,8,9,10,12,13,14,15,16,17],
sd 81 (.fieldA 5 (.t 80)) [0,1,2,6,7,8,9,10,12,13,14,15,16,17,18],
⟨none,none,.store 1 (.t 81) (kI 1),[0,1,2,6,7,8,9,10,12,13,14,15,16,17,18,19],(.lone [])⟩,
sd 82 (.fieldA 0 (.t 67)) [0,1,2,3,6,7,8,9,10,11,12,13,14,15,16,17,18,19,20],
sd 83 (.fieldA 6 (.t 82)) [0,1,2,3,6,7,8,9,10,11,12,13,14,15,16,17,18,19,20,21],
⟨none,none,.store 1 (.t 83) (.t 75),[0,1,2,3,6,7,8,9,10,11,12,13,14,15,16,17,18,19,20,21,22],(.lone [])⟩,
sd 84 (.fieldA 0 (.t 68)) [0,1,2,3,4,6,7,8,9,10,11,12,13,14,15,16,17,18,19,20,21,22,23],
sd 85 (.fieldA 7 (.t 84)) [0,1,2,3,4,6,7,8,9,10,11,12,13,14,15,16,17,18,19,20,21,22,23,24],
⟨none,none,.store 1 (.t 85) (kB false),[0,1,2,3,4,6,7,8,9,10,11,12,13,14,15,16,17,18,19,20,21,22,23,24,25],(.lone [])⟩,
sd 86 (.fieldA 0 (.t 69)) [0,1,2,3,4,5,6,7,8,9,10,11,12,13,14,15,16,17,18,19,20,21,22,23,24,25,26],
sd 87 (.fieldA 8 (.t 86)) [0,1,2,3,4,5,6,7,8,9,10,11,12,13,14,15,16,17,18,19,20,21,22,23,24,25,26,27],
⟨none,none,.store 1 (.t 87) (kI 0),[0,1,2,3,4,5,6,7,8,9,10,11,12,13,14,15,16,17,18,19,20,21,22,23,24,25,26,27,28],(.lone [])⟩]))
 (.seq (.reg [Qc 88 6 3,
Qc 89 23 11,
sq 90 (.call 106 [(.t 88),(kI 1),(.t 89)]),
sq 13 (.zbox [dI 0,dI 0,dI 0,dN,dN,dN]),
su (.store 6 (.t 13) (.t 90))])
 (.seq (.reg [Qb 91 2 13,
Qd 92 91,
Qm 93 92 1,
Qb 94 2 13,
⟨none,none,.store 1 (.t 94) (.t 93),[],(.lone [13,91,13])⟩])
 (.seq (.regd [Qc 95 6 13,
Qc 96 23 11,
⟨none,none,.store 6 (.t 6) (.t 95),[0],(.lone [11])⟩,
⟨none,none,.store 23 (.t 7) (.t 96),[0,1,2],(.lone [])⟩,
sd 8 (.mv (kI 0)) [0,1,2,3]])
 .ret)))))))))⟩
theorem F74_ok{x0 x1 x2 r}(h:F74 x0 x1 x2=some r):An Tryz.prog 74 [.agg (AO x0),.agg (Bc x1),.c (dI x2)] [] (AL [.agg [dI r.1,dI r.2.1,dI r.2.2.1,.own 0 0 0 (r.2.2.2.1.length) none,.own 1 0 0 (r.2.2.2.2.1.length) none,.own 2 0 0 (r.2.2.2.2.2.1.length) none],.agg (Bc (r.2.2.2.2.2.2.1)),.c (dI r.2.2.2.2.2.2.2)]) [some (.arr 0 23 (r.2.2.2.1.map Ad)),some (.arr 0 23 (r.2.2.2.2.1.map Ad)),some (.arr 0 25 (r.2.2.2.2.2.1.map A9))]:=by
 rw[F74]at h
 refine zc a74 (by kernel_rfl) rfl (ww ?_)
 obtain⟨t1,ht1,h⟩:=bi h
 refine cN [] (F33_ok ht1) trivial (ww ?_)
 obtain⟨t2,ht2,h⟩:=bi h
 refine cN [] (F102_ok ht2) trivial (ww ?_)
 obtain⟨o3,ho,h⟩:=bi h
 refine AB (fun s=>s=⟨[(2,oc (dI x2)),(3,Pz 0),(4,Pz 1),(6,Pz 2),(7,Pz 3),(10,oc (dB t2.2)),(23,oc (dB o3))],[xb (AO x0),xb (Bc x1),xb [dI 0,dI 0,dI 0,dN,dN,dN],xb [dS ((⟨#[]⟩:ByteArray)),dS ((⟨#[]⟩:ByteArray)),dS ((⟨#[]⟩:ByteArray)),dI 0,dI 0,dI 0,dI 0,dB false,dI 0,dN,dN,dN,dN,dI 0,dI 0,dS ((⟨#[]⟩:ByteArray)),dN,dN,dI 0,dI 0,dS ((⟨#[]⟩:ByteArray)),dN,dN]]⟩) ?_ ?_
 ·have h:=ho
  clear ho
  refine ww ?_
  obtain⟨t4,ht4,h⟩:=bi h
  refine cN [] (F103_ok ht4) trivial (ww ?_)
  refine AM h (fun g5 h=>ww ?_) (fun g5 h=>ww ?_)
  ·cases h
   exact eM [some 0,some 1,some 2,some 3] rfl
  refine Af h (fun g6 h=>ww ?_) (fun g6 h=>ww ?_)
  ·cases h
   exact eM [some 0,some 1,some 2,some 3] rfl
  cases h
  exact eM [some 0,some 1,some 2,some 3] rfl
 rintro _ rfl
 clear ho
 refine ww ?_
 refine AE h (fun c7 h=>ww ?_) (fun c7 h=>ww ?_)
 ·obtain⟨t8,ht8,h⟩:=bi h
  refine cN [] (F104_ok ht8) trivial (ww ?_)
  cases h
  exact eF [some 4,some 5,some 6]
 refine AE h (fun c9 h=>ww ?_) (fun c9 h=>ww ?_)
 ·obtain⟨t10,ht10,h⟩:=bi h
  refine cN [] (F104_ok ht10) trivial (ww ?_)
  cases h
  exact eF [some 4,some 5,some 6]
 obtain⟨o11,ho,h⟩:=bi h
 refine AB (fun s=>s=⟨[(2,oc (dI x2)),(3,Pz 0),(4,Pz 1),(6,Pz 2),(7,Pz 3),(43,oc (dB o11))],[xb (AO x0),xb (Bc x1),xb [dI 0,dI 0,dI 0,dN,dN,dN],xb [dS ((⟨#[]⟩:ByteArray)),dS ((⟨#[]⟩:ByteArray)),dS ((⟨#[]⟩:ByteArray)),dI 0,dI 0,dI 0,dI 0,dB false,dI 0,dN,dN,dN,dN,dI 0,dI 0,dS ((⟨#[]⟩:ByteArray)),dN,dN,dI 0,dI 0,dS ((⟨#[]⟩:ByteArray)),dN,dN]]⟩) ?_ ?_
 ·have h:=ho
  clear ho
  refine ww ?_
  refine Af h (fun g12 h=>ww ?_) (fun g12 h=>ww ?_)
  ·cases h
   exact eM [some 0,some 1,some 2,some 3] rfl
  refine Af h (fun g13 h=>ww ?_) (fun g13 h=>ww ?_)
  ·cases h
   exact eM [some 0,some 1,some 2,some 3] rfl
  cases h
  exact eM [some 0,some 1,some 2,some 3] rfl
 rintro _ rfl
 clear ho
 refine ww ?_
 refine AE h (fun c14 h=>ww ?_) (fun c14 h=>ww ?_)
 ·obtain⟨t15,ht15,h⟩:=bi h
  refine cN [] (F104_ok ht15) trivial (ww ?_)
  cases h
  exact eF [some 4,some 5,some 6]
 obtain⟨t16,ht16,h⟩:=bi h
 refine cN [] (F105_ok ht16) trivial (ww ?_)
 obtain⟨o17,ho,h⟩:=bi h
 refine AB (fun s=>s=⟨[(3,Pz 0),(6,Pz 1),(7,Pz 2),(11,Pz 3)],[xb (AO x0),xb [dI 0,dI 0,dI 0,dN,dN,dN],xb [dS ((⟨#[]⟩:ByteArray)),dS ((⟨#[]⟩:ByteArray)),dS ((⟨#[]⟩:ByteArray)),dI 0,dI 0,dI 0,dI 0,dB false,dI 0,dN,dN,dN,dN,dI 0,dI 0,dS ((⟨#[]⟩:ByteArray)),dN,dN,dI 0,dI 0,dS ((⟨#[]⟩:ByteArray)),dN,dN],xb [dS x1.Meta.Kind,dS x1.Meta.Namespace,dS x1.Meta.Name,dI x0.Am,dI ((IntKind.i64.wrap (x0.Rev+1))),dI 1,dI x2,dB false,dI 0,dM (t16.1.map AY),dM (t16.2.1.map A3),dM (t16.2.2.1.map eS),dM (t16.2.2.2.1.map AG),dI t16.2.2.2.2.1,dI t16.2.2.2.2.2.1,dS t16.2.2.2.2.2.2.1,dM (t16.2.2.2.2.2.2.2.1.map Ap),dM (t16.2.2.2.2.2.2.2.2.1.map Ao),dI t16.2.2.2.2.2.2.2.2.2.1,dI t16.2.2.2.2.2.2.2.2.2.2.1,dS t16.2.2.2.2.2.2.2.2.2.2.2.1,dM (t16.2.2.2.2.2.2.2.2.2.2.2.2.1.map Ap),dM (t16.2.2.2.2.2.2.2.2.2.2.2.2.2.map Ao)]]⟩) ?_ ?_
 ·have h:=ho
  clear ho
  refine ww ?_
  cases h
  exact eM [some 0,some 2,some 3,some 8] rfl
 rintro _ rfl
 clear ho
 refine ww ?_
 obtain⟨t18,ht18,h⟩:=bi h
 refine cN [] (F106_ok ht18) trivial (ww ?_)
 cases h
 exact eF [some 4,some 5,some 6]
def F75(x0:Ag)(x1:Object):Option (Int×Int×(List Object)×(List Object)×(List Change)×ByteArray×ByteArray×ByteArray×Int×Int×Int×Int×Bool×Int×(List Label)×(List BO)×(List ByteArray)×(List AI)×Int×Int×ByteArray×((List Ab))×((List Ay))×Int×Int×ByteArray×((List Ab))×((List Ay))×Int):=(F103 x1).bind fun t1=>(if(nb t1)=true then(F104 x0).bind fun t3=>some ((x0.Rev,x0.As,t3.1,t3.2.1,t3.2.2,(⟨#[]⟩:ByteArray),(⟨#[]⟩:ByteArray),(⟨#[]⟩:ByteArray),0,0,0,0,false,0,[],[],[],[],0,0,(⟨#[]⟩:ByteArray),[],[],0,0,(⟨#[]⟩:ByteArray),[],[],1))else(F33 x1.Meta).bind fun t4=>(F107 x0 t4).bind fun t5=>(if(nb t5.2.2.2.2.2.2.2.2.2.2.2.2.2.2.2.2.2.2.2.2.2.2.2)=true then(F104 x0).bind fun t7=>some ((x0.Rev,x0.As,t7.1,t7.2.1,t7.2.2,(⟨#[]⟩:ByteArray),(⟨#[]⟩:ByteArray),(⟨#[]⟩:ByteArray),0,0,0,0,false,0,[],[],[],[],0,0,(⟨#[]⟩:ByteArray),[],[],0,0,(⟨#[]⟩:ByteArray),[],[],7))else(((if¬(x1.Meta.Version=0)then(if¬(x1.Meta.Version=t5.2.2.2.2.1)then some true else(if¬(x1.Meta.Uid=0)then some (decide (¬(x1.Meta.Uid=t5.2.2.2.1)))else some false))else(if¬(x1.Meta.Uid=0)then some (decide (¬(x1.Meta.Uid=t5.2.2.2.1)))else some false))).bind fun o8=>(if o8=true then(F104 x0).bind fun t14=>some ((x0.Rev,x0.As,t14.1,t14.2.1,t14.2.2,(⟨#[]⟩:ByteArray),(⟨#[]⟩:ByteArray),(⟨#[]⟩:ByteArray),0,0,0,0,false,0,[],[],[],[],0,0,(⟨#[]⟩:ByteArray),[],[],0,0,(⟨#[]⟩:ByteArray),[],[],9))else(F105 x1).bind fun t15=>(((F108 ((⟨t15.2.2.2.2.1,t15.2.2.2.2.2.1,t15.2.2.2.2.2.2.1,t15.2.2.2.2.2.2.2.1,t15.2.2.2.2.2.2.2.2.1⟩:Ab)) ((⟨t5.2.2.2.2.2.2.2.2.2.2.2.2.2.1,t5.2.2.2.2.2.2.2.2.2.2.2.2.2.2.1,t5.2.2.2.2.2.2.2.2.2.2.2.2.2.2.2.1,t5.2.2.2.2.2.2.2.2.2.2.2.2.2.2.2.2.1,t5.2.2.2.2.2.2.2.2.2.2.2.2.2.2.2.2.2.1⟩:Ab))).bind fun t17=>(if(nb t17)=true then some ((IntKind.i64.wrap (t5.2.2.2.2.2.1+1)))else some t5.2.2.2.2.2.1)).bind fun o16=>(F109 ((⟨(⟨x1.Meta.Kind,x1.Meta.Namespace,x1.Meta.Name,t5.2.2.2.1,t5.2.2.2.2.1,o16,t5.2.2.2.2.2.2.1,x1.Meta.Av,x1.Meta.Ar,t15.1,t15.2.1,t15.2.2.1,t15.2.2.2.1⟩:Meta),(⟨t15.2.2.2.2.1,t15.2.2.2.2.2.1,t15.2.2.2.2.2.2.1,t15.2.2.2.2.2.2.2.1,t15.2.2.2.2.2.2.2.2.1⟩:Ab),(⟨t15.2.2.2.2.2.2.2.2.2.1,t15.2.2.2.2.2.2.2.2.2.2.1,t15.2.2.2.2.2.2.2.2.2.2.2.1,t15.2.2.2.2.2.2.2.2.2.2.2.2.1,t15.2.2.2.2.2.2.2.2.2.2.2.2.2⟩:Ab)⟩:Object)) ((⟨(⟨t5.1,t5.2.1,t5.2.2.1,t5.2.2.2.1,t5.2.2.2.2.1,t5.2.2.2.2.2.1,t5.2.2.2.2.2.2.1,t5.2.2.2.2.2.2.2.1,t5.2.2.2.2.2.2.2.2.1,t5.2.2.2.2.2.2.2.2.2.1,t5.2.2.2.2.2.2.2.2.2.2.1,t5.2.2.2.2.2.2.2.2.2.2.2.1,t5.2.2.2.2.2.2.2.2.2.2.2.2.1⟩:Meta),(⟨t5.2.2.2.2.2.2.2.2.2.2.2.2.2.1,t5.2.2.2.2.2.2.2.2.2.2.2.2.2.2.1,t5.2.2.2.2.2.2.2.2.2.2.2.2.2.2.2.1,t5.2.2.2.2.2.2.2.2.2.2.2.2.2.2.2.2.1,t5.2.2.2.2.2.2.2.2.2.2.2.2.2.2.2.2.2.1⟩:Ab),(⟨t5.2.2.2.2.2.2.2.2.2.2.2.2.2.2.2.2.2.2.1,t5.2.2.2.2.2.2.2.2.2.2.2.2.2.2.2.2.2.2.2.1,t5.2.2.2.2.2.2.2.2.2.2.2.2.2.2.2.2.2.2.2.2.1,t5.2.2.2.2.2.2.2.2.2.2.2.2.2.2.2.2.2.2.2.2.2.1,t5.2.2.2.2.2.2.2.2.2.2.2.2.2.2.2.2.2.2.2.2.2.2.1⟩:Ab)⟩:Object))).bind fun t19=>(if t19=true then(F104 x0).bind fun t21=>some ((x0.Rev,x0.As,t21.1,t21.2.1,t21.2.2,t5.1,t5.2.1,t5.2.2.1,t5.2.2.2.1,t5.2.2.2.2.1,t5.2.2.2.2.2.1,t5.2.2.2.2.2.2.1,t5.2.2.2.2.2.2.2.1,t5.2.2.2.2.2.2.2.2.1,t5.2.2.2.2.2.2.2.2.2.1,t5.2.2.2.2.2.2.2.2.2.2.1,t5.2.2.2.2.2.2.2.2.2.2.2.1,t5.2.2.2.2.2.2.2.2.2.2.2.2.1,t5.2.2.2.2.2.2.2.2.2.2.2.2.2.1,t5.2.2.2.2.2.2.2.2.2.2.2.2.2.2.1,t5.2.2.2.2.2.2.2.2.2.2.2.2.2.2.2.1,t5.2.2.2.2.2.2.2.2.2.2.2.2.2.2.2.2.1,t5.2.2.2.2.2.2.2.2.2.2.2.2.2.2.2.2.2.1,t5.2.2.2.2.2.2.2.2.2.2.2.2.2.2.2.2.2.2.1,t5.2.2.2.2.2.2.2.2.2.2.2.2.2.2.2.2.2.2.2.1,t5.2.2.2.2.2.2.2.2.2.2.2.2.2.2.2.2.2.2.2.2.1,t5.2.2.2.2.2.2.2.2.2.2.2.2.2.2.2.2.2.2.2.2.2.1,t5.2.2.2.2.2.2.2.2.2.2.2.2.2.2.2.2.2.2.2.2.2.2.1,0))else(if 1000000000000000≤x0.Rev then(F104 x0).bind fun t23=>some ((x0.Rev,x0.As,t23.1,t23.2.1,t23.2.2,(⟨#[]⟩:ByteArray),(⟨#[]⟩:ByteArray),(⟨#[]⟩:ByteArray),0,0,0,0,false,0,[],[],[],[],0,0,(⟨#[]⟩:ByteArray),[],[],0,0,(⟨#[]⟩:ByteArray),[],[],15))else((some (())).bind fun o24=>(F106 x0 1 ((⟨(⟨x1.Meta.Kind,x1.Meta.Namespace,x1.Meta.Name,t5.2.2.2.1,(IntKind.i64.wrap (x0.Rev+1)),o16,t5.2.2.2.2.2.2.1,x1.Meta.Av,x1.Meta.Ar,t15.1,t15.2.1,t15.2.2.1,t15.2.2.2.1⟩:Meta),(⟨t15.2.2.2.2.1,t15.2.2.2.2.2.1,t15.2.2.2.2.2.2.1,t15.2.2.2.2.2.2.2.1,t15.2.2.2.2.2.2.2.2.1⟩:Ab),(⟨t15.2.2.2.2.2.2.2.2.2.1,t15.2.2.2.2.2.2.2.2.2.2.1,t15.2.2.2.2.2.2.2.2.2.2.2.1,t15.2.2.2.2.2.2.2.2.2.2.2.2.1,t15.2.2.2.2.2.2.2.2.2.2.2.2.2⟩:Ab)⟩:Object))).bind fun t25=>some ((t25.1,t25.2.1,t25.2.2.1,t25.2.2.2.1,t25.2.2.2.2,x1.Meta.Kind,x1.Meta.Namespace,x1.Meta.Name,t5.2.2.2.1,(IntKind.i64.wrap (x0.Rev+1)),o16,t5.2.2.2.2.2.2.1,x1.Meta.Av,x1.Meta.Ar,t15.1,t15.2.1,t15.2.2.1,t15.2.2.2.1,t15.2.2.2.2.1,t15.2.2.2.2.2.1,t15.2.2.2.2.2.2.1,t15.2.2.2.2.2.2.2.1,t15.2.2.2.2.2.2.2.2.1,t15.2.2.2.2.2.2.2.2.2.1,t15.2.2.2.2.2.2.2.2.2.2.1,t15.2.2.2.2.2.2.2.2.2.2.2.1,t15.2.2.2.2.2.2.2.2.2.2.2.2.1,t15.2.2.2.2.2.2.2.2.2.2.2.2.2,0))))))))))
def a75:AFn:=⟨117,[(.cell 4 (some 6)),(.cell 5 (some 23)),(.tmp 6)],
 (.seq (.reg [Qg 2 0,
Qg 3 1,
sq 4 (.zbox [dI 0,dI 0,dI 0,dN,dN,dN]),
sq 5 (.zbox [dS ⟨#[]⟩,dS ⟨#[]⟩,dS ⟨#[]⟩,dI 0,dI 0,dI 0,dI 0,dB false,dI 0,dN,dN,dN,dN,dI 0,dI 0,dS ⟨#[]⟩,dN,dN,dI 0,dI 0,dS ⟨#[]⟩,dN,dN]),
Qe 6 0])
 (.seq (.seq (.reg [Qc 10 23 3,
Qk 11 103 10,
Qq 12 11])
 (.cond (.t 12)
 (.seq (.reg [Qc 13 6 2,
Qk 14 104 13,
sq 15 (.build [dS ⟨#[]⟩,dS ⟨#[]⟩,dS ⟨#[]⟩,dI 0,dI 0,dI 0,dI 0,dB false,dI 0,dN,dN,dN,dN,dI 0,dI 0,dS ⟨#[]⟩,dN,dN,dI 0,dI 0,dS ⟨#[]⟩,dN,dN] []),
su (.store 6 (.t 4) (.t 14)),
su (.store 23 (.t 5) (.t 15)),
Qe 6 1])
 .ret)
 .skip))
 (.seq (.regd [Qc 17 6 2,
Qb 18 0 3,
sd 19 (.load (some 13) (.t 18)) [1],
zn 20 (.call 33 [(.t 19)]) [1,2] [1,2],
zn 21 (.call 107 [(.t 17),(.t 20)]) [0,1,2,3] [0,1,2,3],
sd 16 (.mv (.t 21)) [0,1,2,3,4],
sd 22 (.ext (.t 16) 0) [0,1,2,3,4,5],
sd 23 (.ext (.t 16) 1) [0,1,2,3,4,5],
sq 7 (.zbox [dS ⟨#[]⟩,dS ⟨#[]⟩,dS ⟨#[]⟩,dI 0,dI 0,dI 0,dI 0,dB false,dI 0,dN,dN,dN,dN,dI 0,dI 0,dS ⟨#[]⟩,dN,dN,dI 0,dI 0,dS ⟨#[]⟩,dN,dN]),
⟨none,none,.store 23 (.t 7) (.t 22),[0,1,2,3,4,5,6,8],(.lone [])⟩,
sd 8 (.mv (.t 23)) [0,1,2,3,4,5,6,7,8,9]])
 (.seq (.block 0 (.seq (.reg [Qa 25 8,
Qq 26 25,
Qa 24 26])
 (.cond (.t 24)
 (.seq (.reg [Qc 27 6 2,
Qk 28 104 27,
sq 29 (.build [dS ⟨#[]⟩,dS ⟨#[]⟩,dS ⟨#[]⟩,dI 0,dI 0,dI 0,dI 0,dB false,dI 0,dN,dN,dN,dN,dI 0,dI 0,dS ⟨#[]⟩,dN,dN,dI 0,dI 0,dS ⟨#[]⟩,dN,dN] []),
su (.store 6 (.t 4) (.t 28)),
su (.store 23 (.t 5) (.t 29)),
Qe 6 7])
 .ret)
 (.seq (.sem (.reg [Qb 31 0 3,
Qb 32 4 31,
Qd 33 32,
sq 34 (.bin .neq (.t 33) (kI 0)),
Qa 35 34,
Qs 36 35 true 0 3,
Qs 37 35 true 4 36,
Qt 38 35 true 37,
Qs 39 35 true 0 7,
Qs 40 35 true 4 39,
Qt 41 35 true 40,
zg 42 35 true (.bin .neq (.t 38) (.t 41)),
Qi 43 35 42,
Qa 44 43,
Qs 45 44 false 0 3,
Qs 46 44 false 3 45,
Qt 47 44 false 46,
zg 48 44 false (.bin .neq (.t 47) (kI 0)),
Qv 49 44 false 48,
Qs 50 49 true 0 3,
Qs 51 49 true 3 50,
Qt 52 49 true 51,
Qs 53 49 true 0 7,
Qs 54 49 true 3 53,
Qt 55 49 true 54,
zg 56 49 true (.bin .neq (.t 52) (.t 55)),
zg 57 44 false (.pick (.t 49) (.t 56) (kB false)),
Qj 58 44 57,
Qa 30 58]))
 (.cond (.t 30)
 (.seq (.reg [Qc 59 6 2,
Qk 60 104 59,
sq 61 (.build [dS ⟨#[]⟩,dS ⟨#[]⟩,dS ⟨#[]⟩,dI 0,dI 0,dI 0,dI 0,dB false,dI 0,dN,dN,dN,dN,dI 0,dI 0,dS ⟨#[]⟩,dN,dN,dI 0,dI 0,dS ⟨#[]⟩,dN,dN] []),
su (.store 6 (.t 4) (.t 60)),
su (.store 23 (.t 5) (.t 61)),
Qe 6 9])
 .ret)
 .skip)))))
 (.seq (.reg [Qc 62 23 3,
Qk 63 105 62,
sq 9 (.zbox [dS ⟨#[]⟩,dS ⟨#[]⟩,dS ⟨#[]⟩,dI 0,dI 0,dI 0,dI 0,dB false,dI 0,dN,dN,dN,dN,dI 0,dI 0,dS ⟨#[]⟩,dN,dN,dI 0,dI 0,dS ⟨#[]⟩,dN,dN]),
su (.store 23 (.t 9) (.t 63))])
 (.seq (.regd [Qb 64 0 7,
sd 65 (.fieldA 3 (.t 64)) [0],
sd 66 (.load none (.t 65)) [0,1],
Qb 67 0 7,
sd 68 (.fieldA 6 (.t 67)) [3],
sd 69 (.load none (.t 68)) [3,4],
Qb 70 0 7,
sd 71 (.fieldA 5 (.t 70)) [6],
sd 72 (.load none (.t 71)) [6,7],
Qb 73 0 7,
sd 74 (.fieldA 4 (.t 73)) [9],
sd 75 (.load none (.t 74)) [9,10],
sd 76 (.fieldA 0 (.t 9)) [0,1,2],
sd 77 (.fieldA 3 (.t 76)) [0,1,2,12],
⟨none,none,.store 1 (.t 77) (.t 66),[0,1,2,12,13],(.lone [7,67,68,7,70,71,7,73,74])⟩,
sd 78 (.fieldA 0 (.t 9)) [0,1,2,3,4,5,12,13,14],
sd 79 (.fieldA 6 (.t 78)) [0,1,2,3,4,5,12,13,14,15],
⟨none,none,.store 1 (.t 79) (.t 69),[0,1,2,3,4,5,12,13,14,15,16],(.lone [7,70,71,7,73,74])⟩,
sd 80 (.fieldA 0 (.t 9)) [0,1,2,3,4,5,6,7,8,12,13,14,15,16,17],
sd 81 (.fieldA 5 (.t 80)) [0,1,2,3,4,5,6,7,8,12,13,14,15,16,17,18],
⟨none,none,.store 1 (.t 81) (.t 72),[0,1,2,3,4,5,6,7,8,12,13,14,15,16,17,18,19],(.lone [7,73,74])⟩,
sd 82 (.fieldA 0 (.t 9)) [0,1,2,3,4,5,6,7,8,9,10,11,12,13,14,15,16,17,18,19,20],
sd 83 (.fieldA 4 (.t 82)) [0,1,2,3,4,5,6,7,8,9,10,11,12,13,14,15,16,17,18,19,20,21],
⟨none,none,.store 1 (.t 83) (.t 75),[0,1,2,3,4,5,6,7,8,9,10,11,12,13,14,15,16,17,18,19,20,21,22],(.lone [])⟩])
 (.seq (.sem (.seq (.reg [Qb 84 13 9,
Qc 85 5 84,
Qb 86 13 7,
Qc 87 5 86,
Ql 88 108 85 87,
Qq 89 88])
 (.cond (.t 89)
 (.reg [Qb 90 0 9,
Qb 91 5 90,
Qd 92 91,
Qm 93 92 1,
Qb 94 0 9,
Qb 95 5 94,
⟨none,none,.store 1 (.t 95) (.t 93),[],(.lone [9,90,91,9,94])⟩])
 .skip)))
 (.seq (.seq (.reg [Qc 96 23 9,
Qc 97 23 7,
zl 98 (.call 109 [(.t 96),(.t 97)]) [] [9,7]])
 (.cond (.t 98)
 (.seq (.regd [Qc 99 6 2,
zn 100 (.call 104 [(.t 99)]) [0] [0],
Qc 101 23 7,
⟨none,none,.store 6 (.t 4) (.t 100),[0,1],(.lone [7])⟩,
⟨none,none,.store 23 (.t 5) (.t 101),[0,1,2,3],(.lone [])⟩,
sd 6 (.mv (kI 0)) [0,1,2,3,4]])
 .ret)
 .skip))
 (.seq (.seq (.reg [Qb 102 0 2,
Qd 103 102,
sq 104 (.bin .geq (.t 103) (kI 1000000000000000))])
 (.cond (.t 104)
 (.seq (.reg [Qc 105 6 2,
Qk 106 104 105,
sq 107 (.build [dS ⟨#[]⟩,dS ⟨#[]⟩,dS ⟨#[]⟩,dI 0,dI 0,dI 0,dI 0,dB false,dI 0,dN,dN,dN,dN,dI 0,dI 0,dS ⟨#[]⟩,dN,dN,dI 0,dI 0,dS ⟨#[]⟩,dN,dN] []),
su (.store 6 (.t 4) (.t 106)),
su (.store 23 (.t 5) (.t 107)),
Qe 6 15])
 .ret)
 .skip))
 (.seq (.sem (.reg [Qb 108 0 2,
Qd 109 108,
Qm 110 109 1,
Qb 111 0 9,
Qb 112 4 111,
⟨none,none,.store 1 (.t 112) (.t 110),[],(.lone [2,108,9,111])⟩]))
 (.seq (.regd [Qc 113 6 2,
Qc 114 23 9,
zn 115 (.call 106 [(.t 113),(kI 1),(.t 114)]) [0,1] [0,1],
Qc 116 23 9,
⟨none,none,.store 6 (.t 4) (.t 115),[0,1,2],(.lone [9])⟩,
⟨none,none,.store 23 (.t 5) (.t 116),[0,1,2,3,4],(.lone [])⟩,
sd 6 (.mv (kI 0)) [0,1,2,3,4,5]])
 .ret)))))))))))⟩
theorem F75_ok{x0 x1 r}(h:F75 x0 x1=some r):An Tryz.prog 75 [.agg (AO x0),.agg (Bc x1)] [] (AL [.agg [dI r.1,dI r.2.1,dI x0.Am,.own 0 0 0 (r.2.2.1.length) none,.own 1 0 0 (r.2.2.2.1.length) none,.own 2 0 0 (r.2.2.2.2.1.length) none],.agg [dS r.2.2.2.2.2.1,dS r.2.2.2.2.2.2.1,dS r.2.2.2.2.2.2.2.1,dI r.2.2.2.2.2.2.2.2.1,dI r.2.2.2.2.2.2.2.2.2.1,dI r.2.2.2.2.2.2.2.2.2.2.1,dI r.2.2.2.2.2.2.2.2.2.2.2.1,dB r.2.2.2.2.2.2.2.2.2.2.2.2.1,dI r.2.2.2.2.2.2.2.2.2.2.2.2.2.1,dM (r.2.2.2.2.2.2.2.2.2.2.2.2.2.2.1.map AY),dM (r.2.2.2.2.2.2.2.2.2.2.2.2.2.2.2.1.map A3),dM (r.2.2.2.2.2.2.2.2.2.2.2.2.2.2.2.2.1.map eS),dM (r.2.2.2.2.2.2.2.2.2.2.2.2.2.2.2.2.2.1.map AG),dI r.2.2.2.2.2.2.2.2.2.2.2.2.2.2.2.2.2.2.1,dI r.2.2.2.2.2.2.2.2.2.2.2.2.2.2.2.2.2.2.2.1,dS r.2.2.2.2.2.2.2.2.2.2.2.2.2.2.2.2.2.2.2.2.1,dM (r.2.2.2.2.2.2.2.2.2.2.2.2.2.2.2.2.2.2.2.2.2.1.map Ap),dM (r.2.2.2.2.2.2.2.2.2.2.2.2.2.2.2.2.2.2.2.2.2.2.1.map Ao),dI r.2.2.2.2.2.2.2.2.2.2.2.2.2.2.2.2.2.2.2.2.2.2.2.1,dI r.2.2.2.2.2.2.2.2.2.2.2.2.2.2.2.2.2.2.2.2.2.2.2.2.1,dS r.2.2.2.2.2.2.2.2.2.2.2.2.2.2.2.2.2.2.2.2.2.2.2.2.2.1,dM (r.2.2.2.2.2.2.2.2.2.2.2.2.2.2.2.2.2.2.2.2.2.2.2.2.2.2.1.map Ap),dM (r.2.2.2.2.2.2.2.2.2.2.2.2.2.2.2.2.2.2.2.2.2.2.2.2.2.2.2.1.map Ao)],.c (dI r.2.2.2.2.2.2.2.2.2.2.2.2.2.2.2.2.2.2.2.2.2.2.2.2.2.2.2.2)]) [some (.arr 0 23 (r.2.2.1.map Ad)),some (.arr 0 23 (r.2.2.2.1.map Ad)),some (.arr 0 25 (r.2.2.2.2.1.map A9))]:=by
 rw[F75]at h
 refine zc a75 (by kernel_rfl) rfl (ww ?_)
 obtain⟨t1,ht1,h⟩:=bi h
 refine cN [] (F103_ok ht1) trivial (ww ?_)
 refine AE h (fun c2 h=>ww ?_) (fun c2 h=>ww ?_)
 ·obtain⟨t3,ht3,h⟩:=bi h
  refine cN [] (F104_ok ht3) trivial (ww ?_)
  cases h
  exact eF [some 4,some 5,some 6]
 obtain⟨t4,ht4,h⟩:=bi h
 refine cN [] (F33_ok ht4) trivial (ww ?_)
 obtain⟨t5,ht5,h⟩:=bi h
 refine cN [] (F107_ok ht5) trivial (ww ?_)
 refine B3 (by simp[wrs,B8,BV]) (ww ?_)
 refine B3 (by simp[wrs,B8,BV]) (ww ?_)
 refine AE h (fun c6 h=>ww ?_) (fun c6 h=>ww ?_)
 ·obtain⟨t7,ht7,h⟩:=bi h
  refine cN [] (F104_ok ht7) trivial (ww ?_)
  cases h
  exact eF [some 9,some 10,some 11]
 obtain⟨o8,ho,h⟩:=bi h
 refine AB (fun s=>s=⟨[(2,Pz 0),(3,Pz 1),(4,Pz 2),(5,Pz 3),(7,Pz 4),(30,oc (dB o8))],[xb (AO x0),xb (Bc x1),xb [dI 0,dI 0,dI 0,dN,dN,dN],xb [dS ((⟨#[]⟩:ByteArray)),dS ((⟨#[]⟩:ByteArray)),dS ((⟨#[]⟩:ByteArray)),dI 0,dI 0,dI 0,dI 0,dB false,dI 0,dN,dN,dN,dN,dI 0,dI 0,dS ((⟨#[]⟩:ByteArray)),dN,dN,dI 0,dI 0,dS ((⟨#[]⟩:ByteArray)),dN,dN],xb [dS t5.1,dS t5.2.1,dS t5.2.2.1,dI t5.2.2.2.1,dI t5.2.2.2.2.1,dI t5.2.2.2.2.2.1,dI t5.2.2.2.2.2.2.1,dB t5.2.2.2.2.2.2.2.1,dI t5.2.2.2.2.2.2.2.2.1,.own 5 0 0 (t5.2.2.2.2.2.2.2.2.2.1.length) none,.own 6 0 0 (t5.2.2.2.2.2.2.2.2.2.2.1.length) none,.own 7 0 0 (t5.2.2.2.2.2.2.2.2.2.2.2.1.length) none,.own 8 0 0 (t5.2.2.2.2.2.2.2.2.2.2.2.2.1.length) none,dI t5.2.2.2.2.2.2.2.2.2.2.2.2.2.1,dI t5.2.2.2.2.2.2.2.2.2.2.2.2.2.2.1,dS t5.2.2.2.2.2.2.2.2.2.2.2.2.2.2.2.1,dM (t5.2.2.2.2.2.2.2.2.2.2.2.2.2.2.2.2.1.map Ap),dM (t5.2.2.2.2.2.2.2.2.2.2.2.2.2.2.2.2.2.1.map Ao),dI t5.2.2.2.2.2.2.2.2.2.2.2.2.2.2.2.2.2.2.1,dI t5.2.2.2.2.2.2.2.2.2.2.2.2.2.2.2.2.2.2.2.1,dS t5.2.2.2.2.2.2.2.2.2.2.2.2.2.2.2.2.2.2.2.2.1,dM (t5.2.2.2.2.2.2.2.2.2.2.2.2.2.2.2.2.2.2.2.2.2.1.map Ap),dM (t5.2.2.2.2.2.2.2.2.2.2.2.2.2.2.2.2.2.2.2.2.2.2.1.map Ao)],some (.arr 0 2 (t5.2.2.2.2.2.2.2.2.2.1.map AY)),some (.arr 0 5 (t5.2.2.2.2.2.2.2.2.2.2.1.map A3)),some (.arr 0 1 (t5.2.2.2.2.2.2.2.2.2.2.2.1.map eS)),some (.arr 0 2 (t5.2.2.2.2.2.2.2.2.2.2.2.2.1.map AG))]⟩) ?_ ?_
 ·have h:=ho
  clear ho
  refine ww ?_
  refine Af h (fun g9 h=>ww ?_) (fun g9 h=>ww ?_)
  ·refine Af h (fun g10 h=>ww ?_) (fun g10 h=>ww ?_)
   ·cases h
    exact eM [some 0,some 1,some 2,some 3,some 8,some 4,some 5,some 6,some 7] rfl
   refine Af h (fun g11 h=>ww ?_) (fun g11 h=>ww ?_)
   ·cases h
    exact eM [some 0,some 1,some 2,some 3,some 8,some 4,some 5,some 6,some 7] rfl
   cases h
   exact eM [some 0,some 1,some 2,some 3,some 8,some 4,some 5,some 6,some 7] rfl
  refine Af h (fun g12 h=>ww ?_) (fun g12 h=>ww ?_)
  ·cases h
   exact eM [some 0,some 1,some 2,some 3,some 8,some 4,some 5,some 6,some 7] rfl
  cases h
  exact eM [some 0,some 1,some 2,some 3,some 8,some 4,some 5,some 6,some 7] rfl
 rintro _ rfl
 clear ho
 refine ww ?_
 refine AE h (fun c13 h=>ww ?_) (fun c13 h=>ww ?_)
 ·obtain⟨t14,ht14,h⟩:=bi h
  refine cN [] (F104_ok ht14) trivial (ww ?_)
  cases h
  exact eF [some 9,some 10,some 11]
 obtain⟨t15,ht15,h⟩:=bi h
 refine cN [] (F105_ok ht15) trivial (ww ?_)
 obtain⟨o16,ho,h⟩:=bi h
 refine AB (fun s=>s=⟨[(2,Pz 0),(4,Pz 1),(5,Pz 2),(7,Pz 3),(9,Pz 8)],[xb (AO x0),xb [dI 0,dI 0,dI 0,dN,dN,dN],xb [dS ((⟨#[]⟩:ByteArray)),dS ((⟨#[]⟩:ByteArray)),dS ((⟨#[]⟩:ByteArray)),dI 0,dI 0,dI 0,dI 0,dB false,dI 0,dN,dN,dN,dN,dI 0,dI 0,dS ((⟨#[]⟩:ByteArray)),dN,dN,dI 0,dI 0,dS ((⟨#[]⟩:ByteArray)),dN,dN],xb [dS t5.1,dS t5.2.1,dS t5.2.2.1,dI t5.2.2.2.1,dI t5.2.2.2.2.1,dI t5.2.2.2.2.2.1,dI t5.2.2.2.2.2.2.1,dB t5.2.2.2.2.2.2.2.1,dI t5.2.2.2.2.2.2.2.2.1,.own 4 0 0 (t5.2.2.2.2.2.2.2.2.2.1.length) none,.own 5 0 0 (t5.2.2.2.2.2.2.2.2.2.2.1.length) none,.own 6 0 0 (t5.2.2.2.2.2.2.2.2.2.2.2.1.length) none,.own 7 0 0 (t5.2.2.2.2.2.2.2.2.2.2.2.2.1.length) none,dI t5.2.2.2.2.2.2.2.2.2.2.2.2.2.1,dI t5.2.2.2.2.2.2.2.2.2.2.2.2.2.2.1,dS t5.2.2.2.2.2.2.2.2.2.2.2.2.2.2.2.1,dM (t5.2.2.2.2.2.2.2.2.2.2.2.2.2.2.2.2.1.map Ap),dM (t5.2.2.2.2.2.2.2.2.2.2.2.2.2.2.2.2.2.1.map Ao),dI t5.2.2.2.2.2.2.2.2.2.2.2.2.2.2.2.2.2.2.1,dI t5.2.2.2.2.2.2.2.2.2.2.2.2.2.2.2.2.2.2.2.1,dS t5.2.2.2.2.2.2.2.2.2.2.2.2.2.2.2.2.2.2.2.2.1,dM (t5.2.2.2.2.2.2.2.2.2.2.2.2.2.2.2.2.2.2.2.2.2.1.map Ap),dM (t5.2.2.2.2.2.2.2.2.2.2.2.2.2.2.2.2.2.2.2.2.2.2.1.map Ao)],some (.arr 0 2 (t5.2.2.2.2.2.2.2.2.2.1.map AY)),some (.arr 0 5 (t5.2.2.2.2.2.2.2.2.2.2.1.map A3)),some (.arr 0 1 (t5.2.2.2.2.2.2.2.2.2.2.2.1.map eS)),some (.arr 0 2 (t5.2.2.2.2.2.2.2.2.2.2.2.2.1.map AG)),xb [dS x1.Meta.Kind,dS x1.Meta.Namespace,dS x1.Meta.Name,dI t5.2.2.2.1,dI t5.2.2.2.2.1,dI o16,dI t5.2.2.2.2.2.2.1,dB x1.Meta.Av,dI x1.Meta.Ar,.own 9 0 0 (t15.1.length) none,.own 10 0 0 (t15.2.1.length) none,.own 11 0 0 (t15.2.2.1.length) none,.own 12 0 0 (t15.2.2.2.1.length) none,dI t15.2.2.2.2.1,dI t15.2.2.2.2.2.1,dS t15.2.2.2.2.2.2.1,dM (t15.2.2.2.2.2.2.2.1.map Ap),dM (t15.2.2.2.2.2.2.2.2.1.map Ao),dI t15.2.2.2.2.2.2.2.2.2.1,dI t15.2.2.2.2.2.2.2.2.2.2.1,dS t15.2.2.2.2.2.2.2.2.2.2.2.1,dM (t15.2.2.2.2.2.2.2.2.2.2.2.2.1.map Ap),dM (t15.2.2.2.2.2.2.2.2.2.2.2.2.2.map Ao)],some (.arr 0 2 (t15.1.map AY)),some (.arr 0 5 (t15.2.1.map A3)),some (.arr 0 1 (t15.2.2.1.map eS)),some (.arr 0 2 (t15.2.2.2.1.map AG))]⟩) ?_ ?_
 ·have h:=ho
  clear ho
  refine ww ?_
  obtain⟨t17,ht17,h⟩:=bi h
  refine cN [] (F108_ok ht17) trivial (ww ?_)
  refine AE h (fun c18 h=>ww ?_) (fun c18 h=>ww ?_)
  ·cases h
   exact eM [some 0,some 2,some 3,some 4,some 5,some 6,some 7,some 8,some 13,some 9,some 10,some 11,some 12] rfl
  cases h
  exact eM [some 0,some 2,some 3,some 4,some 5,some 6,some 7,some 8,some 13,some 9,some 10,some 11,some 12] rfl
 rintro _ rfl
 clear ho
 refine ww ?_
 obtain⟨t19,ht19,h⟩:=bi h
 refine D8 (F109_ok ht19) (by simp only[Fm,Fs,hp,List.getElem?_cons_zero,List.getElem?_cons_succ,Option.join_some,List.drop_zero,BB,true_and,Nat.zero_add,List.length_map,Nat.le_refl,nrm,List.length_cons,List.length_nil,Nat.reduceAdd,Nat.reduceLeDiff,List.take_succ_cons,List.take_zero,List.take_nil,List.map_cons,List.map_nil,List.length_set,EE.down]) rfl ?_
 refine ww ?_
 refine AE h (fun c20 h=>ww ?_) (fun c20 h=>ww ?_)
 ·obtain⟨t21,ht21,h⟩:=bi h
  refine cN [] (F104_ok ht21) trivial (ww ?_)
  refine B3 (by simp[wrs,B8,BV]) (ww ?_)
  cases h
  exact eF [some 13,some 14,some 15]
 refine AH h (fun c22 h=>ww ?_) (fun c22 h=>ww ?_)
 ·obtain⟨t23,ht23,h⟩:=bi h
  refine cN [] (F104_ok ht23) trivial (ww ?_)
  cases h
  exact eF [some 13,some 14,some 15]
 obtain⟨o24,ho,h⟩:=bi h
 refine AB (fun s=>s=⟨[(2,Pz 0),(4,Pz 1),(5,Pz 2),(9,Pz 3)],[xb (AO x0),xb [dI 0,dI 0,dI 0,dN,dN,dN],xb [dS ((⟨#[]⟩:ByteArray)),dS ((⟨#[]⟩:ByteArray)),dS ((⟨#[]⟩:ByteArray)),dI 0,dI 0,dI 0,dI 0,dB false,dI 0,dN,dN,dN,dN,dI 0,dI 0,dS ((⟨#[]⟩:ByteArray)),dN,dN,dI 0,dI 0,dS ((⟨#[]⟩:ByteArray)),dN,dN],xb [dS x1.Meta.Kind,dS x1.Meta.Namespace,dS x1.Meta.Name,dI t5.2.2.2.1,dI ((IntKind.i64.wrap (x0.Rev+1))),dI o16,dI t5.2.2.2.2.2.2.1,dB x1.Meta.Av,dI x1.Meta.Ar,dM (t15.1.map AY),dM (t15.2.1.map A3),dM (t15.2.2.1.map eS),dM (t15.2.2.2.1.map AG),dI t15.2.2.2.2.1,dI t15.2.2.2.2.2.1,dS t15.2.2.2.2.2.2.1,dM (t15.2.2.2.2.2.2.2.1.map Ap),dM (t15.2.2.2.2.2.2.2.2.1.map Ao),dI t15.2.2.2.2.2.2.2.2.2.1,dI t15.2.2.2.2.2.2.2.2.2.2.1,dS t15.2.2.2.2.2.2.2.2.2.2.2.1,dM (t15.2.2.2.2.2.2.2.2.2.2.2.2.1.map Ap),dM (t15.2.2.2.2.2.2.2.2.2.2.2.2.2.map Ao)]]⟩) ?_ ?_
 ·have h:=ho
  clear ho
  refine ww ?_
  cases h
  exact eM [some 0,some 1,some 2,some 8] rfl
 rintro _ rfl
 clear ho
 refine ww ?_
 obtain⟨t25,ht25,h⟩:=bi h
 refine cN [] (F106_ok ht25) trivial (ww ?_)
 refine B3 (by simp[wrs,B8,BV]) (ww ?_)
 cases h
 exact eF [some 4,some 5,some 6]
def F76(x0:Ag)(x1:ByteArray)(x2:Int):Option (Int×Int×(List Object)×(List Object)×(List Change)×Object×Int):=(F107 x0 x1).bind fun t1=>(if(nb t1.2.2.2.2.2.2.2.2.2.2.2.2.2.2.2.2.2.2.2.2.2.2.2)=true then(F104 x0).bind fun t3=>some ((x0.Rev,x0.As,t3.1,t3.2.1,t3.2.2,(⟨(⟨(⟨#[]⟩:ByteArray),(⟨#[]⟩:ByteArray),(⟨#[]⟩:ByteArray),0,0,0,0,false,0,[],[],[],[]⟩:Meta),(⟨0,0,(⟨#[]⟩:ByteArray),[],[]⟩:Ab),(⟨0,0,(⟨#[]⟩:ByteArray),[],[]⟩:Ab)⟩:Object),7))else(((if¬(x2=0)then some (decide (¬(x2=t1.2.2.2.2.1)))else some false)).bind fun o4=>(if o4=true then(F104 x0).bind fun t7=>some ((x0.Rev,x0.As,t7.1,t7.2.1,t7.2.2,(⟨(⟨(⟨#[]⟩:ByteArray),(⟨#[]⟩:ByteArray),(⟨#[]⟩:ByteArray),0,0,0,0,false,0,[],[],[],[]⟩:Meta),(⟨0,0,(⟨#[]⟩:ByteArray),[],[]⟩:Ab),(⟨0,0,(⟨#[]⟩:ByteArray),[],[]⟩:Ab)⟩:Object),9))else(if 1000000000000000≤x0.Rev then(F104 x0).bind fun t9=>some ((x0.Rev,x0.As,t9.1,t9.2.1,t9.2.2,(⟨(⟨(⟨#[]⟩:ByteArray),(⟨#[]⟩:ByteArray),(⟨#[]⟩:ByteArray),0,0,0,0,false,0,[],[],[],[]⟩:Meta),(⟨0,0,(⟨#[]⟩:ByteArray),[],[]⟩:Ab),(⟨0,0,(⟨#[]⟩:ByteArray),[],[]⟩:Ab)⟩:Object),15))else((some (())).bind fun o10=>(F106 x0 2 ((⟨(⟨t1.1,t1.2.1,t1.2.2.1,t1.2.2.2.1,(IntKind.i64.wrap (x0.Rev+1)),t1.2.2.2.2.2.1,t1.2.2.2.2.2.2.1,t1.2.2.2.2.2.2.2.1,t1.2.2.2.2.2.2.2.2.1,t1.2.2.2.2.2.2.2.2.2.1,t1.2.2.2.2.2.2.2.2.2.2.1,t1.2.2.2.2.2.2.2.2.2.2.2.1,t1.2.2.2.2.2.2.2.2.2.2.2.2.1⟩:Meta),(⟨t1.2.2.2.2.2.2.2.2.2.2.2.2.2.1,t1.2.2.2.2.2.2.2.2.2.2.2.2.2.2.1,t1.2.2.2.2.2.2.2.2.2.2.2.2.2.2.2.1,t1.2.2.2.2.2.2.2.2.2.2.2.2.2.2.2.2.1,t1.2.2.2.2.2.2.2.2.2.2.2.2.2.2.2.2.2.1⟩:Ab),(⟨t1.2.2.2.2.2.2.2.2.2.2.2.2.2.2.2.2.2.2.1,t1.2.2.2.2.2.2.2.2.2.2.2.2.2.2.2.2.2.2.2.1,t1.2.2.2.2.2.2.2.2.2.2.2.2.2.2.2.2.2.2.2.2.1,t1.2.2.2.2.2.2.2.2.2.2.2.2.2.2.2.2.2.2.2.2.2.1,t1.2.2.2.2.2.2.2.2.2.2.2.2.2.2.2.2.2.2.2.2.2.2.1⟩:Ab)⟩:Object))).bind fun t11=>some ((t11.1,t11.2.1,t11.2.2.1,t11.2.2.2.1,t11.2.2.2.2,(⟨(⟨t1.1,t1.2.1,t1.2.2.1,t1.2.2.2.1,(IntKind.i64.wrap (x0.Rev+1)),t1.2.2.2.2.2.1,t1.2.2.2.2.2.2.1,t1.2.2.2.2.2.2.2.1,t1.2.2.2.2.2.2.2.2.1,t1.2.2.2.2.2.2.2.2.2.1,t1.2.2.2.2.2.2.2.2.2.2.1,t1.2.2.2.2.2.2.2.2.2.2.2.1,t1.2.2.2.2.2.2.2.2.2.2.2.2.1⟩:Meta),(⟨t1.2.2.2.2.2.2.2.2.2.2.2.2.2.1,t1.2.2.2.2.2.2.2.2.2.2.2.2.2.2.1,t1.2.2.2.2.2.2.2.2.2.2.2.2.2.2.2.1,t1.2.2.2.2.2.2.2.2.2.2.2.2.2.2.2.2.1,t1.2.2.2.2.2.2.2.2.2.2.2.2.2.2.2.2.2.1⟩:Ab),(⟨t1.2.2.2.2.2.2.2.2.2.2.2.2.2.2.2.2.2.2.1,t1.2.2.2.2.2.2.2.2.2.2.2.2.2.2.2.2.2.2.2.1,t1.2.2.2.2.2.2.2.2.2.2.2.2.2.2.2.2.2.2.2.2.1,t1.2.2.2.2.2.2.2.2.2.2.2.2.2.2.2.2.2.2.2.2.2.1,t1.2.2.2.2.2.2.2.2.2.2.2.2.2.2.2.2.2.2.2.2.2.2.1⟩:Ab)⟩:Object),0)))))))
def a76:AFn:=⟨52,[(.cell 6 (some 6)),(.cell 7 (some 23)),(.tmp 8)],
 (.seq (.reg [Qg 3 0,
sq 6 (.zbox [dI 0,dI 0,dI 0,dN,dN,dN]),
sq 7 (.zbox [dS ⟨#[]⟩,dS ⟨#[]⟩,dS ⟨#[]⟩,dI 0,dI 0,dI 0,dI 0,dB false,dI 0,dN,dN,dN,dN,dI 0,dI 0,dS ⟨#[]⟩,dN,dN,dI 0,dI 0,dS ⟨#[]⟩,dN,dN]),
Qe 8 0])
 (.seq (.reg [Qc 12 6 3,
Qa 13 1,
Ql 14 107 12 13,
Qa 11 14,
Qo 15 11 0,
Qo 16 11 1,
sq 9 (.zbox [dS ⟨#[]⟩,dS ⟨#[]⟩,dS ⟨#[]⟩,dI 0,dI 0,dI 0,dI 0,dB false,dI 0,dN,dN,dN,dN,dI 0,dI 0,dS ⟨#[]⟩,dN,dN,dI 0,dI 0,dS ⟨#[]⟩,dN,dN]),
su (.store 23 (.t 9) (.t 15)),
Qa 10 16])
 (.seq (.block 0 (.seq (.reg [Qa 18 10,
Qq 19 18,
Qa 17 19])
 (.cond (.t 17)
 (.seq (.reg [Qc 20 6 3,
Qk 21 104 20,
sq 22 (.build [dS ⟨#[]⟩,dS ⟨#[]⟩,dS ⟨#[]⟩,dI 0,dI 0,dI 0,dI 0,dB false,dI 0,dN,dN,dN,dN,dI 0,dI 0,dS ⟨#[]⟩,dN,dN,dI 0,dI 0,dS ⟨#[]⟩,dN,dN] []),
su (.store 6 (.t 6) (.t 21)),
su (.store 23 (.t 7) (.t 22)),
Qe 8 7])
 .ret)
 (.seq (.sem (.reg [Qa 24 2,
sq 25 (.bin .neq (.t 24) (kI 0)),
Qa 26 25,
Qv 27 26 true 2,
Qs 28 26 true 0 9,
Qs 29 26 true 4 28,
Qt 30 26 true 29,
zg 31 26 true (.bin .neq (.t 27) (.t 30)),
Qi 32 26 31,
Qa 23 32]))
 (.cond (.t 23)
 (.seq (.reg [Qc 33 6 3,
Qk 34 104 33,
sq 35 (.build [dS ⟨#[]⟩,dS ⟨#[]⟩,dS ⟨#[]⟩,dI 0,dI 0,dI 0,dI 0,dB false,dI 0,dN,dN,dN,dN,dI 0,dI 0,dS ⟨#[]⟩,dN,dN,dI 0,dI 0,dS ⟨#[]⟩,dN,dN] []),
su (.store 6 (.t 6) (.t 34)),
su (.store 23 (.t 7) (.t 35)),
Qe 8 9])
 .ret)
 (.seq (.reg [Qb 37 0 3,
Qd 38 37,
sq 39 (.bin .geq (.t 38) (kI 1000000000000000)),
Qa 36 39])
 (.cond (.t 36)
 (.seq (.reg [Qc 40 6 3,
Qk 41 104 40,
sq 42 (.build [dS ⟨#[]⟩,dS ⟨#[]⟩,dS ⟨#[]⟩,dI 0,dI 0,dI 0,dI 0,dB false,dI 0,dN,dN,dN,dN,dI 0,dI 0,dS ⟨#[]⟩,dN,dN,dI 0,dI 0,dS ⟨#[]⟩,dN,dN] []),
su (.store 6 (.t 6) (.t 41)),
su (.store 23 (.t 7) (.t 42)),
Qe 8 15])
 .ret)
 .skip)))))))
 (.seq (.sem (.reg [Qb 43 0 3,
Qd 44 43,
Qm 45 44 1,
Qb 46 0 9,
Qb 47 4 46,
⟨none,none,.store 1 (.t 47) (.t 45),[],(.lone [3,43,9,46])⟩]))
 (.seq (.regd [Qc 48 6 3,
Qc 49 23 9,
zn 50 (.call 106 [(.t 48),(kI 2),(.t 49)]) [0,1] [0,1],
Qc 51 23 9,
⟨none,none,.store 6 (.t 6) (.t 50),[0,1,2],(.lone [9])⟩,
⟨none,none,.store 23 (.t 7) (.t 51),[0,1,2,3,4],(.lone [])⟩,
sd 8 (.mv (kI 0)) [0,1,2,3,4,5]])
 .ret)))))⟩
theorem F76_ok{x0 x1 x2 r}(h:F76 x0 x1 x2=some r):An Tryz.prog 76 [.agg (AO x0),.c (dS x1),.c (dI x2)] [] (AL [.agg [dI r.1,dI r.2.1,dI x0.Am,.own 0 0 0 (r.2.2.1.length) none,.own 1 0 0 (r.2.2.2.1.length) none,.own 2 0 0 (r.2.2.2.2.1.length) none],.agg (Bc (r.2.2.2.2.2.1)),.c (dI r.2.2.2.2.2.2)]) [some (.arr 0 23 (r.2.2.1.map Ad)),some (.arr 0 23 (r.2.2.2.1.map Ad)),some (.arr 0 25 (r.2.2.2.2.1.map A9))]:=by
 rw[F76]at h
 refine zc a76 (by kernel_rfl) rfl (ww ?_)
 obtain⟨t1,ht1,h⟩:=bi h
 refine cN [] (F107_ok ht1) trivial (ww ?_)
 refine AE h (fun c2 h=>ww ?_) (fun c2 h=>ww ?_)
 ·obtain⟨t3,ht3,h⟩:=bi h
  refine cN [] (F104_ok ht3) trivial (ww ?_)
  cases h
  exact eF [some 8,some 9,some 10]
 obtain⟨o4,ho,h⟩:=bi h
 refine AB (fun s=>s=⟨[(3,Pz 0),(6,Pz 1),(7,Pz 2),(9,Pz 3),(23,oc (dB o4))],[xb (AO x0),xb [dI 0,dI 0,dI 0,dN,dN,dN],xb [dS ((⟨#[]⟩:ByteArray)),dS ((⟨#[]⟩:ByteArray)),dS ((⟨#[]⟩:ByteArray)),dI 0,dI 0,dI 0,dI 0,dB false,dI 0,dN,dN,dN,dN,dI 0,dI 0,dS ((⟨#[]⟩:ByteArray)),dN,dN,dI 0,dI 0,dS ((⟨#[]⟩:ByteArray)),dN,dN],xb [dS t1.1,dS t1.2.1,dS t1.2.2.1,dI t1.2.2.2.1,dI t1.2.2.2.2.1,dI t1.2.2.2.2.2.1,dI t1.2.2.2.2.2.2.1,dB t1.2.2.2.2.2.2.2.1,dI t1.2.2.2.2.2.2.2.2.1,.own 4 0 0 (t1.2.2.2.2.2.2.2.2.2.1.length) none,.own 5 0 0 (t1.2.2.2.2.2.2.2.2.2.2.1.length) none,.own 6 0 0 (t1.2.2.2.2.2.2.2.2.2.2.2.1.length) none,.own 7 0 0 (t1.2.2.2.2.2.2.2.2.2.2.2.2.1.length) none,dI t1.2.2.2.2.2.2.2.2.2.2.2.2.2.1,dI t1.2.2.2.2.2.2.2.2.2.2.2.2.2.2.1,dS t1.2.2.2.2.2.2.2.2.2.2.2.2.2.2.2.1,dM (t1.2.2.2.2.2.2.2.2.2.2.2.2.2.2.2.2.1.map Ap),dM (t1.2.2.2.2.2.2.2.2.2.2.2.2.2.2.2.2.2.1.map Ao),dI t1.2.2.2.2.2.2.2.2.2.2.2.2.2.2.2.2.2.2.1,dI t1.2.2.2.2.2.2.2.2.2.2.2.2.2.2.2.2.2.2.2.1,dS t1.2.2.2.2.2.2.2.2.2.2.2.2.2.2.2.2.2.2.2.2.1,dM (t1.2.2.2.2.2.2.2.2.2.2.2.2.2.2.2.2.2.2.2.2.2.1.map Ap),dM (t1.2.2.2.2.2.2.2.2.2.2.2.2.2.2.2.2.2.2.2.2.2.2.1.map Ao)],some (.arr 0 2 (t1.2.2.2.2.2.2.2.2.2.1.map AY)),some (.arr 0 5 (t1.2.2.2.2.2.2.2.2.2.2.1.map A3)),some (.arr 0 1 (t1.2.2.2.2.2.2.2.2.2.2.2.1.map eS)),some (.arr 0 2 (t1.2.2.2.2.2.2.2.2.2.2.2.2.1.map AG))]⟩) ?_ ?_
 ·have h:=ho
  clear ho
  refine ww ?_
  refine Af h (fun g5 h=>ww ?_) (fun g5 h=>ww ?_)
  ·cases h
   exact eM [some 0,some 1,some 2,some 7,some 3,some 4,some 5,some 6] rfl
  cases h
  exact eM [some 0,some 1,some 2,some 7,some 3,some 4,some 5,some 6] rfl
 rintro _ rfl
 clear ho
 refine ww ?_
 refine AE h (fun c6 h=>ww ?_) (fun c6 h=>ww ?_)
 ·obtain⟨t7,ht7,h⟩:=bi h
  refine cN [] (F104_ok ht7) trivial (ww ?_)
  cases h
  exact eF [some 8,some 9,some 10]
 refine AH h (fun c8 h=>ww ?_) (fun c8 h=>ww ?_)
 ·obtain⟨t9,ht9,h⟩:=bi h
  refine cN [] (F104_ok ht9) trivial (ww ?_)
  cases h
  exact eF [some 8,some 9,some 10]
 obtain⟨o10,ho,h⟩:=bi h
 refine AB (fun s=>s=⟨[(3,Pz 0),(6,Pz 1),(7,Pz 2),(9,Pz 3)],[xb (AO x0),xb [dI 0,dI 0,dI 0,dN,dN,dN],xb [dS ((⟨#[]⟩:ByteArray)),dS ((⟨#[]⟩:ByteArray)),dS ((⟨#[]⟩:ByteArray)),dI 0,dI 0,dI 0,dI 0,dB false,dI 0,dN,dN,dN,dN,dI 0,dI 0,dS ((⟨#[]⟩:ByteArray)),dN,dN,dI 0,dI 0,dS ((⟨#[]⟩:ByteArray)),dN,dN],xb [dS t1.1,dS t1.2.1,dS t1.2.2.1,dI t1.2.2.2.1,dI ((IntKind.i64.wrap (x0.Rev+1))),dI t1.2.2.2.2.2.1,dI t1.2.2.2.2.2.2.1,dB t1.2.2.2.2.2.2.2.1,dI t1.2.2.2.2.2.2.2.2.1,dM (t1.2.2.2.2.2.2.2.2.2.1.map AY),dM (t1.2.2.2.2.2.2.2.2.2.2.1.map A3),dM (t1.2.2.2.2.2.2.2.2.2.2.2.1.map eS),dM (t1.2.2.2.2.2.2.2.2.2.2.2.2.1.map AG),dI t1.2.2.2.2.2.2.2.2.2.2.2.2.2.1,dI t1.2.2.2.2.2.2.2.2.2.2.2.2.2.2.1,dS t1.2.2.2.2.2.2.2.2.2.2.2.2.2.2.2.1,dM (t1.2.2.2.2.2.2.2.2.2.2.2.2.2.2.2.2.1.map Ap),dM (t1.2.2.2.2.2.2.2.2.2.2.2.2.2.2.2.2.2.1.map Ao),dI t1.2.2.2.2.2.2.2.2.2.2.2.2.2.2.2.2.2.2.1,dI t1.2.2.2.2.2.2.2.2.2.2.2.2.2.2.2.2.2.2.2.1,dS t1.2.2.2.2.2.2.2.2.2.2.2.2.2.2.2.2.2.2.2.2.1,dM (t1.2.2.2.2.2.2.2.2.2.2.2.2.2.2.2.2.2.2.2.2.2.1.map Ap),dM (t1.2.2.2.2.2.2.2.2.2.2.2.2.2.2.2.2.2.2.2.2.2.2.1.map Ao)]]⟩) ?_ ?_
 ·have h:=ho
  clear ho
  refine ww ?_
  cases h
  exact eM [some 0,some 1,some 2,some 3] rfl
 rintro _ rfl
 clear ho
 refine ww ?_
 obtain⟨t11,ht11,h⟩:=bi h
 refine cN [] (F106_ok ht11) trivial (ww ?_)
 refine B3 (by simp[wrs,B8,BV]) (ww ?_)
 cases h
 exact eF [some 4,some 5,some 6]
def F77(x0:Ag)(x1:Int):Option (Int×(List Object)×(List Object)×(List Change)×Int):=(((if x1<x0.As then some true else some (decide (x0.Rev<x1)))).bind fun o1=>(if o1=true then(F104 x0).bind fun t4=>some ((x0.As,t4.1,t4.2.1,t4.2.2,5))else(F110 x0 x1).bind fun t5=>(F104 ((⟨x0.Rev,x1,x0.Am,t5.1,x0.Aa,t5.2⟩:Ag))).bind fun t6=>some ((x1,t6.1,t6.2.1,t6.2.2,0))))
def a77:AFn:=⟨22,[(.cell 4 (some 6)),(.tmp 5)],
 (.seq (.reg [Qg 2 0,
sq 4 (.zbox [dI 0,dI 0,dI 0,dN,dN,dN]),
Qe 5 0])
 (.seq (.seq (.sem (.reg [Qa 6 1,
Qb 7 1 2,
Qd 8 7,
Qn 9 6 8,
Qa 10 9,
Qv 11 10 false 1,
Qs 12 10 false 0 2,
Qt 13 10 false 12,
zg 14 10 false (.bin .gtr (.t 11) (.t 13)),
zl 15 (.pick (.t 10) (kB true) (.t 14)) [] [2,7,2,12]]))
 (.cond (.t 15)
 (.seq (.reg [Qc 16 6 2,
Qk 17 104 16,
su (.store 6 (.t 4) (.t 17)),
Qe 5 5])
 .ret)
 .skip))
 (.seq (.reg [Qc 18 6 2,
Qa 19 1,
Ql 20 110 18 19,
Qk 21 104 20,
su (.store 6 (.t 4) (.t 21)),
Qe 5 0])
 .ret)))⟩
theorem F77_ok{x0 x1 r}(h:F77 x0 x1=some r):An Tryz.prog 77 [.agg (AO x0),.c (dI x1)] [] (AL [.agg [dI x0.Rev,dI r.1,dI x0.Am,.own 0 0 0 (r.2.1.length) none,.own 1 0 0 (r.2.2.1.length) none,.own 2 0 0 (r.2.2.2.1.length) none],.c (dI r.2.2.2.2)]) [some (.arr 0 23 (r.2.1.map Ad)),some (.arr 0 23 (r.2.2.1.map Ad)),some (.arr 0 25 (r.2.2.2.1.map A9))]:=by
 rw[F77]at h
 refine zc a77 (by kernel_rfl) rfl (ww ?_)
 obtain⟨o1,ho,h⟩:=bi h
 refine AB (fun s=>s=⟨[(1,oc (dI x1)),(2,Pz 0),(4,Pz 1),(15,oc (dB o1))],[xb (AO x0),xb [dI 0,dI 0,dI 0,dN,dN,dN]]⟩) ?_ ?_
 ·have h:=ho
  clear ho
  refine ww ?_
  refine Af h (fun g2 h=>ww ?_) (fun g2 h=>ww ?_)
  ·cases h
   exact eM [some 0,some 1] rfl
  cases h
  exact eM [some 0,some 1] rfl
 rintro _ rfl
 clear ho
 refine ww ?_
 refine AE h (fun c3 h=>ww ?_) (fun c3 h=>ww ?_)
 ·obtain⟨t4,ht4,h⟩:=bi h
  refine cN [] (F104_ok ht4) trivial (ww ?_)
  cases h
  exact eF [some 2,some 3,some 4]
 obtain⟨t5,ht5,h⟩:=bi h
 refine cN [] (F110_ok ht5) trivial (ww ?_)
 obtain⟨t6,ht6,h⟩:=bi h
 refine Ce (as1:=[.agg [dI x0.Rev,dI x1,dI x0.Am,dM (t5.1.map Ad),dM (x0.Aa.map Ad),dM (t5.2.map A9)]]) [(2,.arr 1 23 [])] [some 0,some 1,none] [] (F104_ok ht6) ⟨?_,rfl,?_⟩ ?_ ?_ ?_ ?_ ?_ ?_ ?_ ?_
 ·simp only[ZZ.down,Nat.reduceEqDiff,reduceCtorEq,Nat.reduceAdd,Nat.reduceLeDiff,Nat.reduceLT,Nat.reduceBNe,EE.down]
 ·simp only[ZZ.down,Nat.reduceEqDiff,reduceCtorEq,Nat.reduceAdd,Nat.reduceLeDiff,Nat.reduceLT,Nat.reduceBNe,EE.down]
 ·simp only[ZZ.down,Nat.reduceEqDiff,reduceCtorEq,Nat.reduceAdd,Nat.reduceLeDiff,Nat.reduceLT,Nat.reduceBNe,EE.down]
 ·rfl
 ·rfl
 ·simp[Cj,A1.live,C.live]
 ·rfl
 ·decide
 ·exact trivial
 refine ww ?_
 cases h
 exact eF [some 3,some 4,some 5]
def F44(x0:Ag)(x1:TOp):Option (Int×Int×Int×(List Object)×(List Object)×(List Change)×Object×Int):=(F73 x0 x1).bind fun t1=>(if x1.Kind=1 then(F74 x0 ((⟨(⟨x1.O.Meta.Kind,x1.O.Meta.Namespace,x1.O.Meta.Name,x1.O.Meta.Uid,t1.1,x1.O.Meta.Ai,x1.O.Meta.Created,x1.O.Meta.Av,x1.O.Meta.Ar,x1.O.Meta.Ax,x1.O.Meta.AF,x1.O.Meta.Au,x1.O.Meta.Aj⟩:Meta),x1.O.Spec,x1.O.Status⟩:Object)) x1.Now).bind fun t3=>some ((t3.1,t3.2.1,t3.2.2.1,t3.2.2.2.1,t3.2.2.2.2.1,t3.2.2.2.2.2.1,(⟨(⟨(t3.2.2.2.2.2.2.1).Meta.Kind,(t3.2.2.2.2.2.2.1).Meta.Namespace,(t3.2.2.2.2.2.2.1).Meta.Name,(t3.2.2.2.2.2.2.1).Meta.Uid,(t3.2.2.2.2.2.2.1).Meta.Version,(t3.2.2.2.2.2.2.1).Meta.Ai,(t3.2.2.2.2.2.2.1).Meta.Created,(t3.2.2.2.2.2.2.1).Meta.Av,(t3.2.2.2.2.2.2.1).Meta.Ar,(t3.2.2.2.2.2.2.1).Meta.Ax,(t3.2.2.2.2.2.2.1).Meta.AF,(t3.2.2.2.2.2.2.1).Meta.Au,(t3.2.2.2.2.2.2.1).Meta.Aj⟩:Meta),(⟨(t3.2.2.2.2.2.2.1).Spec.Kind,(t3.2.2.2.2.2.2.1).Spec.N,(t3.2.2.2.2.2.2.1).Spec.S,(t3.2.2.2.2.2.2.1).Spec.At,(t3.2.2.2.2.2.2.1).Spec.Ae⟩:Ab),(⟨(t3.2.2.2.2.2.2.1).Status.Kind,(t3.2.2.2.2.2.2.1).Status.N,(t3.2.2.2.2.2.2.1).Status.S,(t3.2.2.2.2.2.2.1).Status.At,(t3.2.2.2.2.2.2.1).Status.Ae⟩:Ab)⟩:Object),t3.2.2.2.2.2.2.2))else(if x1.Kind=2 then(F75 x0 ((⟨(⟨x1.O.Meta.Kind,x1.O.Meta.Namespace,x1.O.Meta.Name,x1.O.Meta.Uid,t1.1,x1.O.Meta.Ai,x1.O.Meta.Created,x1.O.Meta.Av,x1.O.Meta.Ar,x1.O.Meta.Ax,x1.O.Meta.AF,x1.O.Meta.Au,x1.O.Meta.Aj⟩:Meta),x1.O.Spec,x1.O.Status⟩:Object))).bind fun t5=>some ((t5.1,t5.2.1,x0.Am,t5.2.2.1,t5.2.2.2.1,t5.2.2.2.2.1,(⟨(⟨t5.2.2.2.2.2.1,t5.2.2.2.2.2.2.1,t5.2.2.2.2.2.2.2.1,t5.2.2.2.2.2.2.2.2.1,t5.2.2.2.2.2.2.2.2.2.1,t5.2.2.2.2.2.2.2.2.2.2.1,t5.2.2.2.2.2.2.2.2.2.2.2.1,t5.2.2.2.2.2.2.2.2.2.2.2.2.1,t5.2.2.2.2.2.2.2.2.2.2.2.2.2.1,t5.2.2.2.2.2.2.2.2.2.2.2.2.2.2.1,t5.2.2.2.2.2.2.2.2.2.2.2.2.2.2.2.1,t5.2.2.2.2.2.2.2.2.2.2.2.2.2.2.2.2.1,t5.2.2.2.2.2.2.2.2.2.2.2.2.2.2.2.2.2.1⟩:Meta),(⟨t5.2.2.2.2.2.2.2.2.2.2.2.2.2.2.2.2.2.2.1,t5.2.2.2.2.2.2.2.2.2.2.2.2.2.2.2.2.2.2.2.1,t5.2.2.2.2.2.2.2.2.2.2.2.2.2.2.2.2.2.2.2.2.1,t5.2.2.2.2.2.2.2.2.2.2.2.2.2.2.2.2.2.2.2.2.2.1,t5.2.2.2.2.2.2.2.2.2.2.2.2.2.2.2.2.2.2.2.2.2.2.1⟩:Ab),(⟨t5.2.2.2.2.2.2.2.2.2.2.2.2.2.2.2.2.2.2.2.2.2.2.2.1,t5.2.2.2.2.2.2.2.2.2.2.2.2.2.2.2.2.2.2.2.2.2.2.2.2.1,t5.2.2.2.2.2.2.2.2.2.2.2.2.2.2.2.2.2.2.2.2.2.2.2.2.2.1,t5.2.2.2.2.2.2.2.2.2.2.2.2.2.2.2.2.2.2.2.2.2.2.2.2.2.2.1,t5.2.2.2.2.2.2.2.2.2.2.2.2.2.2.2.2.2.2.2.2.2.2.2.2.2.2.2.1⟩:Ab)⟩:Object),t5.2.2.2.2.2.2.2.2.2.2.2.2.2.2.2.2.2.2.2.2.2.2.2.2.2.2.2.2))else(if x1.Kind=3 then(F76 x0 x1.Key t1.2).bind fun t7=>some ((t7.1,t7.2.1,x0.Am,t7.2.2.1,t7.2.2.2.1,t7.2.2.2.2.1,(⟨(⟨(t7.2.2.2.2.2.1).Meta.Kind,(t7.2.2.2.2.2.1).Meta.Namespace,(t7.2.2.2.2.2.1).Meta.Name,(t7.2.2.2.2.2.1).Meta.Uid,(t7.2.2.2.2.2.1).Meta.Version,(t7.2.2.2.2.2.1).Meta.Ai,(t7.2.2.2.2.2.1).Meta.Created,(t7.2.2.2.2.2.1).Meta.Av,(t7.2.2.2.2.2.1).Meta.Ar,(t7.2.2.2.2.2.1).Meta.Ax,(t7.2.2.2.2.2.1).Meta.AF,(t7.2.2.2.2.2.1).Meta.Au,(t7.2.2.2.2.2.1).Meta.Aj⟩:Meta),(⟨(t7.2.2.2.2.2.1).Spec.Kind,(t7.2.2.2.2.2.1).Spec.N,(t7.2.2.2.2.2.1).Spec.S,(t7.2.2.2.2.2.1).Spec.At,(t7.2.2.2.2.2.1).Spec.Ae⟩:Ab),(⟨(t7.2.2.2.2.2.1).Status.Kind,(t7.2.2.2.2.2.1).Status.N,(t7.2.2.2.2.2.1).Status.S,(t7.2.2.2.2.2.1).Status.At,(t7.2.2.2.2.2.1).Status.Ae⟩:Ab)⟩:Object),t7.2.2.2.2.2.2))else(F77 x0 x1.Rev).bind fun t8=>some ((x0.Rev,t8.1,x0.Am,t8.2.1,t8.2.2.1,t8.2.2.2.1,(⟨(⟨(⟨#[]⟩:ByteArray),(⟨#[]⟩:ByteArray),(⟨#[]⟩:ByteArray),0,0,0,0,false,0,[],[],[],[]⟩:Meta),(⟨0,0,(⟨#[]⟩:ByteArray),[],[]⟩:Ab),(⟨0,0,(⟨#[]⟩:ByteArray),[],[]⟩:Ab)⟩:Object),t8.2.2.2.2)))))
def a44:AFn:=⟨57,[(.cell 4 (some 6)),(.cell 5 (some 23)),(.tmp 6)],
 (.seq (.reg [Qg 2 0,
Qg 3 1,
sq 4 (.zbox [dI 0,dI 0,dI 0,dN,dN,dN]),
sq 5 (.zbox [dS ⟨#[]⟩,dS ⟨#[]⟩,dS ⟨#[]⟩,dI 0,dI 0,dI 0,dI 0,dB false,dI 0,dN,dN,dN,dN,dI 0,dI 0,dS ⟨#[]⟩,dN,dN,dI 0,dI 0,dS ⟨#[]⟩,dN,dN]),
Qe 6 0])
 (.seq (.reg [Qc 12 6 2,
Qc 13 28 3,
Ql 14 73 12 13,
Qa 11 14,
Qo 15 11 0,
Qo 16 11 1,
sq 7 (.zbox [dS ⟨#[]⟩,dS ⟨#[]⟩,dS ⟨#[]⟩,dI 0,dI 0,dI 0,dI 0,dB false,dI 0,dN,dN,dN,dN,dI 0,dI 0,dS ⟨#[]⟩,dN,dN,dI 0,dI 0,dS ⟨#[]⟩,dN,dN]),
su (.store 23 (.t 7) (.t 15)),
Qa 8 16])
 (.seq (.seq (.reg [Qb 17 0 3,
Qd 18 17])
 (.block 0 (.seq (.reg [Qr 20 18 1,
Qa 19 20])
 (.cond (.t 19)
 (.seq (.reg [Qc 21 6 2,
Qc 22 23 7,
Qb 23 26 3,
Qd 24 23,
sq 25 (.call 74 [(.t 21),(.t 22),(.t 24)]),
Qo 26 25 0,
Qo 27 25 1,
Qo 28 25 2,
su (.store 6 (.t 4) (.t 26)),
su (.store 23 (.t 5) (.t 27)),
Qa 6 28])
 .ret)
 (.seq (.reg [Qr 30 18 2,
Qa 29 30])
 (.cond (.t 29)
 (.seq (.reg [Qc 31 6 2,
Qc 32 23 7,
Ql 33 75 31 32,
Qo 34 33 0,
Qo 35 33 1,
Qo 36 33 2,
su (.store 6 (.t 4) (.t 34)),
su (.store 23 (.t 5) (.t 35)),
Qa 6 36])
 .ret)
 (.seq (.reg [Qr 38 18 3,
Qa 37 38])
 (.cond (.t 37)
 (.seq (.reg [Qc 39 6 2,
Qb 40 24 3,
Qd 41 40,
Qa 42 8,
sq 43 (.call 76 [(.t 39),(.t 41),(.t 42)]),
Qo 44 43 0,
Qo 45 43 1,
Qo 46 43 2,
su (.store 6 (.t 4) (.t 44)),
su (.store 23 (.t 5) (.t 45)),
Qa 6 46])
 .ret)
 .skip))))))))
 (.seq (.reg [Qc 48 6 2,
Qb 49 27 3,
Qd 50 49,
Ql 51 77 48 50,
Qa 47 51,
Qo 52 47 0,
Qo 53 47 1,
sq 9 (.zbox [dI 0,dI 0,dI 0,dN,dN,dN]),
su (.store 6 (.t 9) (.t 52)),
Qa 10 53])
 (.seq (.reg [Qc 54 6 9,
sq 55 (.build [dS ⟨#[]⟩,dS ⟨#[]⟩,dS ⟨#[]⟩,dI 0,dI 0,dI 0,dI 0,dB false,dI 0,dN,dN,dN,dN,dI 0,dI 0,dS ⟨#[]⟩,dN,dN,dI 0,dI 0,dS ⟨#[]⟩,dN,dN] []),
Qa 56 10,
su (.store 6 (.t 4) (.t 54)),
su (.store 23 (.t 5) (.t 55)),
Qa 6 56])
 .ret)))))⟩
theorem F44_ok{x0 x1 r}(h:F44 x0 x1=some r):An Tryz.prog 44 [.agg (AO x0),.agg (WS x1)] [] (AL [.agg [dI r.1,dI r.2.1,dI r.2.2.1,.own 0 0 0 (r.2.2.2.1.length) none,.own 1 0 0 (r.2.2.2.2.1.length) none,.own 2 0 0 (r.2.2.2.2.2.1.length) none],.agg (Bc (r.2.2.2.2.2.2.1)),.c (dI r.2.2.2.2.2.2.2)]) [some (.arr 0 23 (r.2.2.2.1.map Ad)),some (.arr 0 23 (r.2.2.2.2.1.map Ad)),some (.arr 0 25 (r.2.2.2.2.2.1.map A9))]:=by
 rw[F44]at h
 refine zc a44 (by kernel_rfl) rfl (ww ?_)
 obtain⟨t1,ht1,h⟩:=bi h
 refine cN [] (F73_ok ht1) trivial (ww ?_)
 refine AH h (fun c2 h=>ww ?_) (fun c2 h=>ww ?_)
 ·obtain⟨t3,ht3,h⟩:=bi h
  refine cN [] (F74_ok ht3) trivial (ww ?_)
  cases h
  exact eF [some 5,some 6,some 7]
 refine AH h (fun c4 h=>ww ?_) (fun c4 h=>ww ?_)
 ·obtain⟨t5,ht5,h⟩:=bi h
  refine cN [] (F75_ok ht5) trivial (ww ?_)
  cases h
  exact eF [some 5,some 6,some 7]
 refine AH h (fun c6 h=>ww ?_) (fun c6 h=>ww ?_)
 ·obtain⟨t7,ht7,h⟩:=bi h
  refine cN [] (F76_ok ht7) trivial (ww ?_)
  cases h
  exact eF [some 5,some 6,some 7]
 obtain⟨t8,ht8,h⟩:=bi h
 refine cN [] (F77_ok ht8) trivial (ww ?_)
 cases h
 exact eF [some 5,some 6,some 7]
end Go.Proofs.YtdkmamiedcanfaaGreat
