/- Each Go function as a function over typed data, and its walk. -/
import Derived.Test.YtbopaemngpbdgaaGreatSX
import Derived.Test.YtbopaemngpbdgaaGreatSX19
import Derived.Test.YtbopaemngpbdgaaGreatSX21
namespace Go.Proofs.YtbopaemngpbdgaaGreat
open Go Go.Fw Go.Shelf
set_option maxRecDepth 100000
set_option maxHeartbeats 4000000
set_option linter.unusedSimpArgs false
set_option linter.unusedVariables false
def F25(x0:TStore)(x1:Int):Option ((List Object)×Int):=(((if x1<0 then some true else some (decide (x0.Rev<x1)))).bind fun o1=>(if o1=true then some (([],5))else(if x1<x0.Floor then some (([],10))else(F66 x0 x1).bind fun t5=>(F65 t5).bind fun t6=>some ((t6,0)))))
def a25:AFn:=⟨24,[(.tmp 4),(.tmp 5)],
 (.seq (.reg [sq 2 (.box (.t 0)),
sq 4 (.mv kN),
sq 5 (.mv (kI 0))])
 (.seq (.block 0 (.seq (.sem (.reg [sq 7 (.mv (.t 1)),
sq 8 (.bin .lss (.t 7) (kI 0)),
sq 9 (.mv (.t 8)),
zg 10 9 false (.mv (.t 1)),
zg 11 9 false (.fieldA 0 (.t 2)),
zg 12 9 false (.load none (.t 11)),
zg 13 9 false (.bin .gtr (.t 10) (.t 12)),
sq 14 (.pick (.t 9) (kB true) (.t 13)),
sq 6 (.mv (.t 14))]))
 (.cond (.t 6)
 (.seq (.reg [sq 4 (.mv kN),
sq 5 (.mv (kI 5))])
 .ret)
 (.seq (.reg [sq 16 (.mv (.t 1)),
sq 17 (.fieldA 1 (.t 2)),
sq 18 (.load none (.t 17)),
sq 19 (.bin .lss (.t 16) (.t 18)),
sq 15 (.mv (.t 19))])
 (.cond (.t 15)
 (.seq (.reg [sq 4 (.mv kN),
sq 5 (.mv (kI 10))])
 .ret)
 .skip)))))
 (.seq (.reg [sq 20 (.load (some 6) (.t 2)),
sq 21 (.mv (.t 1)),
sq 22 (.call 66 [(.t 20),(.t 21)]),
sq 23 (.call 65 [(.t 22)]),
sq 4 (.mv (.t 23)),
sq 5 (.mv (kI 0))])
 .ret)))⟩
theorem a25_ok:afn Tryz.prog 25=some a25.er:=by kernel_rfl
theorem F25_ok{x0 x1 r}(h:F25 x0 x1=some r):CallD Tryz.prog 25 [.agg [dI x0.Rev,dI x0.Floor,dI x0.NextUid,dM (x0.Base.map eObject),dM (x0.Objects.map eObject),dM (x0.History.map eChange)],.c (dI x1)] [] (tupV [.c (.own 0 0 0 (r.1.length) none),.c (dI r.2)]) [some (.arr 0 23 (r.1.map eObject))]:=by
 refine callS a25_ok (by simp[a25]) ?_
 rw[F25]at h
 simp only[a25,VW.down,Nat.reduceEqDiff,reduceCtorEq,Nat.reduceAdd,Nat.reduceLeDiff,Nat.reduceLT,Nat.reduceBEq,Nat.reduceSub,EE.down]
 obtain⟨o1,ho,h⟩:=bi h
 refine cutS (fun s=>s=⟨[(1,.one (.c (dI x1))),(2,.one (.c (.pt 0 0))),(6,.one (.c (dB o1)))],[some (.box [dI x0.Rev,dI x0.Floor,dI x0.NextUid,dM (x0.Base.map eObject),dM (x0.Objects.map eObject),dM (x0.History.map eChange)])]⟩) ?_ ?_
 ·have h:=ho
  clear ho
  refine ww ?_
  refine guardSh h (fun g2 h=>?_) (fun g2 h=>?_)
  ·refine ww ?_
   cases h
   exact eM [some 0] rfl
  refine ww ?_
  cases h
  exact eM [some 0] rfl
 rintro _ rfl
 clear ho
 refine ww ?_
 refine condBh h (fun c3 h=>?_) (fun c3 h=>?_)
 ·refine ww ?_
  cases h
  exact eF [none]
 refine ww ?_
 refine condSh h (fun c4 h=>?_) (fun c4 h=>?_)
 ·refine ww ?_
  cases h
  exact eF [none]
 refine ww ?_
 obtain⟨t5,ht5,h⟩:=bi h
 refine cN [] (F66_ok ht5) trivial (ww ?_)
 obtain⟨t6,ht6,h⟩:=bi h
 refine callX_gen (as1:=[.c (dM (t5.map eObject))]) [(1,.arr 1 23 [])] [some 0,none] [] (F65_ok ht6) ⟨?_,rfl,?_⟩ ?_ ?_ ?_ ?_ ?_ ?_ ?_ ?_
 ·simp only[ZZ.down,Nat.reduceEqDiff,reduceCtorEq,Nat.reduceAdd,Nat.reduceLeDiff,Nat.reduceLT,Nat.reduceBNe,EE.down]
 ·simp only[ZZ.down,Nat.reduceEqDiff,reduceCtorEq,Nat.reduceAdd,Nat.reduceLeDiff,Nat.reduceLT,Nat.reduceBNe,EE.down]
 ·simp only[ZZ.down,Nat.reduceEqDiff,reduceCtorEq,Nat.reduceAdd,Nat.reduceLeDiff,Nat.reduceLT,Nat.reduceBNe,EE.down]
 ·rfl
 ·rfl
 ·simp[liveAll,A1.live,C.live]
 ·rfl
 ·decide
 ·exact trivial
 refine ww ?_
 cases h
 exact eF [some 2]
end Go.Proofs.YtbopaemngpbdgaaGreat
