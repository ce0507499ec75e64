/- Each Go function as a function over typed data, and its walk. -/
import Derived.Test.YtondgcmdhkhkkaaGreatAX
import Derived.Test.YtondgcmdhkhkkaaGreatAX7
import Derived.Test.YtondgcmdhkhkkaaGreatAX20
namespace Go.Proofs.YtondgcmdhkhkkaaGreat
open Go Go.Fw Go.Shelf
set_option maxRecDepth 100000
set_option maxHeartbeats 4000000
set_option linter.unusedSimpArgs false
set_option linter.unusedVariables false
def F12(x0:TStore)(x1:Filter)(x2:Int):Option (ByteArray×ByteArray×(List Requirement)×Int×Int):=(F34 x0 x1 x2).bind fun t1=>(if¬(t1=0)then some (((⟨#[]⟩:ByteArray),(⟨#[]⟩:ByteArray),[],0,t1))else(F35 x1).bind fun t3=>some ((x1.Kind,x1.Namespace,t3,x2,0)))
def a12:AFn:=⟨21,[(.cell 6 (some 4)),(.tmp 7)],
 (.seq (.reg [sq 3 (.box (.t 0)),
sq 4 (.box (.t 1)),
sq 6 (.zbox [dS ⟨#[]⟩,dS ⟨#[]⟩,dN,dI 0]),
sq 7 (.mv (kI 0))])
 (.seq (.seq (.reg [sq 9 (.load (some 6) (.t 3)),
sq 10 (.load (some 3) (.t 4)),
sq 11 (.mv (.t 2)),
sq 12 (.call 34 [(.t 9),(.t 10),(.t 11)]),
sq 8 (.mv (.t 12))])
 (.seq (.reg [sq 13 (.mv (.t 8)),
sq 14 (.bin .neq (.t 13) (kI 0))])
 (.cond (.t 14)
 (.seq (.reg [sq 15 (.build [dS ⟨#[]⟩,dS ⟨#[]⟩,dN,dI 0] []),
sq 16 (.mv (.t 8)),
su (.store 4 (.t 6) (.t 15)),
sq 7 (.mv (.t 16))])
 .ret)
 .skip)))
 (.seq (.reg [sq 17 (.load (some 3) (.t 4)),
sq 18 (.call 35 [(.t 17)]),
sq 19 (.mv (.t 2)),
sq 20 (.build [dS ⟨#[]⟩,dS ⟨#[]⟩,dN,dI 0] [(0,3,(.t 18)),(3,1,(.t 19))]),
su (.store 4 (.t 6) (.t 20)),
sq 7 (.mv (kI 0))])
 .ret)))⟩
theorem a12_ok:afn Tryz.prog 12=some a12.er:=by kernel_rfl
theorem F12_ok{x0 x1 x2 r}(h:F12 x0 x1 x2=some r):CallD Tryz.prog 12 [.agg [dI x0.Rev,dI x0.Floor,dI x0.NextUid,dM (x0.Base.map eObject),dM (x0.Objects.map eObject),dM (x0.History.map eChange)],.agg [dS x1.Kind,dS x1.Namespace,dM (x1.Selector.map eRequirement)],.c (dI x2)] [] (tupV [.agg [dS r.1,dS r.2.1,.own 0 0 0 (r.2.2.1.length) none,dI r.2.2.2.1],.c (dI r.2.2.2.2)]) [some (.arr 0 3 (r.2.2.1.map eRequirement))]:=by
 refine callS a12_ok (by simp[a12]) ?_
 rw[F12]at h
 simp only[a12,VW.down,Nat.reduceEqDiff,reduceCtorEq,Nat.reduceAdd,Nat.reduceLeDiff,Nat.reduceLT,Nat.reduceBEq,Nat.reduceSub,EE.down]
 obtain⟨t1,ht1,h⟩:=bi h
 refine cN [] (F34_ok ht1) trivial (ww ?_)
 refine condSh h (fun c2 h=>?_) (fun c2 h=>?_)
 ·refine ww ?_
  cases h
  exact eF [none]
 refine ww ?_
 obtain⟨t3,ht3,h⟩:=bi h
 refine cN [] (F35_ok ht3) trivial (ww ?_)
 cases h
 exact eF [some 3]
end Go.Proofs.YtondgcmdhkhkkaaGreat
