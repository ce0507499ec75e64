/- Each Go function as a function over typed data, and its walk. -/
import Derived.Test.YtbopaemngpbdgaaCX
import Derived.Test.YtbopaemngpbdgaaCX16
namespace Go.Proofs.Ytbopaemngpbdgaa
open Go Go.Fw Go.Shelf
set_option maxRecDepth 100000
set_option maxHeartbeats 4000000
set_option linter.unusedSimpArgs false
set_option linter.unusedVariables false
def F21(x0:TStore)(x1:ByteArray):Option (ByteArray×ByteArray×ByteArray×Int×Int×Int×Int×Bool×Int×(List Label)×(List Owner)×(List ByteArray)×(List Manager)×Int×Int×ByteArray×((List TValue))×((List TField))×Int×Int×ByteArray×((List TValue))×((List TField))×Bool):=(F51 x0.Objects x1).bind fun t1=>(if t1.2=true then(rdI x0.Objects t1.1).bind fun y3=>(F34 y3).bind fun t4=>some ((y3.Meta.Kind,y3.Meta.Namespace,y3.Meta.Name,y3.Meta.Uid,y3.Meta.Version,y3.Meta.Generation,y3.Meta.Created,y3.Meta.Deleting,y3.Meta.DeleteAt,t4.1,t4.2.1,t4.2.2.1,t4.2.2.2.1,t4.2.2.2.2.1,t4.2.2.2.2.2.1,t4.2.2.2.2.2.2.1,t4.2.2.2.2.2.2.2.1,t4.2.2.2.2.2.2.2.2.1,t4.2.2.2.2.2.2.2.2.2.1,t4.2.2.2.2.2.2.2.2.2.2.1,t4.2.2.2.2.2.2.2.2.2.2.2.1,t4.2.2.2.2.2.2.2.2.2.2.2.2.1,t4.2.2.2.2.2.2.2.2.2.2.2.2.2,true))else some (((⟨#[]⟩:ByteArray),(⟨#[]⟩:ByteArray),(⟨#[]⟩:ByteArray),0,0,0,0,false,0,[],[],[],[],0,0,(⟨#[]⟩:ByteArray),[],[],0,0,(⟨#[]⟩:ByteArray),[],[],false)))
def a21:AFn:=⟨23,[(.cell 4 (some 23)),(.tmp 5)],
 (.seq (.reg [sq 2 (.box (.t 0)),
sq 4 (.zbox [dS ⟨#[]⟩,dS ⟨#[]⟩,dS ⟨#[]⟩,dI 0,dI 0,dI 0,dI 0,dB false,dI 0,dN,dN,dN,dN,dI 0,dI 0,dS ⟨#[]⟩,dN,dN,dI 0,dI 0,dS ⟨#[]⟩,dN,dN]),
sq 5 (.mv (kB false))])
 (.seq (.seq (.reg [sq 9 (.fieldA 4 (.t 2)),
sq 10 (.load none (.t 9)),
sq 11 (.mv (.t 1)),
sq 12 (.call 51 [(.t 10),(.t 11)]),
sq 8 (.mv (.t 12)),
sq 13 (.ext (.t 8) 0),
sq 14 (.ext (.t 8) 1),
sq 6 (.mv (.t 13)),
sq 7 (.mv (.t 14))])
 (.seq (.reg [sq 15 (.mv (.t 7))])
 (.cond (.t 15)
 (.seq (.reg [sq 16 (.fieldA 4 (.t 2)),
sq 17 (.load none (.t 16)),
sq 18 (.mv (.t 6)),
sq 19 (.indexA 23 (.t 17) (.t 18)),
sq 20 (.load (some 23) (.t 19)),
sq 21 (.call 34 [(.t 20)]),
su (.store 23 (.t 4) (.t 21)),
sq 5 (.mv (kB true))])
 .ret)
 .skip)))
 (.seq (.reg [sq 22 (.build [dS ⟨#[]⟩,dS ⟨#[]⟩,dS ⟨#[]⟩,dI 0,dI 0,dI 0,dI 0,dB false,dI 0,dN,dN,dN,dN,dI 0,dI 0,dS ⟨#[]⟩,dN,dN,dI 0,dI 0,dS ⟨#[]⟩,dN,dN] []),
su (.store 23 (.t 4) (.t 22)),
sq 5 (.mv (kB false))])
 .ret)))⟩
theorem a21_ok:afn Try.prog 21=some a21.er:=by kernel_rfl
theorem F21_ok{x0 x1 r}(h:F21 x0 x1=some r):CallD Try.prog 21 [.agg [dI x0.Rev,dI x0.Floor,dI x0.NextUid,dM (x0.Base.map eObject),dM (x0.Objects.map eObject),dM (x0.History.map eChange)],.c (dS x1)] [] (tupV [.agg [dS r.1,dS r.2.1,dS r.2.2.1,dI r.2.2.2.1,dI r.2.2.2.2.1,dI r.2.2.2.2.2.1,dI r.2.2.2.2.2.2.1,dB r.2.2.2.2.2.2.2.1,dI r.2.2.2.2.2.2.2.2.1,.own 0 0 0 (r.2.2.2.2.2.2.2.2.2.1.length) none,.own 1 0 0 (r.2.2.2.2.2.2.2.2.2.2.1.length) none,.own 2 0 0 (r.2.2.2.2.2.2.2.2.2.2.2.1.length) none,.own 3 0 0 (r.2.2.2.2.2.2.2.2.2.2.2.2.1.length) none,dI r.2.2.2.2.2.2.2.2.2.2.2.2.2.1,dI r.2.2.2.2.2.2.2.2.2.2.2.2.2.2.1,dS r.2.2.2.2.2.2.2.2.2.2.2.2.2.2.2.1,dM (r.2.2.2.2.2.2.2.2.2.2.2.2.2.2.2.2.1.map eTValue),dM (r.2.2.2.2.2.2.2.2.2.2.2.2.2.2.2.2.2.1.map eTField),dI r.2.2.2.2.2.2.2.2.2.2.2.2.2.2.2.2.2.2.1,dI r.2.2.2.2.2.2.2.2.2.2.2.2.2.2.2.2.2.2.2.1,dS r.2.2.2.2.2.2.2.2.2.2.2.2.2.2.2.2.2.2.2.2.1,dM (r.2.2.2.2.2.2.2.2.2.2.2.2.2.2.2.2.2.2.2.2.2.1.map eTValue),dM (r.2.2.2.2.2.2.2.2.2.2.2.2.2.2.2.2.2.2.2.2.2.2.1.map eTField)],.c (dB r.2.2.2.2.2.2.2.2.2.2.2.2.2.2.2.2.2.2.2.2.2.2.2)]) [some (.arr 0 2 (r.2.2.2.2.2.2.2.2.2.1.map eLabel)),some (.arr 0 5 (r.2.2.2.2.2.2.2.2.2.2.1.map eOwner)),some (.arr 0 1 (r.2.2.2.2.2.2.2.2.2.2.2.1.map eS)),some (.arr 0 2 (r.2.2.2.2.2.2.2.2.2.2.2.2.1.map eManager))]:=by
 refine callS a21_ok (by simp[a21]) ?_
 rw[F21]at h
 simp only[a21,VW.down,Nat.reduceEqDiff,reduceCtorEq,Nat.reduceAdd,Nat.reduceLeDiff,Nat.reduceLT,Nat.reduceBEq,Nat.reduceSub,EE.down]
 obtain⟨t1,ht1,h⟩:=bi h
 refine cN [] (F51_ok ht1) trivial (ww ?_)
 refine condBh h (fun c2 h=>?_) (fun c2 h=>?_)
 ·refine ww ?_
  obtain⟨y3,hy3,h⟩:=bi h
  refine t_idxF (enc:=eObject) (xs:=x0.Objects) rfl rfl hy3 rfl (ww ?_)
  obtain⟨t4,ht4,h⟩:=bi h
  refine cN [] (F34_ok ht4) trivial (ww ?_)
  cases h
  exact eF [some 2,some 3,some 4,some 5]
 refine ww ?_
 cases h
 exact eF [none,none,none,none]
end Go.Proofs.Ytbopaemngpbdgaa
