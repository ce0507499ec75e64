/- Each Go function as a function over typed data, and its walk. -/
import Derived.Test.YtbopaemngpbdgaaCX
import Derived.Test.YtbopaemngpbdgaaCX18
import Derived.Test.YtbopaemngpbdgaaCX20
namespace Go.Proofs.Ytbopaemngpbdgaa
open Go Go.Fw Go.Shelf
set_option maxRecDepth 100000
set_option maxHeartbeats 4000000
set_option linter.unusedSimpArgs false
set_option linter.unusedVariables false
def F27(x0:TStore)(x1:ByteArray)(x2:Int):Option (Int×Int×(List Object)×(List Object)×(List Change)×Object×Int):=(F21 x0 x1).bind fun t1=>(if(nb t1.2.2.2.2.2.2.2.2.2.2.2.2.2.2.2.2.2.2.2.2.2.2.2)=true then(F32 x0).bind fun t3=>some ((x0.Rev,x0.Floor,t3.1,t3.2.1,t3.2.2,(⟨(⟨(⟨#[]⟩:ByteArray),(⟨#[]⟩:ByteArray),(⟨#[]⟩:ByteArray),0,0,0,0,false,0,[],[],[],[]⟩:Meta),(⟨0,0,(⟨#[]⟩:ByteArray),[],[]⟩:TValue),(⟨0,0,(⟨#[]⟩:ByteArray),[],[]⟩:TValue)⟩:Object),7))else(((if¬(x2=0)then some (decide (¬(x2=t1.2.2.2.2.1)))else some false)).bind fun o4=>(if o4=true then(F32 x0).bind fun t7=>some ((x0.Rev,x0.Floor,t7.1,t7.2.1,t7.2.2,(⟨(⟨(⟨#[]⟩:ByteArray),(⟨#[]⟩:ByteArray),(⟨#[]⟩:ByteArray),0,0,0,0,false,0,[],[],[],[]⟩:Meta),(⟨0,0,(⟨#[]⟩:ByteArray),[],[]⟩:TValue),(⟨0,0,(⟨#[]⟩:ByteArray),[],[]⟩:TValue)⟩:Object),9))else(if 1000000000000000≤x0.Rev then(F32 x0).bind fun t9=>some ((x0.Rev,x0.Floor,t9.1,t9.2.1,t9.2.2,(⟨(⟨(⟨#[]⟩:ByteArray),(⟨#[]⟩:ByteArray),(⟨#[]⟩:ByteArray),0,0,0,0,false,0,[],[],[],[]⟩:Meta),(⟨0,0,(⟨#[]⟩:ByteArray),[],[]⟩:TValue),(⟨0,0,(⟨#[]⟩:ByteArray),[],[]⟩:TValue)⟩:Object),15))else((some (())).bind fun o10=>(F36 x0 2 ((⟨(⟨t1.1,t1.2.1,t1.2.2.1,t1.2.2.2.1,(IntKind.i64.wrap (x0.Rev+1)),t1.2.2.2.2.2.1,t1.2.2.2.2.2.2.1,t1.2.2.2.2.2.2.2.1,t1.2.2.2.2.2.2.2.2.1,t1.2.2.2.2.2.2.2.2.2.1,t1.2.2.2.2.2.2.2.2.2.2.1,t1.2.2.2.2.2.2.2.2.2.2.2.1,t1.2.2.2.2.2.2.2.2.2.2.2.2.1⟩:Meta),(⟨t1.2.2.2.2.2.2.2.2.2.2.2.2.2.1,t1.2.2.2.2.2.2.2.2.2.2.2.2.2.2.1,t1.2.2.2.2.2.2.2.2.2.2.2.2.2.2.2.1,t1.2.2.2.2.2.2.2.2.2.2.2.2.2.2.2.2.1,t1.2.2.2.2.2.2.2.2.2.2.2.2.2.2.2.2.2.1⟩:TValue),(⟨t1.2.2.2.2.2.2.2.2.2.2.2.2.2.2.2.2.2.2.1,t1.2.2.2.2.2.2.2.2.2.2.2.2.2.2.2.2.2.2.2.1,t1.2.2.2.2.2.2.2.2.2.2.2.2.2.2.2.2.2.2.2.2.1,t1.2.2.2.2.2.2.2.2.2.2.2.2.2.2.2.2.2.2.2.2.2.1,t1.2.2.2.2.2.2.2.2.2.2.2.2.2.2.2.2.2.2.2.2.2.2.1⟩:TValue)⟩:Object))).bind fun t11=>some ((t11.1,t11.2.1,t11.2.2.1,t11.2.2.2.1,t11.2.2.2.2,(⟨(⟨t1.1,t1.2.1,t1.2.2.1,t1.2.2.2.1,(IntKind.i64.wrap (x0.Rev+1)),t1.2.2.2.2.2.1,t1.2.2.2.2.2.2.1,t1.2.2.2.2.2.2.2.1,t1.2.2.2.2.2.2.2.2.1,t1.2.2.2.2.2.2.2.2.2.1,t1.2.2.2.2.2.2.2.2.2.2.1,t1.2.2.2.2.2.2.2.2.2.2.2.1,t1.2.2.2.2.2.2.2.2.2.2.2.2.1⟩:Meta),(⟨t1.2.2.2.2.2.2.2.2.2.2.2.2.2.1,t1.2.2.2.2.2.2.2.2.2.2.2.2.2.2.1,t1.2.2.2.2.2.2.2.2.2.2.2.2.2.2.2.1,t1.2.2.2.2.2.2.2.2.2.2.2.2.2.2.2.2.1,t1.2.2.2.2.2.2.2.2.2.2.2.2.2.2.2.2.2.1⟩:TValue),(⟨t1.2.2.2.2.2.2.2.2.2.2.2.2.2.2.2.2.2.2.1,t1.2.2.2.2.2.2.2.2.2.2.2.2.2.2.2.2.2.2.2.1,t1.2.2.2.2.2.2.2.2.2.2.2.2.2.2.2.2.2.2.2.2.1,t1.2.2.2.2.2.2.2.2.2.2.2.2.2.2.2.2.2.2.2.2.2.1,t1.2.2.2.2.2.2.2.2.2.2.2.2.2.2.2.2.2.2.2.2.2.2.1⟩:TValue)⟩:Object),0)))))))
def a27:AFn:=⟨52,[(.cell 6 (some 6)),(.cell 7 (some 23)),(.tmp 8)],
 (.seq (.reg [sq 3 (.box (.t 0)),
sq 6 (.zbox [dI 0,dI 0,dI 0,dN,dN,dN]),
sq 7 (.zbox [dS ⟨#[]⟩,dS ⟨#[]⟩,dS ⟨#[]⟩,dI 0,dI 0,dI 0,dI 0,dB false,dI 0,dN,dN,dN,dN,dI 0,dI 0,dS ⟨#[]⟩,dN,dN,dI 0,dI 0,dS ⟨#[]⟩,dN,dN]),
sq 8 (.mv (kI 0))])
 (.seq (.reg [sq 12 (.load (some 6) (.t 3)),
sq 13 (.mv (.t 1)),
sq 14 (.call 21 [(.t 12),(.t 13)]),
sq 11 (.mv (.t 14)),
sq 15 (.ext (.t 11) 0),
sq 16 (.ext (.t 11) 1),
sq 9 (.zbox [dS ⟨#[]⟩,dS ⟨#[]⟩,dS ⟨#[]⟩,dI 0,dI 0,dI 0,dI 0,dB false,dI 0,dN,dN,dN,dN,dI 0,dI 0,dS ⟨#[]⟩,dN,dN,dI 0,dI 0,dS ⟨#[]⟩,dN,dN]),
su (.store 23 (.t 9) (.t 15)),
sq 10 (.mv (.t 16))])
 (.seq (.block 0 (.seq (.reg [sq 18 (.mv (.t 10)),
sq 19 (.not (.t 18)),
sq 17 (.mv (.t 19))])
 (.cond (.t 17)
 (.seq (.reg [sq 20 (.load (some 6) (.t 3)),
sq 21 (.call 32 [(.t 20)]),
sq 22 (.build [dS ⟨#[]⟩,dS ⟨#[]⟩,dS ⟨#[]⟩,dI 0,dI 0,dI 0,dI 0,dB false,dI 0,dN,dN,dN,dN,dI 0,dI 0,dS ⟨#[]⟩,dN,dN,dI 0,dI 0,dS ⟨#[]⟩,dN,dN] []),
su (.store 6 (.t 6) (.t 21)),
su (.store 23 (.t 7) (.t 22)),
sq 8 (.mv (kI 7))])
 .ret)
 (.seq (.sem (.reg [sq 24 (.mv (.t 2)),
sq 25 (.bin .neq (.t 24) (kI 0)),
sq 26 (.mv (.t 25)),
zg 27 26 true (.mv (.t 2)),
zg 28 26 true (.fieldA 0 (.t 9)),
zg 29 26 true (.fieldA 4 (.t 28)),
zg 30 26 true (.load none (.t 29)),
zg 31 26 true (.bin .neq (.t 27) (.t 30)),
sq 32 (.pick (.t 26) (.t 31) (kB false)),
sq 23 (.mv (.t 32))]))
 (.cond (.t 23)
 (.seq (.reg [sq 33 (.load (some 6) (.t 3)),
sq 34 (.call 32 [(.t 33)]),
sq 35 (.build [dS ⟨#[]⟩,dS ⟨#[]⟩,dS ⟨#[]⟩,dI 0,dI 0,dI 0,dI 0,dB false,dI 0,dN,dN,dN,dN,dI 0,dI 0,dS ⟨#[]⟩,dN,dN,dI 0,dI 0,dS ⟨#[]⟩,dN,dN] []),
su (.store 6 (.t 6) (.t 34)),
su (.store 23 (.t 7) (.t 35)),
sq 8 (.mv (kI 9))])
 .ret)
 (.seq (.reg [sq 37 (.fieldA 0 (.t 3)),
sq 38 (.load none (.t 37)),
sq 39 (.bin .geq (.t 38) (kI 1000000000000000)),
sq 36 (.mv (.t 39))])
 (.cond (.t 36)
 (.seq (.reg [sq 40 (.load (some 6) (.t 3)),
sq 41 (.call 32 [(.t 40)]),
sq 42 (.build [dS ⟨#[]⟩,dS ⟨#[]⟩,dS ⟨#[]⟩,dI 0,dI 0,dI 0,dI 0,dB false,dI 0,dN,dN,dN,dN,dI 0,dI 0,dS ⟨#[]⟩,dN,dN,dI 0,dI 0,dS ⟨#[]⟩,dN,dN] []),
su (.store 6 (.t 6) (.t 41)),
su (.store 23 (.t 7) (.t 42)),
sq 8 (.mv (kI 15))])
 .ret)
 .skip)))))))
 (.seq (.sem (.reg [sq 43 (.fieldA 0 (.t 3)),
sq 44 (.load none (.t 43)),
sq 45 (.bin .add (.t 44) (kI 1)),
sq 46 (.fieldA 0 (.t 9)),
sq 47 (.fieldA 4 (.t 46)),
⟨none,none,.store 1 (.t 47) (.t 45),[],(.lone [3,43,9,46])⟩]))
 (.seq (.regd [sq 48 (.load (some 6) (.t 3)),
sq 49 (.load (some 23) (.t 9)),
zn 50 (.call 36 [(.t 48),(kI 2),(.t 49)]) [0,1] [0,1],
sq 51 (.load (some 23) (.t 9)),
⟨none,none,.store 6 (.t 6) (.t 50),[0,1,2],(.lone [9])⟩,
⟨none,none,.store 23 (.t 7) (.t 51),[0,1,2,3,4],(.lone [])⟩,
sd 8 (.mv (kI 0)) [0,1,2,3,4,5]])
 .ret)))))⟩
theorem a27_ok:afn Try.prog 27=some a27.er:=by kernel_rfl
theorem F27_ok{x0 x1 x2 r}(h:F27 x0 x1 x2=some r):CallD Try.prog 27 [.agg [dI x0.Rev,dI x0.Floor,dI x0.NextUid,dM (x0.Base.map eObject),dM (x0.Objects.map eObject),dM (x0.History.map eChange)],.c (dS x1),.c (dI x2)] [] (tupV [.agg [dI r.1,dI r.2.1,dI x0.NextUid,.own 0 0 0 (r.2.2.1.length) none,.own 1 0 0 (r.2.2.2.1.length) none,.own 2 0 0 (r.2.2.2.2.1.length) none],.agg [dS ((r.2.2.2.2.2.1).Meta.Kind),dS ((r.2.2.2.2.2.1).Meta.Namespace),dS ((r.2.2.2.2.2.1).Meta.Name),dI ((r.2.2.2.2.2.1).Meta.Uid),dI ((r.2.2.2.2.2.1).Meta.Version),dI ((r.2.2.2.2.2.1).Meta.Generation),dI ((r.2.2.2.2.2.1).Meta.Created),dB ((r.2.2.2.2.2.1).Meta.Deleting),dI ((r.2.2.2.2.2.1).Meta.DeleteAt),dM (((r.2.2.2.2.2.1).Meta.Labels).map eLabel),dM (((r.2.2.2.2.2.1).Meta.Owners).map eOwner),dM (((r.2.2.2.2.2.1).Meta.Finalizers).map eS),dM (((r.2.2.2.2.2.1).Meta.Managers).map eManager),dI ((r.2.2.2.2.2.1).Spec.Kind),dI ((r.2.2.2.2.2.1).Spec.N),dS ((r.2.2.2.2.2.1).Spec.S),dM (((r.2.2.2.2.2.1).Spec.List_).map eTValue),dM (((r.2.2.2.2.2.1).Spec.Fields).map eTField),dI ((r.2.2.2.2.2.1).Status.Kind),dI ((r.2.2.2.2.2.1).Status.N),dS ((r.2.2.2.2.2.1).Status.S),dM (((r.2.2.2.2.2.1).Status.List_).map eTValue),dM (((r.2.2.2.2.2.1).Status.Fields).map eTField)],.c (dI r.2.2.2.2.2.2)]) [some (.arr 0 23 (r.2.2.1.map eObject)),some (.arr 0 23 (r.2.2.2.1.map eObject)),some (.arr 0 25 (r.2.2.2.2.1.map eChange))]:=by
 refine callS a27_ok (by simp[a27]) ?_
 rw[F27]at h
 simp only[a27,VW.down,Nat.reduceEqDiff,reduceCtorEq,Nat.reduceAdd,Nat.reduceLeDiff,Nat.reduceLT,Nat.reduceBEq,Nat.reduceSub,EE.down]
 obtain⟨t1,ht1,h⟩:=bi h
 refine cN [] (F21_ok ht1) trivial (ww ?_)
 refine condBh h (fun c2 h=>?_) (fun c2 h=>?_)
 ·refine ww ?_
  obtain⟨t3,ht3,h⟩:=bi h
  refine cN [] (F32_ok ht3) trivial (ww ?_)
  cases h
  exact eF [some 8,some 9,some 10]
 refine ww ?_
 obtain⟨o4,ho,h⟩:=bi h
 refine cutS (fun s=>s=⟨[(3,.one (.c (.pt 0 0))),(6,.one (.c (.pt 1 0))),(7,.one (.c (.pt 2 0))),(9,.one (.c (.pt 3 0))),(23,.one (.c (dB o4)))],[some (.box [dI x0.Rev,dI x0.Floor,dI x0.NextUid,dM (x0.Base.map eObject),dM (x0.Objects.map eObject),dM (x0.History.map eChange)]),some (.box [dI 0,dI 0,dI 0,dN,dN,dN]),some (.box [dS ((⟨#[]⟩:ByteArray)),dS ((⟨#[]⟩:ByteArray)),dS ((⟨#[]⟩:ByteArray)),dI 0,dI 0,dI 0,dI 0,dB false,dI 0,dN,dN,dN,dN,dI 0,dI 0,dS ((⟨#[]⟩:ByteArray)),dN,dN,dI 0,dI 0,dS ((⟨#[]⟩:ByteArray)),dN,dN]),some (.box [dS t1.1,dS t1.2.1,dS t1.2.2.1,dI t1.2.2.2.1,dI t1.2.2.2.2.1,dI t1.2.2.2.2.2.1,dI t1.2.2.2.2.2.2.1,dB t1.2.2.2.2.2.2.2.1,dI t1.2.2.2.2.2.2.2.2.1,.own 4 0 0 (t1.2.2.2.2.2.2.2.2.2.1.length) none,.own 5 0 0 (t1.2.2.2.2.2.2.2.2.2.2.1.length) none,.own 6 0 0 (t1.2.2.2.2.2.2.2.2.2.2.2.1.length) none,.own 7 0 0 (t1.2.2.2.2.2.2.2.2.2.2.2.2.1.length) none,dI t1.2.2.2.2.2.2.2.2.2.2.2.2.2.1,dI t1.2.2.2.2.2.2.2.2.2.2.2.2.2.2.1,dS t1.2.2.2.2.2.2.2.2.2.2.2.2.2.2.2.1,dM (t1.2.2.2.2.2.2.2.2.2.2.2.2.2.2.2.2.1.map eTValue),dM (t1.2.2.2.2.2.2.2.2.2.2.2.2.2.2.2.2.2.1.map eTField),dI t1.2.2.2.2.2.2.2.2.2.2.2.2.2.2.2.2.2.2.1,dI t1.2.2.2.2.2.2.2.2.2.2.2.2.2.2.2.2.2.2.2.1,dS t1.2.2.2.2.2.2.2.2.2.2.2.2.2.2.2.2.2.2.2.2.1,dM (t1.2.2.2.2.2.2.2.2.2.2.2.2.2.2.2.2.2.2.2.2.2.1.map eTValue),dM (t1.2.2.2.2.2.2.2.2.2.2.2.2.2.2.2.2.2.2.2.2.2.2.1.map eTField)]),some (.arr 0 2 (t1.2.2.2.2.2.2.2.2.2.1.map eLabel)),some (.arr 0 5 (t1.2.2.2.2.2.2.2.2.2.2.1.map eOwner)),some (.arr 0 1 (t1.2.2.2.2.2.2.2.2.2.2.2.1.map eS)),some (.arr 0 2 (t1.2.2.2.2.2.2.2.2.2.2.2.2.1.map eManager))]⟩) ?_ ?_
 ·have h:=ho
  clear ho
  refine ww ?_
  refine guardSh h (fun g5 h=>?_) (fun g5 h=>?_)
  ·refine ww ?_
   cases h
   exact eM [some 0,some 1,some 2,some 7,some 3,some 4,some 5,some 6] rfl
  refine ww ?_
  cases h
  exact eM [some 0,some 1,some 2,some 7,some 3,some 4,some 5,some 6] rfl
 rintro _ rfl
 clear ho
 refine ww ?_
 refine condBh h (fun c6 h=>?_) (fun c6 h=>?_)
 ·refine ww ?_
  obtain⟨t7,ht7,h⟩:=bi h
  refine cN [] (F32_ok ht7) trivial (ww ?_)
  cases h
  exact eF [some 8,some 9,some 10]
 refine ww ?_
 refine condSh h (fun c8 h=>?_) (fun c8 h=>?_)
 ·refine ww ?_
  obtain⟨t9,ht9,h⟩:=bi h
  refine cN [] (F32_ok ht9) trivial (ww ?_)
  cases h
  exact eF [some 8,some 9,some 10]
 refine ww ?_
 obtain⟨o10,ho,h⟩:=bi h
 refine cutS (fun s=>s=⟨[(3,.one (.c (.pt 0 0))),(6,.one (.c (.pt 1 0))),(7,.one (.c (.pt 2 0))),(9,.one (.c (.pt 3 0)))],[some (.box [dI x0.Rev,dI x0.Floor,dI x0.NextUid,dM (x0.Base.map eObject),dM (x0.Objects.map eObject),dM (x0.History.map eChange)]),some (.box [dI 0,dI 0,dI 0,dN,dN,dN]),some (.box [dS ((⟨#[]⟩:ByteArray)),dS ((⟨#[]⟩:ByteArray)),dS ((⟨#[]⟩:ByteArray)),dI 0,dI 0,dI 0,dI 0,dB false,dI 0,dN,dN,dN,dN,dI 0,dI 0,dS ((⟨#[]⟩:ByteArray)),dN,dN,dI 0,dI 0,dS ((⟨#[]⟩:ByteArray)),dN,dN]),some (.box [dS t1.1,dS t1.2.1,dS t1.2.2.1,dI t1.2.2.2.1,dI ((IntKind.i64.wrap (x0.Rev+1))),dI t1.2.2.2.2.2.1,dI t1.2.2.2.2.2.2.1,dB t1.2.2.2.2.2.2.2.1,dI t1.2.2.2.2.2.2.2.2.1,dM (t1.2.2.2.2.2.2.2.2.2.1.map eLabel),dM (t1.2.2.2.2.2.2.2.2.2.2.1.map eOwner),dM (t1.2.2.2.2.2.2.2.2.2.2.2.1.map eS),dM (t1.2.2.2.2.2.2.2.2.2.2.2.2.1.map eManager),dI t1.2.2.2.2.2.2.2.2.2.2.2.2.2.1,dI t1.2.2.2.2.2.2.2.2.2.2.2.2.2.2.1,dS t1.2.2.2.2.2.2.2.2.2.2.2.2.2.2.2.1,dM (t1.2.2.2.2.2.2.2.2.2.2.2.2.2.2.2.2.1.map eTValue),dM (t1.2.2.2.2.2.2.2.2.2.2.2.2.2.2.2.2.2.1.map eTField),dI t1.2.2.2.2.2.2.2.2.2.2.2.2.2.2.2.2.2.2.1,dI t1.2.2.2.2.2.2.2.2.2.2.2.2.2.2.2.2.2.2.2.1,dS t1.2.2.2.2.2.2.2.2.2.2.2.2.2.2.2.2.2.2.2.2.1,dM (t1.2.2.2.2.2.2.2.2.2.2.2.2.2.2.2.2.2.2.2.2.2.1.map eTValue),dM (t1.2.2.2.2.2.2.2.2.2.2.2.2.2.2.2.2.2.2.2.2.2.2.1.map eTField)])]⟩) ?_ ?_
 ·have h:=ho
  clear ho
  refine ww ?_
  cases h
  exact eM [some 0,some 1,some 2,some 3] rfl
 rintro _ rfl
 clear ho
 refine ww ?_
 obtain⟨t11,ht11,h⟩:=bi h
 refine cN [] (F36_ok ht11) trivial (ww ?_)
 refine kD_new (by simp[wrs,allW,hset]) (ww ?_)
 cases h
 exact eF [some 4,some 5,some 6]
end Go.Proofs.Ytbopaemngpbdgaa
