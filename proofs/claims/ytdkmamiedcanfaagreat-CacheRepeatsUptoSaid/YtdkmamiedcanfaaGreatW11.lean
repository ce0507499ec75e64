/- Each Go function as a function over typed data, and its walk. -/
import Derived.Test.YtdkmamiedcanfaaGreatW0
import Derived.Test.YtdkmamiedcanfaaGreatW6
import Derived.Test.YtdkmamiedcanfaaGreatW7
import Derived.Test.YtdkmamiedcanfaaGreatW8
import Derived.Test.YtdkmamiedcanfaaGreatW9
import Derived.Test.YtdkmamiedcanfaaGreatW10
namespace Go.Proofs.YtdkmamiedcanfaaGreat
open Go Go.Fw Go.Shelf
set_option maxRecDepth 100000
set_option maxHeartbeats 4000000
set_option linter.unusedSimpArgs false
set_option linter.unusedVariables false
def F21(x0:TStore)(x1:Cache)(x2:Int):Option ((List Requirement)×Int×Bool×(List Object)×Bool):=(F45 x1.Filter.Selector).bind fun t1=>(if(nb t1)=true then(F11 x1 ([])).bind fun t3=>some ((t3.1,t3.2.1,x1.Synced,t3.2.2,false))else(F46 x0 ((⟨x1.Filter,x1.Rev⟩:Watcher)) x2).bind fun t4=>(((((if(nb x1.Synced)=true then some true else some (decide (¬(t4.2.2.2=0))))).bind fun o6=>(if o6=true then(F47 x0 x1).bind fun t9=>some ((t9.1,x0.Rev,true,t9.2))else(F11 x1 t4.2.2.1).bind fun t10=>some ((t10.1,t10.2.1,x1.Synced,t10.2.2))))).bind fun o5=>some ((o5.1,o5.2.1,o5.2.2.1,o5.2.2.2,decide (o5.2.1=x0.Rev)))))
def a21:AFn:=⟨51,[(.cell 6 (some 6)),(.tmp 7)],
 (.seq (.reg [sq 3 (.box (.t 0)),
sq 4 (.box (.t 1)),
sq 6 (.zbox [dS ⟨#[]⟩,dS ⟨#[]⟩,dN,dI 0,dB false,dN]),
sq 7 (.mv (kB false))])
 (.seq (.seq (.reg [sq 12 (.fieldA 0 (.t 4)),
sq 13 (.fieldA 2 (.t 12)),
sq 14 (.load none (.t 13)),
sq 15 (.call 45 [(.t 14)]),
sq 16 (.not (.t 15))])
 (.cond (.t 16)
 (.seq (.reg [sq 17 (.load (some 6) (.t 4)),
sq 18 (.call 11 [(.t 17),kN]),
su (.store 6 (.t 6) (.t 18)),
sq 7 (.mv (kB false))])
 .ret)
 .skip))
 (.seq (.reg [sq 19 (.load (some 6) (.t 4)),
sq 8 (.zbox [dS ⟨#[]⟩,dS ⟨#[]⟩,dN,dI 0,dB false,dN]),
su (.store 6 (.t 8) (.t 19))])
 (.seq (.reg [sq 21 (.load (some 6) (.t 3)),
sq 22 (.fieldA 0 (.t 4)),
sq 23 (.load (some 3) (.t 22)),
sq 24 (.fieldA 3 (.t 4)),
sq 25 (.load none (.t 24)),
sq 26 (.build [dS ⟨#[]⟩,dS ⟨#[]⟩,dN,dI 0] [(0,3,(.t 23)),(3,1,(.t 25))]),
sq 27 (.mv (.t 2)),
sq 28 (.call 46 [(.t 21),(.t 26),(.t 27)]),
sq 20 (.mv (.t 28)),
sq 29 (.ext (.t 20) 0),
sq 30 (.ext (.t 20) 1),
sq 31 (.ext (.t 20) 2),
sq 9 (.zbox [dS ⟨#[]⟩,dS ⟨#[]⟩,dN,dI 0]),
su (.store 4 (.t 9) (.t 29)),
sq 10 (.mv (.t 30)),
sq 11 (.mv (.t 31))])
 (.seq (.sem (.seq (.sem (.reg [sq 32 (.fieldA 4 (.t 4)),
sq 33 (.load none (.t 32)),
sq 34 (.not (.t 33)),
sq 35 (.mv (.t 34)),
zg 36 35 false (.mv (.t 11)),
zg 37 35 false (.bin .neq (.t 36) (kI 0)),
zl 38 (.pick (.t 35) (kB true) (.t 37)) [] [4,32]]))
 (.cond (.t 38)
 (.reg [sq 39 (.load (some 6) (.t 3)),
sq 40 (.load (some 6) (.t 4)),
sq 41 (.call 47 [(.t 39),(.t 40)]),
su (.store 6 (.t 8) (.t 41))])
 (.reg [sq 42 (.load (some 6) (.t 4)),
sq 43 (.mv (.t 10)),
sq 44 (.call 11 [(.t 42),(.t 43)]),
su (.store 6 (.t 8) (.t 44))]))))
 (.seq (.regd [sq 45 (.load (some 6) (.t 8)),
sq 46 (.fieldA 3 (.t 8)),
sd 47 (.load none (.t 46)) [1],
sq 48 (.fieldA 0 (.t 3)),
sd 49 (.load none (.t 48)) [3],
sd 50 (.bin .eql (.t 47) (.t 49)) [1,2,3,4],
⟨none,none,.store 6 (.t 6) (.t 45),[0],(.lone [8,46,3,48])⟩,
sd 7 (.mv (.t 50)) [0,1,2,3,4,5,6]])
 .ret))))))⟩
theorem F21_ok{x0 x1 x2 r}(h:F21 x0 x1 x2=some r):CallD Tryz.prog 21 [.agg [dI x0.Rev,dI x0.Floor,dI x0.NextUid,dM (x0.Base.map eObject),dM (x0.Objects.map eObject),dM (x0.History.map eChange)],.agg [dS x1.Filter.Kind,dS x1.Filter.Namespace,dM (x1.Filter.Selector.map eRequirement),dI x1.Rev,dB x1.Synced,dM (x1.Objects.map eObject)],.c (dI x2)] [] (tupV [.agg [dS x1.Filter.Kind,dS x1.Filter.Namespace,.own 0 0 0 (r.1.length) none,dI r.2.1,dB r.2.2.1,.own 1 0 0 (r.2.2.2.1.length) none],.c (dB r.2.2.2.2)]) [some (.arr 0 3 (r.1.map eRequirement)),some (.arr 0 23 (r.2.2.2.1.map eObject))]:=by
 rw[F21]at h
 refine zc a21 (by kernel_rfl) rfl (ww ?_)
 obtain⟨t1,ht1,h⟩:=bi h
 refine cN [] (F45_ok ht1) trivial (ww ?_)
 refine condBh h (fun c2 h=>?_) (fun c2 h=>?_)
 ·refine ww ?_
  obtain⟨t3,ht3,h⟩:=bi h
  refine cN [] (F11_ok ht3) trivial (ww ?_)
  cases h
  exact eF [some 3,some 4]
 refine ww ?_
 obtain⟨t4,ht4,h⟩:=bi h
 refine cN [] (F46_ok ht4) trivial (ww ?_)
 obtain⟨o5,ho,h⟩:=bi h
 refine cutS (fun s=>s=⟨[(3,.one (.c (.pt 0 0))),(6,.one (.c (.pt 1 0))),(8,.one (.c (.pt 2 0)))],[some (.box [dI x0.Rev,dI x0.Floor,dI x0.NextUid,dM (x0.Base.map eObject),dM (x0.Objects.map eObject),dM (x0.History.map eChange)]),some (.box [dS ((⟨#[]⟩:ByteArray)),dS ((⟨#[]⟩:ByteArray)),dN,dI 0,dB false,dN]),some (.box [dS x1.Filter.Kind,dS x1.Filter.Namespace,.own 3 0 0 (o5.1.length) none,dI o5.2.1,dB o5.2.2.1,.own 4 0 0 (o5.2.2.2.length) none]),some (.arr 0 3 (o5.1.map eRequirement)),some (.arr 0 23 (o5.2.2.2.map eObject))]⟩) ?_ ?_
 ·have h:=ho
  clear ho
  refine ww ?_
  obtain⟨o6,ho,h⟩:=bi h
  refine cutS (fun s=>s=⟨[(3,.one (.c (.pt 0 0))),(4,.one (.c (.pt 1 0))),(6,.one (.c (.pt 2 0))),(8,.one (.c (.pt 3 0))),(10,.one (.c (.own 4 0 0 (t4.2.2.1.length) none))),(38,.one (.c (dB o6)))],[some (.box [dI x0.Rev,dI x0.Floor,dI x0.NextUid,dM (x0.Base.map eObject),dM (x0.Objects.map eObject),dM (x0.History.map eChange)]),some (.box [dS x1.Filter.Kind,dS x1.Filter.Namespace,dM (x1.Filter.Selector.map eRequirement),dI x1.Rev,dB x1.Synced,dM (x1.Objects.map eObject)]),some (.box [dS ((⟨#[]⟩:ByteArray)),dS ((⟨#[]⟩:ByteArray)),dN,dI 0,dB false,dN]),some (.box [dS x1.Filter.Kind,dS x1.Filter.Namespace,dM (x1.Filter.Selector.map eRequirement),dI x1.Rev,dB x1.Synced,dM (x1.Objects.map eObject)]),some (.arr 0 25 (t4.2.2.1.map eEvent))]⟩) ?_ ?_
  ·have h:=ho
   clear ho
   refine ww ?_
   refine guardSBh h (fun g7 h=>?_) (fun g7 h=>?_)
   ·refine ww ?_
    cases h
    exact eM [some 0,some 1,some 2,some 3,some 5] rfl
   refine ww ?_
   cases h
   exact eM [some 0,some 1,some 2,some 3,some 5] rfl
  rintro _ rfl
  clear ho
  refine ww ?_
  refine condBh h (fun c8 h=>?_) (fun c8 h=>?_)
  ·refine ww ?_
   obtain⟨t9,ht9,h⟩:=bi h
   refine cN [] (F47_ok ht9) trivial (ww ?_)
   cases h
   exact eM [some 0,some 2,some 3,some 5,some 6] rfl
  refine ww ?_
  obtain⟨t10,ht10,h⟩:=bi h
  refine callX_gen (as1:=[.agg [dS x1.Filter.Kind,dS x1.Filter.Namespace,dM (x1.Filter.Selector.map eRequirement),dI x1.Rev,dB x1.Synced,dM (x1.Objects.map eObject)],.c (dM (t4.2.2.1.map eEvent))]) [(4,.arr 1 25 [])] [some 0,some 1,some 2,some 3,none] [] (F11_ok ht10) ⟨?_,rfl,?_⟩ ?_ ?_ ?_ ?_ ?_ ?_ ?_ ?_
  ·simp only[ZZ.down,Nat.reduceEqDiff,reduceCtorEq,Nat.reduceAdd,Nat.reduceLeDiff,Nat.reduceLT,Nat.reduceBNe,EE.down]
  ·simp only[ZZ.down,Nat.reduceEqDiff,reduceCtorEq,Nat.reduceAdd,Nat.reduceLeDiff,Nat.reduceLT,Nat.reduceBNe,EE.down]
  ·simp only[ZZ.down,Nat.reduceEqDiff,reduceCtorEq,Nat.reduceAdd,Nat.reduceLeDiff,Nat.reduceLT,Nat.reduceBNe,EE.down]
  ·rfl
  ·rfl
  ·simp[liveAll,A1.live,C.live]
  ·rfl
  ·decide
  ·exact trivial
  refine ww ?_
  cases h
  exact eM [some 0,some 2,some 3,some 5,some 6] rfl
 rintro _ rfl
 clear ho
 refine ww ?_
 cases h
 exact eF [some 3,some 4]
def F10:Option (Bool):=(F31).bind fun t1=>(((F17 ((⟨(⟨#[80,111,100]⟩:ByteArray),(⟨#[]⟩:ByteArray),[]⟩:Filter))).bind fun t3=>(F21 ((⟨(t1).Rev,(t1).Floor,(t1).NextUid,(t1).Base,(t1).Objects,(t1).History⟩:TStore)) ((⟨(⟨((⟨#[80,111,100]⟩:ByteArray)),((⟨#[]⟩:ByteArray)),t3⟩:Filter),0,false,[]⟩:Cache)) 10).bind fun t4=>some ((t4.1,t4.2.1,t4.2.2.1,t4.2.2.2.1,t4.2.2.2.2))).bind fun o2=>(F13 ((⟨(⟨(((⟨#[80,111,100]⟩:ByteArray))),(((⟨#[]⟩:ByteArray))),o2.1⟩:Filter),o2.2.1,o2.2.2.1,o2.2.2.2.1⟩:Cache)) ((⟨#[80,111,100,47,110,47,97]⟩:ByteArray))).bind fun t5=>(F32 ((⟨(t1).Rev,(t1).Floor,(t1).NextUid,(t1).Base,(t1).Objects,(t1).History⟩:TStore)) ((⟨#[80,111,100,47,110,47,97]⟩:ByteArray)) 0).bind fun t6=>(F21 ((⟨(t6.1).Rev,(t6.1).Floor,(t6.1).NextUid,(t6.1).Base,(t6.1).Objects,(t6.1).History⟩:TStore)) ((⟨(⟨(((⟨#[80,111,100]⟩:ByteArray))),(((⟨#[]⟩:ByteArray))),o2.1⟩:Filter),o2.2.1,o2.2.2.1,o2.2.2.2.1⟩:Cache)) 10).bind fun t7=>(((if o2.2.2.2.2=true then(if t5.2.2.2.2.2.2.2.2.2.2.2.2.2.2.2.2.2.2.2.2.2.2.2=true then(if t5.2.2.1=(⟨#[97]⟩:ByteArray)then(if o2.2.1=2 then(if o2.2.2.1=true then(if(o2.2.2.2.1.length:Int)=1 then(if t7.2.2.2.2=true then(if t7.2.1=3 then some (decide ((t7.2.2.2.1.length:Int)=0))else some false)else some false)else some false)else some false)else some false)else some false)else some false)else some false)).bind fun o8=>some o8))
def a10:AFn:=⟨72,[(.tmp 0)],
 (.seq (.reg [sq 0 (.mv (kB false))])
 (.seq (.reg [sq 8 (.call 31 []),
sq 1 (.zbox [dI 0,dI 0,dI 0,dN,dN,dN]),
su (.store 6 (.t 1) (.t 8))])
 (.seq (.sem (.regd [sq 10 (.load (some 6) (.t 1)),
sq 11 (.build [dS ⟨#[]⟩,dS ⟨#[]⟩,dN] [(0,1,(kS ⟨#[80,111,100]⟩))]),
zn 12 (.call 17 [(.t 11)]) [1] [1],
zn 13 (.call 21 [(.t 10),(.t 12),(kI 10)]) [0,1,2] [0,1,2],
sd 9 (.mv (.t 13)) [0,1,2,3],
sd 14 (.ext (.t 9) 0) [0,1,2,3,4],
sd 15 (.ext (.t 9) 1) [0,1,2,3,4],
sq 2 (.zbox [dS ⟨#[]⟩,dS ⟨#[]⟩,dN,dI 0,dB false,dN]),
⟨none,none,.store 6 (.t 2) (.t 14),[0,1,2,3,4,5,7],(.lone [])⟩,
sd 3 (.mv (.t 15)) [0,1,2,3,4,5,6,7,8]]))
 (.seq (.reg [sq 17 (.load (some 6) (.t 2)),
sq 18 (.call 13 [(.t 17),(kS ⟨#[80,111,100,47,110,47,97]⟩)]),
sq 16 (.mv (.t 18)),
sq 19 (.ext (.t 16) 0),
sq 20 (.ext (.t 16) 1),
sq 4 (.zbox [dS ⟨#[]⟩,dS ⟨#[]⟩,dS ⟨#[]⟩,dI 0,dI 0,dI 0,dI 0,dB false,dI 0,dN,dN,dN,dN,dI 0,dI 0,dS ⟨#[]⟩,dN,dN,dI 0,dI 0,dS ⟨#[]⟩,dN,dN]),
su (.store 23 (.t 4) (.t 19)),
sq 5 (.mv (.t 20))])
 (.seq (.reg [sq 22 (.load (some 6) (.t 1)),
sq 23 (.call 32 [(.t 22),(kS ⟨#[80,111,100,47,110,47,97]⟩),(kI 0)]),
sq 21 (.mv (.t 23)),
sq 24 (.ext (.t 21) 0),
sq 25 (.ext (.t 21) 1),
sq 26 (.ext (.t 21) 2),
su (.store 6 (.t 1) (.t 24))])
 (.seq (.reg [sq 28 (.load (some 6) (.t 1)),
sq 29 (.load (some 6) (.t 2)),
sq 30 (.call 21 [(.t 28),(.t 29),(kI 10)]),
sq 27 (.mv (.t 30)),
sq 31 (.ext (.t 27) 0),
sq 32 (.ext (.t 27) 1),
sq 6 (.zbox [dS ⟨#[]⟩,dS ⟨#[]⟩,dN,dI 0,dB false,dN]),
su (.store 6 (.t 6) (.t 31)),
sq 7 (.mv (.t 32))])
 (.seq (.sem (.reg [sq 33 (.mv (.t 3)),
sq 34 (.mv (.t 33)),
zg 35 34 true (.mv (.t 5)),
sq 36 (.pick (.t 34) (.t 35) (kB false)),
sq 37 (.mv (.t 36)),
zg 38 37 true (.fieldA 0 (.t 4)),
zg 39 37 true (.fieldA 2 (.t 38)),
zg 40 37 true (.load none (.t 39)),
zg 41 37 true (.bin .eql (.t 40) (kS ⟨#[97]⟩)),
sq 42 (.pick (.t 37) (.t 41) (kB false)),
sq 43 (.mv (.t 42)),
zg 44 43 true (.fieldA 3 (.t 2)),
zg 45 43 true (.load none (.t 44)),
zg 46 43 true (.bin .eql (.t 45) (kI 2)),
sq 47 (.pick (.t 43) (.t 46) (kB false)),
sq 48 (.mv (.t 47)),
zg 49 48 true (.fieldA 4 (.t 2)),
zg 50 48 true (.load none (.t 49)),
sq 51 (.pick (.t 48) (.t 50) (kB false)),
sq 52 (.mv (.t 51)),
zg 53 52 true (.fieldA 5 (.t 2)),
zg 54 52 true (.load none (.t 53)),
zg 55 52 true (.len (.t 54)),
zg 56 52 true (.bin .eql (.t 55) (kI 1)),
sq 57 (.pick (.t 52) (.t 56) (kB false)),
sq 58 (.mv (.t 57)),
zg 59 58 true (.mv (.t 7)),
sq 60 (.pick (.t 58) (.t 59) (kB false)),
sq 61 (.mv (.t 60)),
zg 62 61 true (.fieldA 3 (.t 6)),
zg 63 61 true (.load none (.t 62)),
zg 64 61 true (.bin .eql (.t 63) (kI 3)),
sq 65 (.pick (.t 61) (.t 64) (kB false)),
sq 66 (.mv (.t 65)),
zg 67 66 true (.fieldA 5 (.t 6)),
zg 68 66 true (.load none (.t 67)),
zg 69 66 true (.len (.t 68)),
zg 70 66 true (.bin .eql (.t 69) (kI 0)),
sq 71 (.pick (.t 66) (.t 70) (kB false)),
sq 0 (.mv (.t 71))]))
 .ret)))))))⟩
theorem F10_ok{r}(h:F10=some r):CallD Tryz.prog 10 [] [] (tupV [.c (dB r)]) []:=by
 rw[F10]at h
 refine zc a10 (by kernel_rfl) rfl (ww ?_)
 obtain⟨t1,ht1,h⟩:=bi h
 refine cN [] (F31_ok ht1) trivial (ww ?_)
 obtain⟨o2,ho,h⟩:=bi h
 refine cutS (fun s=>s=⟨[(1,.one (.c (.pt 0 0))),(2,.one (.c (.pt 1 0))),(3,.one (.c (dB o2.2.2.2.2)))],[some (.box [dI ((t1).Rev),dI ((t1).Floor),dI ((t1).NextUid),dM (((t1).Base).map eObject),dM (((t1).Objects).map eObject),dM (((t1).History).map eChange)]),some (.box [dS ((((⟨#[80,111,100]⟩:ByteArray)))),dS ((((⟨#[]⟩:ByteArray)))),dM (o2.1.map eRequirement),dI o2.2.1,dB o2.2.2.1,dM (o2.2.2.2.1.map eObject)])]⟩) ?_ ?_
 ·have h:=ho
  clear ho
  refine ww ?_
  obtain⟨t3,ht3,h⟩:=bi h
  refine cN [] (F17_ok ht3) trivial (ww ?_)
  refine kD_new (by simp[wrs,allW,hset]) (ww ?_)
  obtain⟨t4,ht4,h⟩:=bi h
  refine callX_gen (as1:=[.agg [dI ((t1).Rev),dI ((t1).Floor),dI ((t1).NextUid),dM (((t1).Base).map eObject),dM (((t1).Objects).map eObject),dM (((t1).History).map eChange)],.agg [dS (((⟨#[80,111,100]⟩:ByteArray))),dS (((⟨#[]⟩:ByteArray))),dM (t3.map eRequirement),dI 0,dB false,dM (([]:List Object).map eObject)],.c (dI 10)]) [(1,.arr 1 3 [])] [some 0,none] [] (F21_ok ht4) ⟨?_,rfl,?_⟩ ?_ ?_ ?_ ?_ ?_ ?_ ?_ ?_
  ·simp only[ZZ.down,Nat.reduceEqDiff,reduceCtorEq,Nat.reduceAdd,Nat.reduceLeDiff,Nat.reduceLT,Nat.reduceBNe,EE.down]
  ·simp only[ZZ.down,Nat.reduceEqDiff,reduceCtorEq,Nat.reduceAdd,Nat.reduceLeDiff,Nat.reduceLT,Nat.reduceBNe,EE.down]
  ·simp only[ZZ.down,Nat.reduceEqDiff,reduceCtorEq,Nat.reduceAdd,Nat.reduceLeDiff,Nat.reduceLT,Nat.reduceBNe,EE.down]
  ·rfl
  ·rfl
  ·simp[liveAll,A1.live,C.live]
  ·rfl
  ·decide
  ·exact trivial
  refine ww ?_
  refine kD_own (by simp[wrs,allW,hset,ownW]) (ww ?_)
  refine kD_new (by simp[wrs,allW,hset]) (ww ?_)
  cases h
  exact eM [some 0,some 4] rfl
 rintro _ rfl
 clear ho
 refine ww ?_
 obtain⟨t5,ht5,h⟩:=bi h
 refine cN [] (F13_ok ht5) trivial (ww ?_)
 obtain⟨t6,ht6,h⟩:=bi h
 refine cN [] (F32_ok ht6) trivial (ww ?_)
 obtain⟨t7,ht7,h⟩:=bi h
 refine cN [] (F21_ok ht7) trivial (ww ?_)
 obtain⟨o8,ho,h⟩:=bi h
 refine cutS (fun s=>s=⟨[(0,.one (.c (dB o8)))],[]⟩) ?_ ?_
 ·have h:=ho
  clear ho
  refine ww ?_
  refine guardSBh h (fun g9 h=>?_) (fun g9 h=>?_)
  ·refine ww ?_
   refine guardSBh h (fun g10 h=>?_) (fun g10 h=>?_)
   ·refine ww ?_
    refine guardSh h (fun g11 h=>?_) (fun g11 h=>?_)
    ·refine ww ?_
     refine guardSh h (fun g12 h=>?_) (fun g12 h=>?_)
     ·refine ww ?_
      refine guardSBh h (fun g13 h=>?_) (fun g13 h=>?_)
      ·refine ww ?_
       refine guardSh h (fun g14 h=>?_) (fun g14 h=>?_)
       ·refine ww ?_
        refine guardSBh h (fun g15 h=>?_) (fun g15 h=>?_)
        ·refine ww ?_
         refine guardSh h (fun g16 h=>?_) (fun g16 h=>?_)
         ·refine ww ?_
          cases h
          exact eM [] rfl
         refine ww ?_
         cases h
         exact eM [] rfl
        refine ww ?_
        cases h
        exact eM [] rfl
       refine ww ?_
       cases h
       exact eM [] rfl
      refine ww ?_
      cases h
      exact eM [] rfl
     refine ww ?_
     cases h
     exact eM [] rfl
    refine ww ?_
    cases h
    exact eM [] rfl
   refine ww ?_
   cases h
   exact eM [] rfl
  refine ww ?_
  cases h
  exact eM [] rfl
 rintro _ rfl
 clear ho
 refine ww ?_
 cases h
 exact eF []
end Go.Proofs.YtdkmamiedcanfaaGreat
