/- Each Go function as a function over typed data, and its walk. -/
import Derived.Test.YtondgcmdhkhkkaaGreatW0
import Derived.Test.YtondgcmdhkhkkaaGreatW1
import Derived.Test.YtondgcmdhkhkkaaGreatW6
import Derived.Test.YtondgcmdhkhkkaaGreatW10
import Derived.Test.YtondgcmdhkhkkaaGreatW12
import Derived.Test.YtondgcmdhkhkkaaGreatW15
import Derived.Test.YtondgcmdhkhkkaaGreatW17
namespace Go.Proofs.YtondgcmdhkhkkaaGreat
open Go Go.Fw Go.Shelf
set_option maxRecDepth 100000
set_option maxHeartbeats 4000000
set_option linter.unusedSimpArgs false
set_option linter.unusedVariables false
def F6(x0:(List TOp))(x1:Filter)(x2:Int)(x3:Int):Option (Bool):=(((F8 x0).bind fun t2=>(if(nb t2)=true then some true else(F9 x1).bind fun t4=>(if(nb t4)=true then some true else(F27 x1.Selector).bind fun t6=>some (nb t6)))).bind fun o1=>(if o1=true then(F10).bind fun t8=>some t8 else(F11 x0).bind fun t9=>(F28 ((⟨(t9).Rev,(t9).Floor,(t9).NextUid,(t9).Base,(t9).Objects,(t9).History⟩:TStore)) x3).bind fun t10=>(((if¬(t10.2.2.2.2=0)then some true else(if x2<(t9).Floor then some true else some (decide ((t9).Rev<x2))))).bind fun o11=>(if o11=true then(F10).bind fun t15=>some t15 else(F14 ((⟨(t9).Rev,(t9).Floor,(t9).NextUid,(t9).Base,(t9).Objects,(t9).History⟩:TStore)) ((⟨x1,x2⟩:Watcher)) 100).bind fun t16=>(F14 ((⟨((t9).Rev),t10.1,((t9).NextUid),t10.2.1,t10.2.2.1,t10.2.2.2.1⟩:TStore)) ((⟨x1,x2⟩:Watcher)) 100).bind fun t17=>(if¬(t16.2.2.2=0)then some false else(if x2<x3 then(((F10).bind fun t21=>(if t21=true then(if t17.2.2.2=10 then(if(t17.2.2.1.length:Int)=0 then some (decide (t17.2.1=x2))else some false)else some false)else some false)).bind fun o20=>some o20)else(((F10).bind fun t26=>(if t26=true then(if t17.2.2.2=0 then(F19 t16.2.2.1 t17.2.2.1).bind fun t29=>(if t29=true then some (decide (t16.2.1=t17.2.1))else some false)else some false)else some false)).bind fun o25=>some o25)))))))
def a6:AFn:=⟨112,[(.tmp 8)],
 (.seq (.reg [sq 5 (.box (.t 1)),
sq 8 (.mv (kB false))])
 (.seq (.seq (.sem (.reg [sq 19 (.mv (.t 0)),
sq 20 (.call 8 [(.t 19)]),
sq 21 (.not (.t 20)),
sq 22 (.mv (.t 21)),
zg 23 22 false (.load (some 3) (.t 5)),
zg 24 22 false (.call 9 [(.t 23)]),
zg 25 22 false (.not (.t 24)),
sq 26 (.pick (.t 22) (kB true) (.t 25)),
sq 27 (.mv (.t 26)),
zg 28 27 false (.fieldA 2 (.t 5)),
zg 29 27 false (.load none (.t 28)),
zg 30 27 false (.call 27 [(.t 29)]),
zg 31 27 false (.not (.t 30)),
sq 32 (.pick (.t 27) (kB true) (.t 31))]))
 (.cond (.t 32)
 (.seq (.reg [sq 33 (.call 10 []),
sq 8 (.mv (.t 33))])
 .ret)
 .skip))
 (.seq (.reg [sq 34 (.mv (.t 0)),
sq 35 (.call 11 [(.t 34)]),
sq 9 (.zbox [dI 0,dI 0,dI 0,dN,dN,dN]),
su (.store 6 (.t 9) (.t 35))])
 (.seq (.reg [sq 37 (.load (some 6) (.t 9)),
sq 38 (.mv (.t 3)),
sq 39 (.call 28 [(.t 37),(.t 38)]),
sq 36 (.mv (.t 39)),
sq 40 (.ext (.t 36) 0),
sq 41 (.ext (.t 36) 1),
sq 10 (.zbox [dI 0,dI 0,dI 0,dN,dN,dN]),
su (.store 6 (.t 10) (.t 40)),
sq 11 (.mv (.t 41))])
 (.seq (.seq (.sem (.reg [sq 42 (.mv (.t 11)),
sq 43 (.bin .neq (.t 42) (kI 0)),
sq 44 (.mv (.t 43)),
zg 45 44 false (.mv (.t 2)),
zg 46 44 false (.fieldA 1 (.t 9)),
zg 47 44 false (.load none (.t 46)),
zg 48 44 false (.bin .lss (.t 45) (.t 47)),
sq 49 (.pick (.t 44) (kB true) (.t 48)),
sq 50 (.mv (.t 49)),
zg 51 50 false (.mv (.t 2)),
zg 52 50 false (.fieldA 0 (.t 9)),
zg 53 50 false (.load none (.t 52)),
zg 54 50 false (.bin .gtr (.t 51) (.t 53)),
sq 55 (.pick (.t 50) (kB true) (.t 54))]))
 (.cond (.t 55)
 (.seq (.reg [sq 56 (.call 10 []),
sq 8 (.mv (.t 56))])
 .ret)
 .skip))
 (.seq (.reg [sq 57 (.load (some 3) (.t 5)),
sq 58 (.mv (.t 2)),
sq 59 (.build [dS ⟨#[]⟩,dS ⟨#[]⟩,dN,dI 0] [(0,3,(.t 57)),(3,1,(.t 58))]),
sq 12 (.zbox [dS ⟨#[]⟩,dS ⟨#[]⟩,dN,dI 0]),
su (.store 4 (.t 12) (.t 59))])
 (.seq (.reg [sq 61 (.load (some 6) (.t 9)),
sq 62 (.load (some 4) (.t 12)),
sq 63 (.call 14 [(.t 61),(.t 62),(kI 100)]),
sq 60 (.mv (.t 63)),
sq 64 (.ext (.t 60) 0),
sq 65 (.ext (.t 60) 1),
sq 66 (.ext (.t 60) 2),
sq 13 (.zbox [dS ⟨#[]⟩,dS ⟨#[]⟩,dN,dI 0]),
su (.store 4 (.t 13) (.t 64)),
sq 14 (.mv (.t 65)),
sq 15 (.mv (.t 66))])
 (.seq (.reg [sq 68 (.load (some 6) (.t 10)),
sq 69 (.load (some 4) (.t 12)),
sq 70 (.call 14 [(.t 68),(.t 69),(kI 100)]),
sq 67 (.mv (.t 70)),
sq 71 (.ext (.t 67) 0),
sq 72 (.ext (.t 67) 1),
sq 73 (.ext (.t 67) 2),
sq 16 (.zbox [dS ⟨#[]⟩,dS ⟨#[]⟩,dN,dI 0]),
su (.store 4 (.t 16) (.t 71)),
sq 17 (.mv (.t 72)),
sq 18 (.mv (.t 73))])
 (.seq (.seq (.reg [sq 74 (.mv (.t 15)),
sq 75 (.bin .neq (.t 74) (kI 0))])
 (.cond (.t 75)
 (.seq (.reg [sq 8 (.mv (kB false))])
 .ret)
 .skip))
 (.seq (.seq (.reg [sq 76 (.mv (.t 2)),
sq 77 (.mv (.t 3)),
sq 78 (.bin .lss (.t 76) (.t 77))])
 (.cond (.t 78)
 (.seq (.sem (.reg [sq 79 (.call 10 []),
sq 80 (.mv (.t 79)),
zg 81 80 true (.mv (.t 18)),
zg 82 80 true (.bin .eql (.t 81) (kI 10)),
sq 83 (.pick (.t 80) (.t 82) (kB false)),
sq 84 (.mv (.t 83)),
zg 85 84 true (.mv (.t 17)),
zg 86 84 true (.len (.t 85)),
zg 87 84 true (.bin .eql (.t 86) (kI 0)),
sq 88 (.pick (.t 84) (.t 87) (kB false)),
sq 89 (.mv (.t 88)),
zg 90 89 true (.fieldA 3 (.t 16)),
zg 91 89 true (.load none (.t 90)),
zg 92 89 true (.mv (.t 2)),
zg 93 89 true (.bin .eql (.t 91) (.t 92)),
sq 94 (.pick (.t 89) (.t 93) (kB false)),
sq 8 (.mv (.t 94))]))
 .ret)
 .skip))
 (.seq (.sem (.reg [sq 95 (.call 10 []),
sq 96 (.mv (.t 95)),
zg 97 96 true (.mv (.t 18)),
zg 98 96 true (.bin .eql (.t 97) (kI 0)),
sq 99 (.pick (.t 96) (.t 98) (kB false)),
sq 100 (.mv (.t 99)),
zg 101 100 true (.mv (.t 14)),
zg 102 100 true (.mv (.t 17)),
zg 103 100 true (.call 19 [(.t 101),(.t 102)]),
sq 104 (.pick (.t 100) (.t 103) (kB false)),
sq 105 (.mv (.t 104)),
zg 106 105 true (.fieldA 3 (.t 13)),
zg 107 105 true (.load none (.t 106)),
zg 108 105 true (.fieldA 3 (.t 16)),
zg 109 105 true (.load none (.t 108)),
zg 110 105 true (.bin .eql (.t 107) (.t 109)),
sq 111 (.pick (.t 105) (.t 110) (kB false)),
sq 8 (.mv (.t 111))]))
 .ret)))))))))))⟩
theorem a6_ok:afn Tryz.prog 6=some a6.er:=by kernel_rfl
theorem F6_ok{x0 x1 x2 x3 r}(h:F6 x0 x1 x2 x3=some r):CallD Tryz.prog 6 [.c (dM (x0.map eTOp)),.agg [dS x1.Kind,dS x1.Namespace,dM (x1.Selector.map eRequirement)],.c (dI x2),.c (dI x3)] [] (tupV [.c (dB r)]) []:=by
 refine callS a6_ok (by simp[a6]) ?_
 rw[F6]at h
 simp only[a6,VW.down,Nat.reduceEqDiff,reduceCtorEq,Nat.reduceAdd,Nat.reduceLeDiff,Nat.reduceLT,Nat.reduceBEq,Nat.reduceSub,EE.down]
 obtain⟨o1,ho,h⟩:=bi h
 refine cutS (fun s=>s=⟨[(0,.one (.c (dM (x0.map eTOp)))),(2,.one (.c (dI x2))),(3,.one (.c (dI x3))),(5,.one (.c (.pt 0 0))),(32,.one (.c (dB o1)))],[some (.box [dS x1.Kind,dS x1.Namespace,dM (x1.Selector.map eRequirement)])]⟩) ?_ ?_
 ·have h:=ho
  clear ho
  refine ww ?_
  obtain⟨t2,ht2,h⟩:=bi h
  refine cN [] (F8_ok ht2) trivial (ww ?_)
  refine guardSBh h (fun g3 h=>?_) (fun g3 h=>?_)
  ·refine ww ?_
   cases h
   exact eM [some 0] rfl
  refine ww ?_
  obtain⟨t4,ht4,h⟩:=bi h
  refine cN [] (F9_ok ht4) trivial (ww ?_)
  refine guardSBh h (fun g5 h=>?_) (fun g5 h=>?_)
  ·refine ww ?_
   cases h
   exact eM [some 0] rfl
  refine ww ?_
  obtain⟨t6,ht6,h⟩:=bi h
  refine cN [] (F27_ok ht6) trivial (ww ?_)
  cases h
  exact eM [some 0] rfl
 rintro _ rfl
 clear ho
 refine ww ?_
 refine condBh h (fun c7 h=>?_) (fun c7 h=>?_)
 ·refine ww ?_
  obtain⟨t8,ht8,h⟩:=bi h
  refine cN [] (F10_ok ht8) trivial (ww ?_)
  cases h
  exact eF []
 refine ww ?_
 obtain⟨t9,ht9,h⟩:=bi h
 refine cN [] (F11_ok ht9) trivial (ww ?_)
 obtain⟨t10,ht10,h⟩:=bi h
 refine cN [] (F28_ok ht10) trivial (ww ?_)
 obtain⟨o11,ho,h⟩:=bi h
 refine cutS (fun s=>s=⟨[(2,.one (.c (dI x2))),(3,.one (.c (dI x3))),(5,.one (.c (.pt 0 0))),(9,.one (.c (.pt 1 0))),(10,.one (.c (.pt 2 0))),(55,.one (.c (dB o11)))],[some (.box [dS x1.Kind,dS x1.Namespace,dM (x1.Selector.map eRequirement)]),some (.box [dI ((t9).Rev),dI ((t9).Floor),dI ((t9).NextUid),dM (((t9).Base).map eObject),dM (((t9).Objects).map eObject),dM (((t9).History).map eChange)]),some (.box [dI (((t9).Rev)),dI t10.1,dI (((t9).NextUid)),.own 3 0 0 (t10.2.1.length) none,.own 4 0 0 (t10.2.2.1.length) none,.own 5 0 0 (t10.2.2.2.1.length) none]),some (.arr 0 23 (t10.2.1.map eObject)),some (.arr 0 23 (t10.2.2.1.map eObject)),some (.arr 0 25 (t10.2.2.2.1.map eChange))]⟩) ?_ ?_
 ·have h:=ho
  clear ho
  refine ww ?_
  refine guardSh h (fun g12 h=>?_) (fun g12 h=>?_)
  ·refine ww ?_
   cases h
   exact eM [some 0,some 1,some 5,some 2,some 3,some 4] rfl
  refine ww ?_
  refine guardSh h (fun g13 h=>?_) (fun g13 h=>?_)
  ·refine ww ?_
   cases h
   exact eM [some 0,some 1,some 5,some 2,some 3,some 4] rfl
  refine ww ?_
  cases h
  exact eM [some 0,some 1,some 5,some 2,some 3,some 4] rfl
 rintro _ rfl
 clear ho
 refine ww ?_
 refine condBh h (fun c14 h=>?_) (fun c14 h=>?_)
 ·refine ww ?_
  obtain⟨t15,ht15,h⟩:=bi h
  refine cN [] (F10_ok ht15) trivial (ww ?_)
  cases h
  exact eF []
 refine ww ?_
 obtain⟨t16,ht16,h⟩:=bi h
 refine cN [] (F14_ok ht16) trivial (ww ?_)
 obtain⟨t17,ht17,h⟩:=bi h
 refine callX_gen (as1:=[.agg [dI (((t9).Rev)),dI t10.1,dI (((t9).NextUid)),dM (t10.2.1.map eObject),dM (t10.2.2.1.map eObject),dM (t10.2.2.2.1.map eChange)],.agg [dS x1.Kind,dS x1.Namespace,dM (x1.Selector.map eRequirement),dI x2],.c (dI 100)]) [(3,.arr 1 23 []),(4,.arr 1 23 []),(5,.arr 1 25 []),(2,.box [dI (((t9).Rev)),dI t10.1,dI (((t9).NextUid)),.own 3 0 0 0 (some 0),.own 4 0 0 0 (some 0),.own 5 0 0 0 (some 0)])] [some 0,some 1,some 2,none,none,none,some 6,some 7,some 8,some 9] [] (F14_ok ht17) ⟨?_,rfl,?_⟩ ?_ ?_ ?_ ?_ ?_ ?_ ?_ ?_
 ·simp only[ZZ.down,Nat.reduceEqDiff,reduceCtorEq,Nat.reduceAdd,Nat.reduceLeDiff,Nat.reduceLT,Nat.reduceBNe,EE.down]
 ·simp only[ZZ.down,Nat.reduceEqDiff,reduceCtorEq,Nat.reduceAdd,Nat.reduceLeDiff,Nat.reduceLT,Nat.reduceBNe,EE.down]
 ·simp only[ZZ.down,Nat.reduceEqDiff,reduceCtorEq,Nat.reduceAdd,Nat.reduceLeDiff,Nat.reduceLT,Nat.reduceBNe,EE.down]
 ·rfl
 ·rfl
 ·simp[liveAll,A1.live,C.live]
 ·rfl
 ·decide
 ·exact trivial
 refine ww ?_
 refine condSh h (fun c18 h=>?_) (fun c18 h=>?_)
 ·refine ww ?_
  cases h
  exact eF []
 refine ww ?_
 refine condSh h (fun c19 h=>?_) (fun c19 h=>?_)
 ·refine ww ?_
  obtain⟨o20,ho,h⟩:=bi h
  refine cutS (fun s=>s=⟨[(8,.one (.c (dB o20)))],[]⟩) ?_ ?_
  ·have h:=ho
   clear ho
   refine ww ?_
   obtain⟨t21,ht21,h⟩:=bi h
   refine cN [] (F10_ok ht21) trivial (ww ?_)
   refine guardSBh h (fun g22 h=>?_) (fun g22 h=>?_)
   ·refine ww ?_
    refine guardSh h (fun g23 h=>?_) (fun g23 h=>?_)
    ·refine ww ?_
     refine guardSh h (fun g24 h=>?_) (fun g24 h=>?_)
     ·refine ww ?_
      cases h
      exact eM [] rfl
     refine ww ?_
     cases h
     exact eM [] rfl
    refine ww ?_
    cases h
    exact eM [] rfl
   refine ww ?_
   cases h
   exact eM [] rfl
  rintro _ rfl
  clear ho
  refine ww ?_
  cases h
  exact eF []
 refine ww ?_
 obtain⟨o25,ho,h⟩:=bi h
 refine cutS (fun s=>s=⟨[(8,.one (.c (dB o25)))],[]⟩) ?_ ?_
 ·have h:=ho
  clear ho
  refine ww ?_
  obtain⟨t26,ht26,h⟩:=bi h
  refine cN [] (F10_ok ht26) trivial (ww ?_)
  refine guardSBh h (fun g27 h=>?_) (fun g27 h=>?_)
  ·refine ww ?_
   refine guardSh h (fun g28 h=>?_) (fun g28 h=>?_)
   ·refine ww ?_
    obtain⟨t29,ht29,h⟩:=bi h
    refine callX_bor (F19_ok ht29) (by simp only[borAs,bors,hp,List.getElem?_cons_zero,List.getElem?_cons_succ,Option.join_some,List.drop_zero,bor_full',true_and,Nat.zero_add,List.length_map,Nat.le_refl,nrm,List.length_cons,List.length_nil,Nat.reduceAdd,Nat.reduceLeDiff,List.take_succ_cons,List.take_zero,List.take_nil,List.map_cons,List.map_nil,List.length_set,EE.down]) rfl ?_
    refine ww ?_
    refine guardSBh h (fun g30 h=>?_) (fun g30 h=>?_)
    ·refine ww ?_
     cases h
     exact eM [] rfl
    refine ww ?_
    cases h
    exact eM [] rfl
   refine ww ?_
   cases h
   exact eM [] rfl
  refine ww ?_
  cases h
  exact eM [] rfl
 rintro _ rfl
 clear ho
 refine ww ?_
 cases h
 exact eF []
end Go.Proofs.YtondgcmdhkhkkaaGreat
