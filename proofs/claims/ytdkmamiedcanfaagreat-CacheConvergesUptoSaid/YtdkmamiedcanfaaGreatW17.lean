/- Each Go function as a function over typed data, and its walk. -/
import Derived.Test.YtdkmamiedcanfaaGreatW0
import Derived.Test.YtdkmamiedcanfaaGreatW2
import Derived.Test.YtdkmamiedcanfaaGreatW6
import Derived.Test.YtdkmamiedcanfaaGreatW12
import Derived.Test.YtdkmamiedcanfaaGreatW13
import Derived.Test.YtdkmamiedcanfaaGreatW15
namespace Go.Proofs.YtdkmamiedcanfaaGreat
open Go Go.Fw Go.Shelf
set_option maxRecDepth 100000
set_option maxHeartbeats 4000000
set_option linter.unusedSimpArgs false
set_option linter.unusedVariables false
def F24(x0:Ag)(x1:Filter)(x2:Int):Option (Ck×Int):=(F50 x0 x1 x2).bind fun t1=>(if¬(t1=0)then some (((⟨(⟨(⟨#[]⟩:ByteArray),(⟨#[]⟩:ByteArray),[]⟩:Filter),0⟩:Ck),t1))else some (((⟨x1,x2⟩:Ck),0)))
def a24:AFn:=⟨20,[(.cell 6 (some 4)),(.tmp 7)],
 (.seq (.reg [Qg 3 0,
Qg 4 1,
sq 6 (.zbox [dS ⟨#[]⟩,dS ⟨#[]⟩,dN,dI 0]),
Qe 7 0])
 (.seq (.reg [Qc 9 6 3,
Qc 10 3 4,
Qa 11 2,
sq 12 (.call 50 [(.t 9),(.t 10),(.t 11)]),
Qa 8 12])
 (.seq (.seq (.reg [Qa 13 8,
sq 14 (.bin .neq (.t 13) (kI 0))])
 (.cond (.t 14)
 (.seq (.reg [sq 15 (.build [dS ⟨#[]⟩,dS ⟨#[]⟩,dN,dI 0] []),
Qa 16 8,
su (.store 4 (.t 6) (.t 15)),
Qa 7 16])
 .ret)
 .skip))
 (.seq (.reg [Qc 17 3 4,
Qa 18 2,
sq 19 (.build [dS ⟨#[]⟩,dS ⟨#[]⟩,dN,dI 0] [(0,3,(.t 17)),(3,1,(.t 18))]),
su (.store 4 (.t 6) (.t 19)),
Qe 7 0])
 .ret))))⟩
theorem F24_ok{x0 x1 x2 r}(h:F24 x0 x1 x2=some r):An Tryz.prog 24 [.agg (AO x0),.agg (Bj x1),.c (dI x2)] [] (AL [.agg (DE (r.1)),.c (dI r.2)]) []:=by
 rw[F24]at h
 refine zc a24 (by kernel_rfl) rfl (ww ?_)
 obtain⟨t1,ht1,h⟩:=bi h
 refine cN [] (F50_ok ht1) trivial (ww ?_)
 refine AH h (fun c2 h=>ww ?_) (fun c2 h=>ww ?_)
 ·cases h
  exact eF []
 cases h
 exact eF []
def F6_l18(t9:Ag)(x1:Filter)(x3:Int):Nat→(List Ah)→Int→Bool→(List Object)→Bool→Int→Option ((Bool) ⊕ ((List Ah)×Int×Bool×(List Object)×Bool))
 |0,_,_,_,_,_,_=>none
 |k+1,o18_0,o18_1,o18_2,o18_3,o18_4,o18_5=>(((if o18_5≤(((t9).Ac).length:Int)then some (nb o18_4)else some false)).bind fun o19=>(if o19=true then(F21 ((⟨(t9).Rev,(t9).As,(t9).Am,(t9).Bt,(t9).Aa,(t9).Ac⟩:Ag)) ((⟨(⟨x1.Kind,x1.Namespace,o18_0⟩:Filter),o18_1,o18_2,o18_3⟩:Cache)) x3).bind fun t22=>(if(((t22.2.2.2.2==(decide (t22.2.1=(t9).Rev)))!=true))=true then(some false).map Sum.inl else F6_l18 t9 x1 x3 k t22.1 t22.2.1 t22.2.2.1 t22.2.2.2.1 t22.2.2.2.2 ((IntKind.i64.wrap (o18_5+1))))else some (Sum.inr ((o18_0,o18_1,o18_2,o18_3,o18_4)))))
def F6(x0:(List TOp))(x1:Filter)(x2:Int)(x3:Int):Option (Bool):=(((F19 x0).bind fun t2=>(if(nb t2)=true then some true else(F23 x1).bind fun t4=>some (nb t4))).bind fun o1=>(if o1=true then(F10).bind fun t6=>some t6 else(slI x0 0 ((if(x0.length:Int)<(IntKind.i64.wrap x2)then(x0.length:Int)else(IntKind.i64.wrap x2)))).bind fun s7=>(F20 s7).bind fun t8=>(F20 x0).bind fun t9=>(F17 x1).bind fun t10=>(F21 ((⟨(t8).Rev,(t8).As,(t8).Am,(t8).Bt,(t8).Aa,(t8).Ac⟩:Ag)) ((⟨(⟨x1.Kind,x1.Namespace,t10⟩:Filter),0,false,[]⟩:Cache)) x3).bind fun t11=>(F24 ((⟨(t9).Rev,(t9).As,(t9).Am,(t9).Bt,(t9).Aa,(t9).Ac⟩:Ag)) x1 ((t9).Rev)).bind fun t12=>(if¬(t12.2=0)then(((if(nb t11.2.2.2.2)=true then(if(t11.2.2.2.1.length:Int)=0 then(F10).bind fun t17=>some t17 else some false)else some false)).bind fun o14=>some o14)else((F6_l18 t9 x1 x3 1099511627776 t11.1 t11.2.1 t11.2.2.1 t11.2.2.2.1 false 0:Option ((Bool) ⊕ ((List Ah)×Int×Bool×(List Object)×Bool))).bind fun o18=>match o18 with|Sum.inl f=>some f|Sum.inr po18=>(((if po18.2.2.2.2=true then(if po18.2.2.1=true then(F26 ((⟨(t9).Rev,(t9).As,(t9).Am,(t9).Bt,(t9).Aa,(t9).Ac⟩:Ag)) x1).bind fun t27=>(F25 po18.2.2.2.1 t27).bind fun t28=>(if t28=true then(F10).bind fun t30=>some t30 else some false)else some false)else some false)).bind fun o24=>some o24)))))
def a6:AFn:=⟨105,[(.tmp 8)],
 (.seq (.reg [Qg 5 1,
Qf 8 false])
 (.seq (.seq (.sem (.reg [Qa 16 0,
Qk 17 19 16,
Qq 18 17,
Qa 19 18,
Qu 20 19 false 3 5,
zg 21 19 false (.call 23 [(.t 20)]),
zg 22 19 false (.not (.t 21)),
Qj 23 19 22]))
 (.cond (.t 23)
 (.seq (.reg [sq 24 (.call 10 []),
Qa 8 24])
 .ret)
 .skip))
 (.seq (.reg [Qa 25 0,
Qa 26 2,
sq 27 (.conv .i64 (.t 26)),
Qa 28 0,
Qh 29 28,
sq 30 (.min (.t 27) (.t 29)),
sq 31 (.slice 28 (.t 25) none (some (.t 30)) none),
Qk 32 20 31,
Qa 33 0,
Qk 34 20 33,
sq 9 (.zbox [dI 0,dI 0,dI 0,dN,dN,dN]),
sq 10 (.zbox [dI 0,dI 0,dI 0,dN,dN,dN]),
su (.store 6 (.t 9) (.t 32)),
su (.store 6 (.t 10) (.t 34))])
 (.seq (.regd [Qc 36 6 9,
Qc 37 3 5,
zn 38 (.call 17 [(.t 37)]) [1] [1],
Qa 39 3,
zn 40 (.call 21 [(.t 36),(.t 38),(.t 39)]) [0,1,2,3] [0,1,2,3],
sd 35 (.mv (.t 40)) [0,1,2,3,4],
sd 41 (.ext (.t 35) 0) [0,1,2,3,4,5],
sd 42 (.ext (.t 35) 1) [0,1,2,3,4,5],
sq 11 (.zbox [dS ⟨#[]⟩,dS ⟨#[]⟩,dN,dI 0,dB false,dN]),
⟨none,none,.store 6 (.t 11) (.t 41),[0,1,2,3,4,5,6,8],(.lone [])⟩,
sd 12 (.mv (.t 42)) [0,1,2,3,4,5,6,7,8,9]])
 (.seq (.reg [Qc 44 6 10,
Qc 45 3 5,
Qb 46 0 10,
Qd 47 46,
sq 48 (.call 24 [(.t 44),(.t 45),(.t 47)]),
Qa 43 48,
Qo 49 43 0,
Qo 50 43 1,
sq 13 (.zbox [dS ⟨#[]⟩,dS ⟨#[]⟩,dN,dI 0]),
su (.store 4 (.t 13) (.t 49)),
Qa 14 50])
 (.seq (.seq (.reg [Qa 51 14,
sq 52 (.bin .neq (.t 51) (kI 0))])
 (.cond (.t 52)
 (.seq (.sem (.reg [Qa 53 12,
Qq 54 53,
Qa 55 54,
Qs 56 55 true 5 11,
Qt 57 55 true 56,
zg 58 55 true (.len (.t 57)),
zg 59 55 true (.bin .eql (.t 58) (kI 0)),
Qi 60 55 59,
Qa 61 60,
zg 62 61 true (.call 10 []),
Qi 63 61 62,
Qa 8 63]))
 .ret)
 .skip))
 (.seq (.reg [Qf 12 false])
 (.seq (.seq (.reg [Qe 15 0])
 (.sem (.block 0 (.loop (.seq (.seq (.sem (.reg [Qa 64 15,
Qb 65 5 10,
Qd 66 65,
Qh 67 66,
sq 68 (.bin .leq (.t 64) (.t 67)),
Qa 69 68,
Qv 70 69 true 12,
zg 71 69 true (.not (.t 70)),
zl 72 (.pick (.t 69) (.t 71) (kB false)) [] [10,65,66]]))
 (.cond (.t 72)
 .skip
 (.exit 0)))
 (.seq (.block 1 (.seq (.reg [Qc 76 6 10,
Qc 77 6 11,
Qa 78 3,
sq 79 (.call 21 [(.t 76),(.t 77),(.t 78)]),
Qa 75 79,
Qo 80 75 0,
Qo 81 75 1,
su (.store 6 (.t 11) (.t 80)),
Qa 12 81])
 (.seq (.reg [Qa 82 12,
Qb 83 3 11,
Qd 84 83,
Qb 85 0 10,
Qd 86 85,
sq 87 (.bin .eql (.t 84) (.t 86)),
sq 88 (.beq true (.t 82) (.t 87))])
 (.cond (.t 88)
 (.seq (.reg [Qf 8 false])
 .ret)
 .skip))))
 (.reg [Qa 73 15,
Qm 74 73 1,
Qa 15 74])))))))
 (.seq (.sem (.regd [Qa 89 12,
sd 90 (.mv (.t 89)) [0],
⟨(some 91),(some (90,true)),.fieldA 4 (.t 11),[0,1],(.new [])⟩,
⟨(some 92),(some (90,true)),.load none (.t 91),[0,1,2],(.new [])⟩,
zl 93 (.pick (.t 90) (.t 92) (kB false)) [0,1,2,3] [],
sd 94 (.mv (.t 93)) [0,1,2,3,4],
⟨(some 95),(some (94,true)),.fieldA 5 (.t 11),[0,1,2,3,4,5],(.new [])⟩,
⟨(some 96),(some (94,true)),.load none (.t 95),[0,1,2,3,4,5,6],(.new [])⟩,
⟨(some 97),(some (94,true)),.load (some 6) (.t 10),[0,1,2,3,4,5],(.new [])⟩,
⟨(some 98),(some (94,true)),.load (some 3) (.t 5),[0,1,2,3,4,5],(.new [])⟩,
⟨(some 99),(some (94,true)),.call 26 [(.t 97),(.t 98)],[0,1,2,3,4,5,8,9],(.lone [11,95])⟩,
⟨(some 100),(some (94,true)),.call 25 [(.t 96),(.t 99)],[0,1,2,3,4,5,6,7,8,9,10],(.lone [])⟩,
zl 101 (.pick (.t 94) (.t 100) (kB false)) [0,1,2,3,4,5,6,7,8,9,10,11] [],
sd 102 (.mv (.t 101)) [0,1,2,3,4,5,6,7,8,9,10,11,12],
⟨(some 103),(some (102,true)),.call 10 [],[0,1,2,3,4,5,6,7,8,9,10,11,12,13],(.lone [])⟩,
zl 104 (.pick (.t 102) (.t 103) (kB false)) [0,1,2,3,4,5,6,7,8,9,10,11,12,13,14] [],
sd 8 (.mv (.t 104)) [0,1,2,3,4,5,6,7,8,9,10,11,12,13,14,15]]))
 .ret)))))))))⟩
theorem F6_ok{x0 x1 x2 x3 r}(h:F6 x0 x1 x2 x3=some r):An Tryz.prog 6 [.c (dM (x0.map EX)),.agg (Bj x1),.c (.d (.v (.int .u8 x2))),.c (dI x3)] [] (AL [.c (dB r)]) []:=by
 rw[F6]at h
 refine zc a6 (by kernel_rfl) rfl (ww ?_)
 obtain⟨o1,ho,h⟩:=bi h
 refine AB (fun s=>s=⟨[(0,oc (dM (x0.map EX))),(2,oc (.d (.v (.int .u8 x2)))),(3,oc (dI x3)),(5,Pz 0),(23,oc (dB o1))],[xb (Bj x1)]⟩) ?_ ?_
 ·have h:=ho
  clear ho
  refine ww ?_
  obtain⟨t2,ht2,h⟩:=bi h
  refine cN [] (F19_ok ht2) trivial (ww ?_)
  refine AM h (fun g3 h=>ww ?_) (fun g3 h=>ww ?_)
  ·cases h
   exact eM [some 0] rfl
  obtain⟨t4,ht4,h⟩:=bi h
  refine cN [] (F23_ok ht4) trivial (ww ?_)
  cases h
  exact eM [some 0] rfl
 rintro _ rfl
 clear ho
 refine ww ?_
 refine AE h (fun c5 h=>ww ?_) (fun c5 h=>ww ?_)
 ·obtain⟨t6,ht6,h⟩:=bi h
  refine cN [] (F10_ok ht6) trivial (ww ?_)
  cases h
  exact eF []
 obtain⟨s7,hs7,h⟩:=bi h
 refine H8 (enc:=EX) (xs:=x0) rfl rfl rfl (fun _=>rfl) hs7 (ww ?_)
 obtain⟨t8,ht8,h⟩:=bi h
 refine cN [] (F20_ok ht8) trivial (ww ?_)
 obtain⟨t9,ht9,h⟩:=bi h
 refine cN [] (F20_ok ht9) trivial (ww ?_)
 obtain⟨t10,ht10,h⟩:=bi h
 refine cN [] (F17_ok ht10) trivial (ww ?_)
 refine B3 (by simp[wrs,B8,BV]) (ww ?_)
 obtain⟨t11,ht11,h⟩:=bi h
 refine Ce (as1:=[.agg (AO (t8)),.agg [dS x1.Kind,dS x1.Namespace,dM (t10.map Al),dI 0,dB false,dM (([]:List Object).map Ad)],.c (dI x3)]) [(3,.arr 1 3 [])] [some 0,some 1,some 2,none] [] (F21_ok ht11) ⟨?_,rfl,?_⟩ ?_ ?_ ?_ ?_ ?_ ?_ ?_ ?_
 ·simp only[ZZ.down,Nat.reduceEqDiff,reduceCtorEq,Nat.reduceAdd,Nat.reduceLeDiff,Nat.reduceLT,Nat.reduceBNe,EE.down]
 ·simp only[ZZ.down,Nat.reduceEqDiff,reduceCtorEq,Nat.reduceAdd,Nat.reduceLeDiff,Nat.reduceLT,Nat.reduceBNe,EE.down]
 ·simp only[ZZ.down,Nat.reduceEqDiff,reduceCtorEq,Nat.reduceAdd,Nat.reduceLeDiff,Nat.reduceLT,Nat.reduceBNe,EE.down]
 ·rfl
 ·rfl
 ·simp[Cj,A1.live,C.live]
 ·rfl
 ·decide
 ·exact trivial
 refine ww ?_
 refine Rh (by simp[wrs,B8,BV,Td]) (ww ?_)
 refine B3 (by simp[wrs,B8,BV]) (ww ?_)
 obtain⟨t12,ht12,h⟩:=bi h
 refine cN [] (F24_ok ht12) trivial (ww ?_)
 refine AH h (fun c13 h=>ww ?_) (fun c13 h=>ww ?_)
 ·obtain⟨o14,ho,h⟩:=bi h
  refine AB (fun s=>s=⟨[(8,oc (dB o14))],[]⟩) ?_ ?_
  ·have h:=ho
   clear ho
   refine ww ?_
   refine AM h (fun g15 h=>ww ?_) (fun g15 h=>ww ?_)
   ·refine Af h (fun g16 h=>ww ?_) (fun g16 h=>ww ?_)
    ·obtain⟨t17,ht17,h⟩:=bi h
     refine cN [] (F10_ok ht17) trivial (ww ?_)
     cases h
     exact eM [] rfl
    cases h
    exact eM [] rfl
   cases h
   exact eM [] rfl
  rintro _ rfl
  clear ho
  refine ww ?_
  cases h
  exact eF []
 obtain⟨o18,ho,h⟩:=bi h
 refine AB (fun s=>∃po18,o18=Sum.inr po18∧s=⟨[(5,Pz 0),(10,Pz 1),(11,Pz 2),(12,oc (dB po18.2.2.2.2))],[xb (Bj x1),xb (AO (t9)),xb [dS x1.Kind,dS x1.Namespace,.own 3 0 0 (po18.1.length) none,dI po18.2.1,dB po18.2.2.1,.own 4 0 0 (po18.2.2.2.1.length) none],some (.arr 0 3 (po18.1.map Al)),some (.arr 0 23 (po18.2.2.2.1.map Ad))]⟩) ?_ ?_
 ·have h0o18:=h
  have h:=ho
  clear ho
  refine ww ?_
  refine bL (fun j s=>∃(o18_0:List Ah) (o18_1:Int) (o18_2:Bool) (o18_3:List Object) (o18_4:Bool) (o18_5:Int),s=⟨[(3,oc (dI x3)),(5,Pz 0),(10,Pz 1),(11,Pz 2),(12,oc (dB o18_4)),(15,oc (dI o18_5))],[xb (Bj x1),xb (AO (t9)),xb [dS x1.Kind,dS x1.Namespace,.own 3 0 0 (o18_0.length) none,dI o18_1,dB o18_2,.own 4 0 0 (o18_3.length) none],some (.arr 0 3 (o18_0.map Al)),some (.arr 0 23 (o18_3.map Ad))]⟩∧F6_l18 t9 x1 x3 j o18_0 o18_1 o18_2 o18_3 o18_4 o18_5=some o18) 1099511627776 [some 0,some 2,some 6,some 4,some 5] ⟨t11.1,t11.2.1,t11.2.2.1,t11.2.2.2.1,false,0,rfl,h⟩ ?_
  rintro j _ ⟨o18_0,o18_1,o18_2,o18_3,o18_4,o18_5,rfl,h⟩
  cases j with
  |zero=>cases(show(none:Option _)=some _ from h)
  |succ j=>
   rw[F6_l18]at h
   refine ww ?_
   obtain⟨o19,ho,h⟩:=bi h
   refine AB (fun s=>s=⟨[(3,oc (dI x3)),(5,Pz 0),(10,Pz 1),(11,Pz 2),(12,oc (dB o18_4)),(15,oc (dI o18_5)),(72,oc (dB o19))],[xb (Bj x1),xb (AO (t9)),xb [dS x1.Kind,dS x1.Namespace,.own 3 0 0 (o18_0.length) none,dI o18_1,dB o18_2,.own 4 0 0 (o18_3.length) none],some (.arr 0 3 (o18_0.map Al)),some (.arr 0 23 (o18_3.map Ad))]⟩) ?_ ?_
   ·have h:=ho
    clear ho
    refine ww ?_
    refine Af h (fun g20 h=>ww ?_) (fun g20 h=>?_)
    ·cases h
     exact eM [some 0,some 1,some 2,some 3,some 4] rfl
    ·refine ww ?_
     cases h
     exact eM [some 0,some 1,some 2,some 3,some 4] rfl
   ·rintro _ rfl
    clear ho
    refine ww ?_
    refine AE h (fun c21 h=>ww ?_) (fun c21 h=>?_)
    ·obtain⟨t22,ht22,h⟩:=bi h
     refine Ce (as1:=[.agg (AO (t9)),.agg [dS x1.Kind,dS x1.Namespace,dM (o18_0.map Al),dI o18_1,dB o18_2,dM (o18_3.map Ad)],.c (dI x3)]) [(3,.arr 1 3 []),(4,.arr 1 23 []),(2,.box [dS x1.Kind,dS x1.Namespace,.own 3 0 0 0 (some 0),dI o18_1,dB o18_2,.own 4 0 0 0 (some 0)])] [some 0,some 1,some 2,none,none] [] (F21_ok ht22) ⟨?_,rfl,?_⟩ ?_ ?_ ?_ ?_ ?_ ?_ ?_ ?_
     ·simp only[ZZ.down,Nat.reduceEqDiff,reduceCtorEq,Nat.reduceAdd,Nat.reduceLeDiff,Nat.reduceLT,Nat.reduceBNe,EE.down]
     ·simp only[ZZ.down,Nat.reduceEqDiff,reduceCtorEq,Nat.reduceAdd,Nat.reduceLeDiff,Nat.reduceLT,Nat.reduceBNe,EE.down]
     ·simp only[ZZ.down,Nat.reduceEqDiff,reduceCtorEq,Nat.reduceAdd,Nat.reduceLeDiff,Nat.reduceLT,Nat.reduceBNe,EE.down]
     ·rfl
     ·rfl
     ·simp[Cj,A1.live,C.live]
     ·rfl
     ·decide
     ·exact trivial
     refine ww ?_
     refine AE h (fun c23 h=>ww ?_) (fun c23 h=>?_)
     ·obtain⟨fh0o18,hfh0o18,rfl⟩:=Option.map_eq_some_iff.1 h
      have h:=hfh0o18.trans h0o18
      cases h
      exact eF []
     ·refine ww ?_
      exact eL' j [some 0,some 1,some 2,some 5,some 6] ⟨t22.1,t22.2.1,t22.2.2.1,t22.2.2.2.1,t22.2.2.2.2,(IntKind.i64.wrap (o18_5+1)),rfl,h⟩ (Nat.lt_succ_self _)
    ·refine ww ?_
     cases h
     exact eM [some 0,some 1,some 2,some 3,some 4] ⟨_,rfl,rfl⟩
 rintro _ ⟨po18,rfl,rfl⟩
 clear ho
 dsimp only at h
 refine ww ?_
 obtain⟨o24,ho,h⟩:=bi h
 refine AB (fun s=>s=⟨[(8,oc (dB o24))],[]⟩) ?_ ?_
 ·have h:=ho
  clear ho
  refine ww ?_
  refine Cm h (fun g25 h=>ww ?_) (fun g25 h=>ww ?_)
  ·refine Cm h (fun g26 h=>ww ?_) (fun g26 h=>ww ?_)
   ·obtain⟨t27,ht27,h⟩:=bi h
    refine cN [] (F26_ok ht27) trivial (ww ?_)
    obtain⟨t28,ht28,h⟩:=bi h
    refine D8 (F25_ok ht28) (by simp only[Fm,Fs,hp,List.getElem?_cons_zero,List.getElem?_cons_succ,Option.join_some,List.drop_zero,BB,true_and,Nat.zero_add,List.length_map,Nat.le_refl,nrm,List.length_cons,List.length_nil,Nat.reduceAdd,Nat.reduceLeDiff,List.take_succ_cons,List.take_zero,List.take_nil,List.map_cons,List.map_nil,List.length_set,EE.down]) rfl ?_
    refine ww ?_
    refine Cm h (fun g29 h=>ww ?_) (fun g29 h=>ww ?_)
    ·obtain⟨t30,ht30,h⟩:=bi h
     refine cN [] (F10_ok ht30) trivial (ww ?_)
     cases h
     exact eM [] rfl
    cases h
    exact eM [] rfl
   cases h
   exact eM [] rfl
  cases h
  exact eM [] rfl
 rintro _ rfl
 clear ho
 refine ww ?_
 cases h
 exact eF []
end Go.Proofs.YtdkmamiedcanfaaGreat
