/- Each Go function as a function over typed data, and its walk. -/
import Derived.Test.YtdkmamiedcanfaaGreatW0
import Derived.Test.YtdkmamiedcanfaaGreatW4
import Derived.Test.YtdkmamiedcanfaaGreatW5
import Derived.Test.YtdkmamiedcanfaaGreatW7
import Derived.Test.YtdkmamiedcanfaaGreatW8
namespace Go.Proofs.YtdkmamiedcanfaaGreat
open Go Go.Fw Go.Shelf
set_option maxRecDepth 100000
set_option maxHeartbeats 4000000
set_option linter.unusedSimpArgs false
set_option linter.unusedVariables false
def F89_l6(x0:Ag)(x1:Int):Nat→(List Object)→Int→Option ((List Object))
 |0,_,_=>none
 |k+1,o6_0,o6_1=>(((if o6_1<(x0.Ac.length:Int)then(rdI x0.Ac o6_1).bind fun y9=>some (decide (y9.Rev≤x1))else some false)).bind fun o7=>(if o7=true then(rdI x0.Ac o6_1).bind fun y11=>(F91 o6_0 y11).bind fun t12=>F89_l6 x0 x1 k t12 ((IntKind.i64.wrap (o6_1+1)))else some o6_0))
def F89(x0:Ag)(x1:Int):Option ((List Object)×Int):=(((if x1<0 then some true else some (decide (x0.Rev<x1)))).bind fun o1=>(if o1=true then some (([],5))else(if x1<x0.As then some (([],10))else(apI ([]:List Object) x0.Bt).bind fun a5=>((F89_l6 x0 x1 1099511627776 a5 0).bind fun o6=>some ((o6,0))))))
def a89:AFn:=⟨49,[(.tmp 4),(.tmp 5)],
 (.seq (.reg [Qg 2 0,
sq 4 (.mv kN),
Qe 5 0])
 (.seq (.seq (.sem (.reg [Qa 8 1,
sq 9 (.bin .lss (.t 8) (kI 0)),
Qa 10 9,
Qv 11 10 false 1,
Qs 12 10 false 0 2,
Qt 13 10 false 12,
zg 14 10 false (.bin .gtr (.t 11) (.t 13)),
zl 15 (.pick (.t 10) (kB true) (.t 14)) [] [2,12]]))
 (.cond (.t 15)
 (.seq (.reg [sq 4 (.mv kN),
Qe 5 5])
 .ret)
 .skip))
 (.seq (.seq (.reg [Qa 16 1,
Qb 17 1 2,
Qd 18 17,
Qn 19 16 18])
 (.cond (.t 19)
 (.seq (.reg [sq 4 (.mv kN),
Qe 5 10])
 .ret)
 .skip))
 (.seq (.reg [sq 20 (.bslice 23 []),
Qb 21 3 2,
Qd 22 21,
sq 23 (.app 23 352 (.t 20) (.t 22)),
Qa 6 23])
 (.seq (.seq (.reg [Qe 7 0])
 (.sem (.block 0 (.loop (.seq (.seq (.sem (.reg [Qa 24 7,
Qb 25 5 2,
Qd 26 25,
Qh 27 26,
Qn 28 24 27,
Qa 29 28,
Qs 30 29 true 5 2,
Qt 31 29 true 30,
Qv 32 29 true 7,
zg 33 29 true (.indexA 25 (.t 31) (.t 32)),
Qs 34 29 true 0 33,
Qt 35 29 true 34,
Qv 36 29 true 1,
zg 37 29 true (.bin .leq (.t 35) (.t 36)),
zl 38 (.pick (.t 29) (.t 37) (kB false)) [] [2,25,26,2,30,31,33,34]]))
 (.cond (.t 38)
 .skip
 (.exit 0)))
 (.seq (.block 1 (.reg [Qa 41 6,
Qb 42 5 2,
Qd 43 42,
Qa 44 7,
Qp 45 25 43 44,
Qc 46 25 45,
Ql 47 91 41 46,
Qa 6 47]))
 (.reg [Qa 39 7,
Qm 40 39 1,
Qa 7 40])))))))
 (.seq (.reg [Qa 48 6,
Qa 4 48,
Qe 5 0])
 .ret))))))⟩
theorem F89_ok{x0 x1 r}(h:F89 x0 x1=some r):An Tryz.prog 89 [.agg (AO x0),.c (dI x1)] [] (AL [.c (.own 0 0 0 (r.1.length) none),.c (dI r.2)]) [some (.arr 0 23 (r.1.map Ad))]:=by
 rw[F89]at h
 refine zc a89 (by kernel_rfl) rfl (ww ?_)
 obtain⟨o1,ho,h⟩:=bi h
 refine AB (fun s=>s=⟨[(1,oc (dI x1)),(2,Pz 0),(15,oc (dB o1))],[xb (AO x0)]⟩) ?_ ?_
 ·have h:=ho
  clear ho
  refine ww ?_
  refine Af h (fun g2 h=>ww ?_) (fun g2 h=>ww ?_)
  ·cases h
   exact eM [some 0] rfl
  cases h
  exact eM [some 0] rfl
 rintro _ rfl
 clear ho
 refine ww ?_
 refine AE h (fun c3 h=>ww ?_) (fun c3 h=>ww ?_)
 ·cases h
  exact eF [none]
 refine AH h (fun c4 h=>ww ?_) (fun c4 h=>ww ?_)
 ·cases h
  exact eF [none]
 refine BE (enc:=Ad) (ys:=([]:List Object)) rfl rfl (by simp[A1.cells]) (by first|rfl|(simp only[List.drop_zero,Aw];rfl)|(simp only[lit,List.map_cons,List.map_nil,List.drop_zero,Aw,EE.down];done)|(simp only[lit,List.map_cons,List.map_nil,List.drop_zero,Aw,EE.down];rfl)) (ww ?_)
 obtain⟨a5,ha5,h⟩:=bi h
 refine D6 (enc:=Ad) (xs:=([]:List Object)) rfl rfl (by first|rfl|simp only[List.length_set]|exact(AN (AX (by assumption))).symm) rfl (G8 (enc:=Ad) (fun _=>rfl)) ha5 (ww ?_)
 obtain⟨o6,ho,h⟩:=bi h
 refine AB (fun s=>s=⟨[(6,oc (.own 0 0 0 (o6.length) none))],[some (.arr 0 23 (o6.map Ad))]⟩) ?_ ?_
 ·have h:=ho
  clear ho
  refine ww ?_
  refine bL (fun j s=>∃(o6_0:List Object) (o6_1:Int),s=⟨[(1,oc (dI x1)),(2,Pz 0),(6,oc (.own 1 0 0 (o6_0.length) none)),(7,oc (dI o6_1))],[xb (AO x0),some (.arr 0 23 (o6_0.map Ad))]⟩∧F89_l6 x0 x1 j o6_0 o6_1=some o6) 1099511627776 [some 0,some 1] ⟨a5,0,rfl,h⟩ ?_
  rintro j _ ⟨o6_0,o6_1,rfl,h⟩
  cases j with
  |zero=>cases(show(none:Option _)=some _ from h)
  |succ j=>
   rw[F89_l6]at h
   refine ww ?_
   obtain⟨o7,ho,h⟩:=bi h
   refine AB (fun s=>s=⟨[(1,oc (dI x1)),(2,Pz 0),(6,oc (.own 1 0 0 (o6_0.length) none)),(7,oc (dI o6_1)),(38,oc (dB o7))],[xb (AO x0),some (.arr 0 23 (o6_0.map Ad))]⟩) ?_ ?_
   ·have h:=ho
    clear ho
    refine ww ?_
    refine Af h (fun g8 h=>ww ?_) (fun g8 h=>?_)
    ·obtain⟨y9,hy9,h⟩:=bi h
     refine Az (enc:=A9) (xs:=x0.Ac) rfl rfl hy9 rfl (ww ?_)
     cases h
     exact eM [some 0,some 1] rfl
    ·refine ww ?_
     cases h
     exact eM [some 0,some 1] rfl
   ·rintro _ rfl
    clear ho
    refine ww ?_
    refine AE h (fun c10 h=>ww ?_) (fun c10 h=>?_)
    ·obtain⟨y11,hy11,h⟩:=bi h
     refine Az (enc:=A9) (xs:=x0.Ac) rfl rfl hy11 rfl (ww ?_)
     obtain⟨t12,ht12,h⟩:=bi h
     refine Ce (as1:=[.c (dM (o6_0.map Ad)),.agg (EY y11)]) [(1,.arr 1 23 [])] [some 0,none] [] (F91_ok ht12) ⟨?_,rfl,?_⟩ ?_ ?_ ?_ ?_ ?_ ?_ ?_ ?_
     ·simp only[ZZ.down,Nat.reduceEqDiff,reduceCtorEq,Nat.reduceAdd,Nat.reduceLeDiff,Nat.reduceLT,Nat.reduceBNe,EE.down]
     ·simp only[ZZ.down,Nat.reduceEqDiff,reduceCtorEq,Nat.reduceAdd,Nat.reduceLeDiff,Nat.reduceLT,Nat.reduceBNe,EE.down]
     ·simp only[ZZ.down,Nat.reduceEqDiff,reduceCtorEq,Nat.reduceAdd,Nat.reduceLeDiff,Nat.reduceLT,Nat.reduceBNe,EE.down]
     ·rfl
     ·rfl
     ·simp[Cj,A1.live,C.live]
     ·rfl
     ·decide
     ·exact trivial
     refine ww ?_
     exact eL' j [some 0,some 2] ⟨t12,(IntKind.i64.wrap (o6_1+1)),rfl,h⟩ (Nat.lt_succ_self _)
    ·refine ww ?_
     cases h
     exact eM [some 1] rfl
 rintro _ rfl
 clear ho
 refine ww ?_
 cases h
 exact eF [some 0]
def F95(x0:Ag)(x1:Int):Option (Int×(List Object)×(List Change)×Int):=(((if x1<x0.As then some true else some (decide (x0.Rev<x1)))).bind fun o1=>(if o1=true then some ((x0.As,x0.Bt,x0.Ac,5))else(F89 x0 x1).bind fun t4=>(if¬(t4.2=0)then some ((x0.As,x0.Bt,x0.Ac,t4.2))else(slI x0.Ac ((IntKind.i64.wrap (x1-x0.As))) ((x0.Ac.length:Int))).bind fun s6=>(apI ([]:List Change) s6).bind fun a7=>some ((x1,t4.1,a7,0)))))
def a95:AFn:=⟨44,[(.cell 4 (some 6)),(.tmp 5)],
 (.seq (.reg [Qg 2 0,
sq 4 (.zbox [dI 0,dI 0,dI 0,dN,dN,dN]),
Qe 5 0])
 (.seq (.seq (.sem (.reg [Qa 8 1,
Qb 9 1 2,
Qd 10 9,
Qn 11 8 10,
Qa 12 11,
Qv 13 12 false 1,
Qs 14 12 false 0 2,
Qt 15 12 false 14,
zg 16 12 false (.bin .gtr (.t 13) (.t 15)),
zl 17 (.pick (.t 12) (kB true) (.t 16)) [] [2,9,2,14]]))
 (.cond (.t 17)
 (.seq (.reg [Qc 18 6 2,
su (.store 6 (.t 4) (.t 18)),
Qe 5 5])
 .ret)
 .skip))
 (.seq (.reg [Qc 20 6 2,
Qa 21 1,
Ql 22 89 20 21,
Qa 19 22,
Qo 23 19 0,
Qo 24 19 1,
Qa 6 23,
Qa 7 24])
 (.seq (.seq (.reg [Qa 25 7,
sq 26 (.bin .neq (.t 25) (kI 0))])
 (.cond (.t 26)
 (.seq (.reg [Qc 27 6 2,
Qa 28 7,
su (.store 6 (.t 4) (.t 27)),
Qa 5 28])
 .ret)
 .skip))
 (.seq (.reg [sq 29 (.bslice 25 []),
Qb 30 5 2,
Qd 31 30,
Qa 32 1,
Qb 33 1 2,
Qd 34 33,
sq 35 (.bin .sub (.t 32) (.t 34)),
sq 36 (.slice 25 (.t 31) (some (.t 35)) none none),
sq 37 (.app 25 368 (.t 29) (.t 36)),
Qb 38 5 2,
su (.store 1 (.t 38) (.t 37))])
 (.seq (.reg [Qa 39 6,
Qb 40 3 2,
⟨none,none,.store 1 (.t 40) (.t 39),[],(.lone [2])⟩])
 (.seq (.reg [Qa 41 1,
Qb 42 1 2,
⟨none,none,.store 1 (.t 42) (.t 41),[],(.lone [2])⟩])
 (.seq (.reg [Qc 43 6 2,
su (.store 6 (.t 4) (.t 43)),
Qe 5 0])
 .ret))))))))⟩
theorem F95_ok{x0 x1 r}(h:F95 x0 x1=some r):An Tryz.prog 95 [.agg (AO x0),.c (dI x1)] [] (AL [.agg [dI x0.Rev,dI r.1,dI x0.Am,dM (r.2.1.map Ad),dM (x0.Aa.map Ad),dM (r.2.2.1.map A9)],.c (dI r.2.2.2)]) []:=by
 rw[F95]at h
 refine zc a95 (by kernel_rfl) rfl (ww ?_)
 obtain⟨o1,ho,h⟩:=bi h
 refine AB (fun s=>s=⟨[(1,oc (dI x1)),(2,Pz 0),(4,Pz 1),(17,oc (dB o1))],[xb (AO x0),xb [dI 0,dI 0,dI 0,dN,dN,dN]]⟩) ?_ ?_
 ·have h:=ho
  clear ho
  refine ww ?_
  refine Af h (fun g2 h=>ww ?_) (fun g2 h=>ww ?_)
  ·cases h
   exact eM [some 0,some 1] rfl
  cases h
  exact eM [some 0,some 1] rfl
 rintro _ rfl
 clear ho
 refine ww ?_
 refine AE h (fun c3 h=>ww ?_) (fun c3 h=>ww ?_)
 ·cases h
  exact eF []
 obtain⟨t4,ht4,h⟩:=bi h
 refine cN [] (F89_ok ht4) trivial (ww ?_)
 refine AH h (fun c5 h=>ww ?_) (fun c5 h=>ww ?_)
 ·cases h
  exact eF []
 refine BE (enc:=A9) (ys:=([]:List Change)) rfl rfl (by simp[A1.cells]) (by first|rfl|(simp only[List.drop_zero,Aw];rfl)|(simp only[lit,List.map_cons,List.map_nil,List.drop_zero,Aw,EE.down];done)|(simp only[lit,List.map_cons,List.map_nil,List.drop_zero,Aw,EE.down];rfl)) (ww ?_)
 obtain⟨s6,hs6,h⟩:=bi h
 refine H8 (enc:=A9) (xs:=x0.Ac) rfl rfl rfl (fun _=>rfl) hs6 (ww ?_)
 obtain⟨a7,ha7,h⟩:=bi h
 refine D6 (enc:=A9) (xs:=([]:List Change)) rfl rfl (by first|rfl|simp only[List.length_set]|exact(AN (AX (by assumption))).symm) rfl (G8 (enc:=A9) (fun _=>rfl)) ha7 (ww ?_)
 cases h
 exact eF []
def F58(x0:Ag)(x1:Int)(x2:Object):Option (Int×Int×((List Object))×(List Object)×(List Change)):=(F91 x0.Aa ((⟨(IntKind.i64.wrap (x0.Rev+1)),x1,(⟨(⟨x2.Meta.Kind,x2.Meta.Namespace,x2.Meta.Name,x2.Meta.Uid,(IntKind.i64.wrap (x0.Rev+1)),x2.Meta.Ai,x2.Meta.Created,x2.Meta.Av,x2.Meta.Ar,x2.Meta.Ax,x2.Meta.AF,x2.Meta.Au,x2.Meta.Aj⟩:Meta),x2.Spec,x2.Status⟩:Object)⟩:Change))).bind fun t1=>(apI ([]:List Change) x0.Ac).bind fun a2=>(apI a2 ([(⟨(IntKind.i64.wrap (x0.Rev+1)),x1,(⟨(⟨x2.Meta.Kind,x2.Meta.Namespace,x2.Meta.Name,x2.Meta.Uid,(IntKind.i64.wrap (x0.Rev+1)),x2.Meta.Ai,x2.Meta.Created,x2.Meta.Av,x2.Meta.Ar,x2.Meta.Ax,x2.Meta.AF,x2.Meta.Au,x2.Meta.Aj⟩:Meta),x2.Spec,x2.Status⟩:Object)⟩:Change)])).bind fun a3=>(if 4000<(a3.length:Int)then(F95 ((⟨(IntKind.i64.wrap (x0.Rev+1)),x0.As,x0.Am,x0.Bt,t1,a3⟩:Ag)) ((IntKind.i64.wrap (x0.As+1)))).bind fun t5=>some ((((IntKind.i64.wrap (x0.Rev+1))),t5.1,t5.2.1,t1,t5.2.2.1))else some (((IntKind.i64.wrap (x0.Rev+1)),x0.As,x0.Bt,t1,a3)))
def a58:AFn:=⟨51,[(.cell 6 (some 6)),(.cell 7 (some 23))],
 (.seq (.reg [Qg 3 0,
Qg 5 2,
sq 6 (.zbox [dI 0,dI 0,dI 0,dN,dN,dN]),
sq 7 (.zbox [dS ⟨#[]⟩,dS ⟨#[]⟩,dS ⟨#[]⟩,dI 0,dI 0,dI 0,dI 0,dB false,dI 0,dN,dN,dN,dN,dI 0,dI 0,dS ⟨#[]⟩,dN,dN,dI 0,dI 0,dS ⟨#[]⟩,dN,dN])])
 (.seq (.reg [Qb 9 0 3,
Qd 10 9,
Qm 11 10 1,
Qb 12 0 5,
Qb 13 4 12,
⟨none,none,.store 1 (.t 13) (.t 11),[],(.lone [3,9,5,12])⟩])
 (.seq (.reg [Qb 14 0 3,
Qd 15 14,
Qm 16 15 1,
Qa 17 1,
Qc 18 23 5,
sq 19 (.build [dI 0,dI 0,dS ⟨#[]⟩,dS ⟨#[]⟩,dS ⟨#[]⟩,dI 0,dI 0,dI 0,dI 0,dB false,dI 0,dN,dN,dN,dN,dI 0,dI 0,dS ⟨#[]⟩,dN,dN,dI 0,dI 0,dS ⟨#[]⟩,dN,dN] [(0,1,(.t 16)),(1,1,(.t 17)),(2,23,(.t 18))]),
sq 8 (.zbox [dI 0,dI 0,dS ⟨#[]⟩,dS ⟨#[]⟩,dS ⟨#[]⟩,dI 0,dI 0,dI 0,dI 0,dB false,dI 0,dN,dN,dN,dN,dI 0,dI 0,dS ⟨#[]⟩,dN,dN,dI 0,dI 0,dS ⟨#[]⟩,dN,dN]),
su (.store 25 (.t 8) (.t 19))])
 (.seq (.reg [Qb 20 0 3,
Qd 21 20,
Qm 22 21 1,
Qb 23 0 3,
⟨none,none,.store 1 (.t 23) (.t 22),[],(.lone [3,20,3])⟩])
 (.seq (.reg [Qb 24 4 3,
Qd 25 24,
Qc 26 25 8,
Ql 27 91 25 26,
Qb 28 4 3,
su (.store 1 (.t 28) (.t 27))])
 (.seq (.regd [sq 29 (.bslice 25 []),
Qb 30 5 3,
sd 31 (.load none (.t 30)) [1],
zn 32 (.app 25 368 (.t 29) (.t 31)) [0,1,2] [0,1,2],
Qc 33 25 8,
zn 34 (.bslice 25 [(.t 33)]) [4] [4],
zl 35 (.app 25 368 (.t 32) (.t 34)) [0,1,2,3,4,5] [],
sd 36 (.fieldA 5 (.t 3)) [0,1,2,3,4,5,6],
⟨none,none,.store 1 (.t 36) (.t 35),[0,1,2,3,4,5,6,7],(.lone [])⟩])
 (.seq (.seq (.reg [Qb 37 5 3,
Qd 38 37,
Qh 39 38,
sq 40 (.bin .gtr (.t 39) (kI 4000))])
 (.cond (.t 40)
 (.reg [Qc 42 6 3,
Qb 43 1 3,
Qd 44 43,
Qm 45 44 1,
Ql 46 95 42 45,
Qa 41 46,
Qo 47 41 0,
Qo 48 41 1,
su (.store 6 (.t 3) (.t 47))])
 .skip))
 (.seq (.regd [Qc 49 6 3,
Qc 50 23 5,
⟨none,none,.store 6 (.t 6) (.t 49),[0],(.lone [5])⟩,
⟨none,none,.store 23 (.t 7) (.t 50),[0,1,2],(.lone [])⟩])
 .ret))))))))⟩
theorem F58_ok{x0 x1 x2 r}(h:F58 x0 x1 x2=some r):An Tryz.prog 58 [.agg (AO x0),.c (dI x1),.agg (Bc x2)] [] (AL [.agg [dI r.1,dI r.2.1,dI x0.Am,dM (r.2.2.1.map Ad),dM (r.2.2.2.1.map Ad),dM (r.2.2.2.2.map A9)],.agg [dS x2.Meta.Kind,dS x2.Meta.Namespace,dS x2.Meta.Name,dI x2.Meta.Uid,dI ((IntKind.i64.wrap (x0.Rev+1))),dI x2.Meta.Ai,dI x2.Meta.Created,dB x2.Meta.Av,dI x2.Meta.Ar,dM (x2.Meta.Ax.map AY),dM (x2.Meta.AF.map A3),dM (x2.Meta.Au.map eS),dM (x2.Meta.Aj.map AG),dI x2.Spec.Kind,dI x2.Spec.N,dS x2.Spec.S,dM (x2.Spec.At.map Ap),dM (x2.Spec.Ae.map Ao),dI x2.Status.Kind,dI x2.Status.N,dS x2.Status.S,dM (x2.Status.At.map Ap),dM (x2.Status.Ae.map Ao)]]) []:=by
 rw[F58]at h
 refine zc a58 (by kernel_rfl) rfl (ww ?_)
 obtain⟨t1,ht1,h⟩:=bi h
 refine cN [] (F91_ok ht1) trivial (ww ?_)
 refine BE (enc:=A9) (ys:=([]:List Change)) rfl rfl (by simp[A1.cells]) (by first|rfl|(simp only[List.drop_zero,Aw];rfl)|(simp only[lit,List.map_cons,List.map_nil,List.drop_zero,Aw,EE.down];done)|(simp only[lit,List.map_cons,List.map_nil,List.drop_zero,Aw,EE.down];rfl)) (ww ?_)
 refine B3 (by simp[wrs,B8,BV]) (ww ?_)
 obtain⟨a2,ha2,h⟩:=bi h
 refine D6 (enc:=A9) (xs:=([]:List Change)) rfl rfl (by first|rfl|simp only[List.length_set]|exact(AN (AX (by assumption))).symm) rfl (G8 (enc:=A9) (fun _=>rfl)) ha2 (ww ?_)
 refine Rh (by simp[wrs,B8,BV,Td]) (ww ?_)
 refine BE (enc:=A9) (ys:=[(⟨(IntKind.i64.wrap (x0.Rev+1)),x1,(⟨(⟨x2.Meta.Kind,x2.Meta.Namespace,x2.Meta.Name,x2.Meta.Uid,(IntKind.i64.wrap (x0.Rev+1)),x2.Meta.Ai,x2.Meta.Created,x2.Meta.Av,x2.Meta.Ar,x2.Meta.Ax,x2.Meta.AF,x2.Meta.Au,x2.Meta.Aj⟩:Meta),x2.Spec,x2.Status⟩:Object)⟩:Change)]) rfl rfl (by simp[A1.cells]) (by first|rfl|(simp only[List.drop_zero,Aw];rfl)|(simp only[lit,List.map_cons,List.map_nil,List.drop_zero,Aw,EE.down];done)|(simp only[lit,List.map_cons,List.map_nil,List.drop_zero,Aw,EE.down];rfl)) (ww ?_)
 refine B3 (by simp[wrs,B8,BV]) (ww ?_)
 obtain⟨a3,ha3,h⟩:=bi h
 refine D6 (enc:=A9) (xs:=a2) rfl rfl (by first|rfl|simp only[List.length_set]|exact(AN (AX (by assumption))).symm) rfl (Co (enc:=A9) (by first|rfl|simp only[List.length_set]|exact(AN (AX (by assumption))).symm) rfl) ha3 (ww ?_)
 refine AH h (fun c4 h=>ww ?_) (fun c4 h=>ww ?_)
 ·obtain⟨t5,ht5,h⟩:=bi h
  refine Ce (as1:=[.agg [dI ((IntKind.i64.wrap (x0.Rev+1))),dI x0.As,dI x0.Am,dM (x0.Bt.map Ad),dM (t1.map Ad),dM (a3.map A9)],.c (dI ((IntKind.i64.wrap (x0.As+1))))]) [(5,.arr 1 23 []),(6,.arr 3 25 []),(0,.box [dI ((IntKind.i64.wrap (x0.Rev+1))),dI x0.As,dI x0.Am,dM (x0.Bt.map Ad),.own 5 0 0 0 (some 0),.own 6 2 0 0 (some 0)])] [some 0,some 1,some 2,some 3,some 4,none,none,some 7] [] (F95_ok ht5) ⟨?_,rfl,?_⟩ ?_ ?_ ?_ ?_ ?_ ?_ ?_ ?_
  ·simp only[ZZ.down,Nat.reduceEqDiff,reduceCtorEq,Nat.reduceAdd,Nat.reduceLeDiff,Nat.reduceLT,Nat.reduceBNe,EE.down]
  ·simp only[ZZ.down,Nat.reduceEqDiff,reduceCtorEq,Nat.reduceAdd,Nat.reduceLeDiff,Nat.reduceLT,Nat.reduceBNe,EE.down]
  ·simp only[ZZ.down,Nat.reduceEqDiff,reduceCtorEq,Nat.reduceAdd,Nat.reduceLeDiff,Nat.reduceLT,Nat.reduceBNe,EE.down]
  ·rfl
  ·rfl
  ·simp[Cj,A1.live,C.live]
  ·rfl
  ·decide
  ·exact trivial
  refine ww ?_
  cases h
  exact eF []
 cases h
 exact eF []
def F55(x0:Ag)(x1:Object)(x2:Int):Option (Ag×Object×Int):=(((F94 x1).bind fun t2=>(if(nb t2)=true then some true else(if x2<0 then some true else some (decide (1000000000000<x2))))).bind fun o1=>(if o1=true then some ((x0,(⟨(⟨(⟨#[]⟩:ByteArray),(⟨#[]⟩:ByteArray),(⟨#[]⟩:ByteArray),0,0,0,0,false,0,[],[],[],[]⟩:Meta),(⟨0,0,(⟨#[]⟩:ByteArray),[],[]⟩:Ab),(⟨0,0,(⟨#[]⟩:ByteArray),[],[]⟩:Ab)⟩:Object),1))else(F92 x1).bind fun t6=>(F52 x0.Aa t6).bind fun t7=>(if 0≤t7 then some ((x0,(⟨(⟨(⟨#[]⟩:ByteArray),(⟨#[]⟩:ByteArray),(⟨#[]⟩:ByteArray),0,0,0,0,false,0,[],[],[],[]⟩:Meta),(⟨0,0,(⟨#[]⟩:ByteArray),[],[]⟩:Ab),(⟨0,0,(⟨#[]⟩:ByteArray),[],[]⟩:Ab)⟩:Object),8))else(((if 500≤(x0.Aa.length:Int)then some true else(if 1000000000000000≤x0.Rev then some true else some (decide (1000000000000000≤x0.Am))))).bind fun o9=>(if o9=true then some ((x0,(⟨(⟨(⟨#[]⟩:ByteArray),(⟨#[]⟩:ByteArray),(⟨#[]⟩:ByteArray),0,0,0,0,false,0,[],[],[],[]⟩:Meta),(⟨0,0,(⟨#[]⟩:ByteArray),[],[]⟩:Ab),(⟨0,0,(⟨#[]⟩:ByteArray),[],[]⟩:Ab)⟩:Object),15))else(F58 ((⟨x0.Rev,x0.As,(IntKind.i64.wrap (x0.Am+1)),x0.Bt,x0.Aa,x0.Ac⟩:Ag)) 1 ((⟨(⟨x1.Meta.Kind,x1.Meta.Namespace,x1.Meta.Name,x0.Am,x1.Meta.Version,1,x2,false,0,x1.Meta.Ax,x1.Meta.AF,x1.Meta.Au,x1.Meta.Aj⟩:Meta),x1.Spec,x1.Status⟩:Object))).bind fun t13=>some (((⟨t13.1,t13.2.1,((IntKind.i64.wrap (x0.Am+1))),t13.2.2.1,t13.2.2.2.1,t13.2.2.2.2⟩:Ag),(⟨(⟨x1.Meta.Kind,x1.Meta.Namespace,x1.Meta.Name,x0.Am,(IntKind.i64.wrap (x0.Rev+1)),(1:Int),x2,false,(0:Int),x1.Meta.Ax,x1.Meta.AF,x1.Meta.Au,x1.Meta.Aj⟩:Meta),x1.Spec,x1.Status⟩:Object),0)))))))
def a55:AFn:=⟨71,[(.cell 6 (some 6)),(.cell 7 (some 23)),(.tmp 8)],
 (.seq (.reg [Qg 3 0,
Qg 4 1,
sq 6 (.zbox [dI 0,dI 0,dI 0,dN,dN,dN]),
sq 7 (.zbox [dS ⟨#[]⟩,dS ⟨#[]⟩,dS ⟨#[]⟩,dI 0,dI 0,dI 0,dI 0,dB false,dI 0,dN,dN,dN,dN,dI 0,dI 0,dS ⟨#[]⟩,dN,dN,dI 0,dI 0,dS ⟨#[]⟩,dN,dN]),
Qe 8 0])
 (.seq (.seq (.sem (.reg [Qc 9 23 4,
Qk 10 94 9,
Qq 11 10,
Qa 12 11,
Qv 13 12 false 2,
zg 14 12 false (.bin .lss (.t 13) (kI 0)),
Qj 15 12 14,
Qa 16 15,
Qv 17 16 false 2,
zg 18 16 false (.bin .gtr (.t 17) (kI 1000000000000)),
Qj 19 16 18]))
 (.cond (.t 19)
 (.seq (.reg [Qc 20 6 3,
sq 21 (.build [dS ⟨#[]⟩,dS ⟨#[]⟩,dS ⟨#[]⟩,dI 0,dI 0,dI 0,dI 0,dB false,dI 0,dN,dN,dN,dN,dI 0,dI 0,dS ⟨#[]⟩,dN,dN,dI 0,dI 0,dS ⟨#[]⟩,dN,dN] []),
su (.store 6 (.t 6) (.t 20)),
su (.store 23 (.t 7) (.t 21)),
Qe 8 1])
 .ret)
 .skip))
 (.seq (.seq (.regd [Qb 22 4 3,
sd 23 (.load none (.t 22)) [0],
Qc 24 23 4,
zl 25 (.call 92 [(.t 24)]) [2] [3,22],
zl 26 (.call 52 [(.t 23),(.t 25)]) [0,1,2,3] [],
sd 27 (.bin .geq (.t 26) (kI 0)) [0,1,2,3,4]])
 (.cond (.t 27)
 (.seq (.reg [Qc 28 6 3,
sq 29 (.build [dS ⟨#[]⟩,dS ⟨#[]⟩,dS ⟨#[]⟩,dI 0,dI 0,dI 0,dI 0,dB false,dI 0,dN,dN,dN,dN,dI 0,dI 0,dS ⟨#[]⟩,dN,dN,dI 0,dI 0,dS ⟨#[]⟩,dN,dN] []),
su (.store 6 (.t 6) (.t 28)),
su (.store 23 (.t 7) (.t 29)),
Qe 8 8])
 .ret)
 .skip))
 (.seq (.seq (.sem (.reg [Qb 30 4 3,
Qd 31 30,
Qh 32 31,
sq 33 (.bin .geq (.t 32) (kI 500)),
Qa 34 33,
Qs 35 34 false 0 3,
Qt 36 34 false 35,
zg 37 34 false (.bin .geq (.t 36) (kI 1000000000000000)),
Qj 38 34 37,
Qa 39 38,
Qs 40 39 false 2 3,
Qt 41 39 false 40,
zg 42 39 false (.bin .geq (.t 41) (kI 1000000000000000)),
Qj 43 39 42]))
 (.cond (.t 43)
 (.seq (.reg [Qc 44 6 3,
sq 45 (.build [dS ⟨#[]⟩,dS ⟨#[]⟩,dS ⟨#[]⟩,dI 0,dI 0,dI 0,dI 0,dB false,dI 0,dN,dN,dN,dN,dI 0,dI 0,dS ⟨#[]⟩,dN,dN,dI 0,dI 0,dS ⟨#[]⟩,dN,dN] []),
su (.store 6 (.t 6) (.t 44)),
su (.store 23 (.t 7) (.t 45)),
Qe 8 15])
 .ret)
 .skip))
 (.seq (.reg [Qb 46 2 3,
Qd 47 46,
Qb 48 0 4,
Qb 49 3 48,
⟨none,none,.store 1 (.t 49) (.t 47),[],(.lone [3,46,4,48])⟩])
 (.seq (.reg [Qb 50 0 4,
Qb 51 5 50,
⟨none,none,.store 1 (.t 51) (kI 1),[],(.lone [4,50])⟩])
 (.seq (.reg [Qa 52 2,
Qb 53 0 4,
Qb 54 6 53,
⟨none,none,.store 1 (.t 54) (.t 52),[],(.lone [4,53])⟩])
 (.seq (.reg [Qb 55 0 4,
Qb 56 7 55,
⟨none,none,.store 1 (.t 56) (kB false),[],(.lone [4,55])⟩])
 (.seq (.reg [Qb 57 0 4,
Qb 58 8 57,
⟨none,none,.store 1 (.t 58) (kI 0),[],(.lone [4,57])⟩])
 (.seq (.reg [Qb 59 2 3,
Qd 60 59,
Qm 61 60 1,
Qb 62 2 3,
⟨none,none,.store 1 (.t 62) (.t 61),[],(.lone [3,59,3])⟩])
 (.seq (.reg [Qc 64 6 3,
Qc 65 23 4,
sq 66 (.call 58 [(.t 64),(kI 1),(.t 65)]),
Qa 63 66,
Qo 67 63 0,
Qo 68 63 1,
su (.store 6 (.t 3) (.t 67)),
su (.store 23 (.t 4) (.t 68))])
 (.seq (.regd [Qc 69 6 3,
Qc 70 23 4,
⟨none,none,.store 6 (.t 6) (.t 69),[0],(.lone [4])⟩,
⟨none,none,.store 23 (.t 7) (.t 70),[0,1,2],(.lone [])⟩,
sd 8 (.mv (kI 0)) [0,1,2,3]])
 .ret))))))))))))⟩
theorem F55_ok{x0 x1 x2 r}(h:F55 x0 x1 x2=some r):An Tryz.prog 55 [.agg (AO x0),.agg (Bc x1),.c (dI x2)] [] (AL [.agg (AO (r.1)),.agg (Bc (r.2.1)),.c (dI r.2.2)]) []:=by
 rw[F55]at h
 refine zc a55 (by kernel_rfl) rfl (ww ?_)
 obtain⟨o1,ho,h⟩:=bi h
 refine AB (fun s=>s=⟨[(2,oc (dI x2)),(3,Pz 0),(4,Pz 1),(6,Pz 2),(7,Pz 3),(19,oc (dB o1))],[xb (AO x0),xb (Bc x1),xb [dI 0,dI 0,dI 0,dN,dN,dN],xb [dS ((⟨#[]⟩:ByteArray)),dS ((⟨#[]⟩:ByteArray)),dS ((⟨#[]⟩:ByteArray)),dI 0,dI 0,dI 0,dI 0,dB false,dI 0,dN,dN,dN,dN,dI 0,dI 0,dS ((⟨#[]⟩:ByteArray)),dN,dN,dI 0,dI 0,dS ((⟨#[]⟩:ByteArray)),dN,dN]]⟩) ?_ ?_
 ·have h:=ho
  clear ho
  refine ww ?_
  obtain⟨t2,ht2,h⟩:=bi h
  refine cN [] (F94_ok ht2) trivial (ww ?_)
  refine AM h (fun g3 h=>ww ?_) (fun g3 h=>ww ?_)
  ·cases h
   exact eM [some 0,some 1,some 2,some 3] rfl
  refine Af h (fun g4 h=>ww ?_) (fun g4 h=>ww ?_)
  ·cases h
   exact eM [some 0,some 1,some 2,some 3] rfl
  cases h
  exact eM [some 0,some 1,some 2,some 3] rfl
 rintro _ rfl
 clear ho
 refine ww ?_
 refine AE h (fun c5 h=>ww ?_) (fun c5 h=>ww ?_)
 ·cases h
  exact eF []
 obtain⟨t6,ht6,h⟩:=bi h
 refine cN [] (F92_ok ht6) trivial (ww ?_)
 obtain⟨t7,ht7,h⟩:=bi h
 refine cN [] (F52_ok ht7) trivial (ww ?_)
 refine AH h (fun c8 h=>ww ?_) (fun c8 h=>ww ?_)
 ·cases h
  exact eF []
 obtain⟨o9,ho,h⟩:=bi h
 refine AB (fun s=>s=⟨[(2,oc (dI x2)),(3,Pz 0),(4,Pz 1),(6,Pz 2),(7,Pz 3),(43,oc (dB o9))],[xb (AO x0),xb (Bc x1),xb [dI 0,dI 0,dI 0,dN,dN,dN],xb [dS ((⟨#[]⟩:ByteArray)),dS ((⟨#[]⟩:ByteArray)),dS ((⟨#[]⟩:ByteArray)),dI 0,dI 0,dI 0,dI 0,dB false,dI 0,dN,dN,dN,dN,dI 0,dI 0,dS ((⟨#[]⟩:ByteArray)),dN,dN,dI 0,dI 0,dS ((⟨#[]⟩:ByteArray)),dN,dN]]⟩) ?_ ?_
 ·have h:=ho
  clear ho
  refine ww ?_
  refine Af h (fun g10 h=>ww ?_) (fun g10 h=>ww ?_)
  ·cases h
   exact eM [some 0,some 1,some 2,some 3] rfl
  refine Af h (fun g11 h=>ww ?_) (fun g11 h=>ww ?_)
  ·cases h
   exact eM [some 0,some 1,some 2,some 3] rfl
  cases h
  exact eM [some 0,some 1,some 2,some 3] rfl
 rintro _ rfl
 clear ho
 refine ww ?_
 refine AE h (fun c12 h=>ww ?_) (fun c12 h=>ww ?_)
 ·cases h
  exact eF []
 obtain⟨t13,ht13,h⟩:=bi h
 refine cN [] (F58_ok ht13) trivial (ww ?_)
 cases h
 exact eF []
def F78(x0:(List Ah)):Option (Bool):=(F111 x0).bind fun t1=>some (decide (0≤t1))
def a78:AFn:=⟨9,[(.tmp 4)],
 (.seq (.reg [Qf 4 false])
 (.seq (.reg [Qa 5 0,
Qa 6 1,
Ql 7 111 5 6,
sq 8 (.bin .geq (.t 7) (kI 0)),
Qa 4 8])
 .ret))⟩
theorem F78_ok{x0 r}(h:F78 x0=some r):An Tryz.prog 78 [.c (dM (x0.map Al)),.c (.fn 79 [])] [] (AL [.c (dB r)]) []:=by
 rw[F78]at h
 refine zc a78 (by kernel_rfl) rfl (ww ?_)
 obtain⟨t1,ht1,h⟩:=bi h
 refine cN [] (F111_ok ht1) trivial (ww ?_)
 cases h
 exact eF []
def F45(x0:(List Ah)):Option (Bool):=(((if(x0.length:Int)≤16 then(F78 x0).bind fun t3=>some (nb t3)else some false)).bind fun o1=>some o1)
def a45:AFn:=⟨11,[(.tmp 2)],
 (.seq (.reg [Qf 2 false])
 (.seq (.sem (.reg [Qa 3 0,
Qh 4 3,
sq 5 (.bin .leq (.t 4) (kI 16)),
Qa 6 5,
Qv 7 6 true 0,
zg 8 6 true (.call 78 [(.t 7),(.f 79)]),
zg 9 6 true (.not (.t 8)),
Qi 10 6 9,
Qa 2 10]))
 .ret))⟩
theorem F45_ok{x0 r}(h:F45 x0=some r):An Tryz.prog 45 [.c (dM (x0.map Al))] [] (AL [.c (dB r)]) []:=by
 rw[F45]at h
 refine zc a45 (by kernel_rfl) rfl (ww ?_)
 obtain⟨o1,ho,h⟩:=bi h
 refine AB (fun s=>s=⟨[(2,oc (dB o1))],[]⟩) ?_ ?_
 ·have h:=ho
  clear ho
  refine ww ?_
  refine Af h (fun g2 h=>ww ?_) (fun g2 h=>ww ?_)
  ·obtain⟨t3,ht3,h⟩:=bi h
   refine cN [] (F78_ok ht3) trivial (ww ?_)
   cases h
   exact eM [] rfl
  cases h
  exact eM [] rfl
 rintro _ rfl
 clear ho
 refine ww ?_
 cases h
 exact eF []
def F82(x0:Ag)(x1:Filter)(x2:Int):Option (Int):=(F45 x1.Selector).bind fun t1=>(if(nb t1)=true then some 1 else(((if x2<0 then some true else some (decide (x0.Rev<x2)))).bind fun o3=>(if o3=true then some 5 else(if x2<x0.As then some 10 else some 0))))
def a82:AFn:=⟨26,[(.tmp 6)],
 (.seq (.reg [Qg 3 0,
Qg 4 1,
Qe 6 0])
 (.seq (.block 0 (.seq (.reg [Qb 8 2 4,
Qd 9 8,
Qk 10 45 9,
Qq 11 10,
Qa 7 11])
 (.cond (.t 7)
 (.seq (.reg [Qe 6 1])
 .ret)
 (.seq (.sem (.reg [Qa 13 2,
sq 14 (.bin .lss (.t 13) (kI 0)),
Qa 15 14,
Qv 16 15 false 2,
Qs 17 15 false 0 3,
Qt 18 15 false 17,
zg 19 15 false (.bin .gtr (.t 16) (.t 18)),
Qj 20 15 19,
Qa 12 20]))
 (.cond (.t 12)
 (.seq (.reg [Qe 6 5])
 .ret)
 (.seq (.reg [Qa 22 2,
Qb 23 1 3,
Qd 24 23,
Qn 25 22 24,
Qa 21 25])
 (.cond (.t 21)
 (.seq (.reg [Qe 6 10])
 .ret)
 .skip)))))))
 (.seq (.reg [Qe 6 0])
 .ret)))⟩
theorem F82_ok{x0 x1 x2 r}(h:F82 x0 x1 x2=some r):An Tryz.prog 82 [.agg (AO x0),.agg (Bj x1),.c (dI x2)] [] (AL [.c (dI r)]) []:=by
 rw[F82]at h
 refine zc a82 (by kernel_rfl) rfl (ww ?_)
 obtain⟨t1,ht1,h⟩:=bi h
 refine cN [] (F45_ok ht1) trivial (ww ?_)
 refine AE h (fun c2 h=>ww ?_) (fun c2 h=>ww ?_)
 ·cases h
  exact eF []
 obtain⟨o3,ho,h⟩:=bi h
 refine AB (fun s=>s=⟨[(2,oc (dI x2)),(3,Pz 0),(12,oc (dB o3))],[xb (AO x0)]⟩) ?_ ?_
 ·have h:=ho
  clear ho
  refine ww ?_
  refine Af h (fun g4 h=>ww ?_) (fun g4 h=>ww ?_)
  ·cases h
   exact eM [some 0] rfl
  cases h
  exact eM [some 0] rfl
 rintro _ rfl
 clear ho
 refine ww ?_
 refine AE h (fun c5 h=>ww ?_) (fun c5 h=>ww ?_)
 ·cases h
  exact eF []
 refine AH h (fun c6 h=>ww ?_) (fun c6 h=>ww ?_)
 ·cases h
  exact eF []
 cases h
 exact eF []
def F85(x0:Filter)(x1:Change)(x2:Bool):Option (Int):=(((if x1.Kind=1 then(F84 x0 x1.Object).bind fun t3=>some t3 else some false)).bind fun o1=>(((if o1=true then some x2 else some false)).bind fun o4=>(if o4=true then some 2 else(if o1=true then some 1 else(if x2=true then some 3 else some 0)))))
def a85:AFn:=⟨26,[(.tmp 6)],
 (.seq (.reg [Qg 3 0,
Qg 4 1,
Qe 6 0])
 (.seq (.sem (.reg [Qb 8 1 4,
Qd 9 8,
Qr 10 9 1,
Qa 11 10,
Qu 12 11 true 3 3,
Qs 13 11 true 2 4,
Qu 14 11 true 23 13,
zg 15 11 true (.call 84 [(.t 12),(.t 14)]),
Qi 16 11 15,
Qa 7 16]))
 (.seq (.block 0 (.seq (.sem (.reg [Qa 18 7,
Qa 19 18,
Qv 20 19 true 2,
Qi 21 19 20,
Qa 17 21]))
 (.cond (.t 17)
 (.seq (.reg [Qe 6 2])
 .ret)
 (.seq (.reg [Qa 23 7,
Qa 22 23])
 (.cond (.t 22)
 (.seq (.reg [Qe 6 1])
 .ret)
 (.seq (.reg [Qa 25 2,
Qa 24 25])
 (.cond (.t 24)
 (.seq (.reg [Qe 6 3])
 .ret)
 .skip)))))))
 (.seq (.reg [Qe 6 0])
 .ret))))⟩
theorem F85_ok{x0 x1 x2 r}(h:F85 x0 x1 x2=some r):An Tryz.prog 85 [.agg (Bj x0),.agg (EY x1),.c (dB x2)] [] (AL [.c (dI r)]) []:=by
 rw[F85]at h
 refine zc a85 (by kernel_rfl) rfl (ww ?_)
 obtain⟨o1,ho,h⟩:=bi h
 refine AB (fun s=>s=⟨[(2,oc (dB x2)),(7,oc (dB o1))],[]⟩) ?_ ?_
 ·have h:=ho
  clear ho
  refine ww ?_
  refine Af h (fun g2 h=>ww ?_) (fun g2 h=>ww ?_)
  ·obtain⟨t3,ht3,h⟩:=bi h
   refine cN [] (F84_ok ht3) trivial (ww ?_)
   cases h
   exact eM [] rfl
  cases h
  exact eM [] rfl
 rintro _ rfl
 clear ho
 refine ww ?_
 obtain⟨o4,ho,h⟩:=bi h
 refine AB (fun s=>s=⟨[(2,oc (dB x2)),(7,oc (dB o1)),(17,oc (dB o4))],[]⟩) ?_ ?_
 ·have h:=ho
  clear ho
  refine ww ?_
  refine AM h (fun g5 h=>ww ?_) (fun g5 h=>ww ?_)
  ·cases h
   exact eM [] rfl
  cases h
  exact eM [] rfl
 rintro _ rfl
 clear ho
 refine ww ?_
 refine AE h (fun c6 h=>ww ?_) (fun c6 h=>ww ?_)
 ·cases h
  exact eF []
 refine AE h (fun c7 h=>ww ?_) (fun c7 h=>ww ?_)
 ·cases h
  exact eF []
 refine AE h (fun c8 h=>ww ?_) (fun c8 h=>ww ?_)
 ·cases h
  exact eF []
 cases h
 exact eF []
def F87_l1(x1:Filter):List Object→Nat→(List Object)→Option ((List Object))
 |[],o1_1,o1_0=>some o1_0
 |xo1::xs,o1_1,o1_0=>(((F119 x1 xo1).bind fun t4=>(if t4=true then(F105 xo1).bind fun t6=>(apI o1_0 ([(⟨(⟨xo1.Meta.Kind,xo1.Meta.Namespace,xo1.Meta.Name,xo1.Meta.Uid,xo1.Meta.Version,xo1.Meta.Ai,xo1.Meta.Created,xo1.Meta.Av,xo1.Meta.Ar,t6.1,t6.2.1,t6.2.2.1,t6.2.2.2.1⟩:Meta),(⟨t6.2.2.2.2.1,t6.2.2.2.2.2.1,t6.2.2.2.2.2.2.1,t6.2.2.2.2.2.2.2.1,t6.2.2.2.2.2.2.2.2.1⟩:Ab),(⟨t6.2.2.2.2.2.2.2.2.2.1,t6.2.2.2.2.2.2.2.2.2.2.1,t6.2.2.2.2.2.2.2.2.2.2.2.1,t6.2.2.2.2.2.2.2.2.2.2.2.2.1,t6.2.2.2.2.2.2.2.2.2.2.2.2.2⟩:Ab)⟩:Object)])).bind fun a7=>some a7 else some o1_0)).bind fun o3=>F87_l1 x1 xs (o1_1+1) o3)
def F87(x0:Ag)(x1:Filter):Option ((List Object)):=(((ck (0≤x0.Aa.length∧x0.Aa.length≤4294967290)).bind fun u8=>F87_l1 x1 x0.Aa 0 ([])).bind fun o1=>some o1)
def a87:AFn:=⟨25,[(.tmp 4)],
 (.seq (.reg [Qg 2 0,
Qg 3 1,
sq 4 (.mv kN)])
 (.seq (.reg [sq 5 (.mv kN)])
 (.seq (.seq (.reg [Qb 8 4 2,
Qd 9 8,
Qh 10 9,
Qe 11 0])
 (.sem (.block 0 (.loop (.seq (.reg [Qn 12 11 10])
 (.seq (.cond (.t 12)
 .skip
 (.exit 0))
 (.seq (.sem (.block 1 (.seq (.reg [Qp 13 23 9 11,
Qc 14 23 13,
sq 7 (.zbox [dS ⟨#[]⟩,dS ⟨#[]⟩,dS ⟨#[]⟩,dI 0,dI 0,dI 0,dI 0,dB false,dI 0,dN,dN,dN,dN,dI 0,dI 0,dS ⟨#[]⟩,dN,dN,dI 0,dI 0,dS ⟨#[]⟩,dN,dN]),
su (.store 23 (.t 7) (.t 14))])
 (.seq (.reg [Qc 15 3 3,
Qc 16 23 7,
zl 17 (.call 119 [(.t 15),(.t 16)]) [] [3,7]])
 (.cond (.t 17)
 (.reg [Qa 18 5,
Qc 19 23 7,
Qk 20 105 19,
sq 21 (.bslice 23 [(.t 20)]),
sq 22 (.app 23 352 (.t 18) (.t 21)),
Qa 5 22])
 .skip)))))
 (.reg [Qm 23 11 1,
Qa 11 23]))))))))
 (.seq (.reg [Qa 24 5,
Qa 4 24])
 .ret))))⟩
theorem F87_ok{x0 x1 r}(h:F87 x0 x1=some r):An Tryz.prog 87 [.agg (AO x0),.agg (Bj x1)] [] (AL [.c (.own 0 0 0 (r.length) none)]) [some (.arr 0 23 (r.map Ad))]:=by
 rw[F87]at h
 refine zc a87 (by kernel_rfl) rfl (ww ?_)
 obtain⟨o1,ho,h⟩:=bi h
 refine AB (fun s=>s=⟨[(5,oc (.own 0 0 0 (o1.length) none))],[some (.arr 0 23 (o1.map Ad))]⟩) ?_ ?_
 ·have h:=ho
  clear ho
  obtain⟨_,hk,h⟩:=bi h
  have hk:=AS hk
  refine ww ?_
  refine bL (fun j s=>∃(o1_1:Nat) (o1_0:List Object),(o1_1≤x0.Aa.length∧j=x0.Aa.length-o1_1)∧s=⟨[(3,Pz 0),(5,oc (.own 1 0 0 (o1_0.length) none)),(9,oc (dM (x0.Aa.map Ad))),(10,oc (dI ((x0.Aa.length:Int)))),(11,oc (dI ((o1_1:Int))))],[xb (Bj x1),some (.arr 0 23 (o1_0.map Ad))]⟩∧F87_l1 x1 (x0.Aa.drop o1_1) o1_1 o1_0=some o1) (x0.Aa.length-0) [some 1,none] ⟨0,[],⟨hk.1,rfl⟩,rfl,h⟩ ?_
  rintro _ _ ⟨o1_1,o1_0,⟨hi,rfl⟩,rfl,h⟩
  refine ww ?_
  refine Bg (fun c2=>?_) (fun c2=>?_)
  ·obtain⟨xo1,hxo1,hd⟩:=A5 (show(o1_1:Int)<(x0.Aa.length:Int)from c2)
   rw[hd,F87_l1]at h
   refine ww ?_
   obtain⟨o3,ho,h⟩:=bi h
   refine AB (fun s=>s=⟨[(3,Pz 0),(5,oc (.own 1 0 0 (o3.length) none)),(9,oc (dM (x0.Aa.map Ad))),(10,oc (dI ((x0.Aa.length:Int)))),(11,oc (dI ((o1_1:Int))))],[xb (Bj x1),some (.arr 0 23 (o3.map Ad))]⟩) ?_ ?_
   ·have h:=ho
    clear ho
    refine ww ?_
    refine Az (enc:=Ad) (xs:=x0.Aa) rfl rfl hxo1 rfl (ww ?_)
    obtain⟨t4,ht4,h⟩:=bi h
    refine cN [] (F119_ok ht4) trivial (ww ?_)
    refine AE h (fun c5 h=>ww ?_) (fun c5 h=>ww ?_)
    ·obtain⟨t6,ht6,h⟩:=bi h
     refine cN [] (F105_ok ht6) trivial (ww ?_)
     refine BE (enc:=Ad) (ys:=[(⟨(⟨xo1.Meta.Kind,xo1.Meta.Namespace,xo1.Meta.Name,xo1.Meta.Uid,xo1.Meta.Version,xo1.Meta.Ai,xo1.Meta.Created,xo1.Meta.Av,xo1.Meta.Ar,t6.1,t6.2.1,t6.2.2.1,t6.2.2.2.1⟩:Meta),(⟨t6.2.2.2.2.1,t6.2.2.2.2.2.1,t6.2.2.2.2.2.2.1,t6.2.2.2.2.2.2.2.1,t6.2.2.2.2.2.2.2.2.1⟩:Ab),(⟨t6.2.2.2.2.2.2.2.2.2.1,t6.2.2.2.2.2.2.2.2.2.2.1,t6.2.2.2.2.2.2.2.2.2.2.2.1,t6.2.2.2.2.2.2.2.2.2.2.2.2.1,t6.2.2.2.2.2.2.2.2.2.2.2.2.2⟩:Ab)⟩:Object)]) rfl rfl (by simp[A1.cells]) (by first|rfl|(simp only[List.drop_zero,Aw];rfl)|(simp only[lit,List.map_cons,List.map_nil,List.drop_zero,Aw,EE.down];done)|(simp only[lit,List.map_cons,List.map_nil,List.drop_zero,Aw,EE.down];rfl)) (ww ?_)
     obtain⟨a7,ha7,h⟩:=bi h
     refine D6 (enc:=Ad) (xs:=o1_0) rfl rfl (by first|rfl|simp only[List.length_set]|exact(AN (AX (by assumption))).symm) rfl (Co (enc:=Ad) (by first|rfl|simp only[List.length_set]|exact(AN (AX (by assumption))).symm) rfl) ha7 (ww ?_)
     cases h
     exact eM [some 0,some 1] rfl
    cases h
    exact eM [some 0,some 1] rfl
   rintro _ rfl
   clear ho
   refine ww ?_
   rw[AW (by omega)]
   exact eL' (x0.Aa.length-(o1_1+1)) [some 0,some 1] ⟨o1_1+1,o3,⟨by omega,rfl⟩,rfl,h⟩ (by omega)
  rw[A6 (show¬((o1_1:Int)<(x0.Aa.length:Int))from c2),F87_l1]at h
  refine ww ?_
  cases h
  exact eM [some 1] rfl
 rintro _ rfl
 clear ho
 refine ww ?_
 cases h
 exact eF [some 0]
def F47(x0:Ag)(x1:Cache):Option ((List Ah)×(List Object)):=(F34 x1.Filter).bind fun t1=>(F87 x0 x1.Filter).bind fun t2=>some ((t1,t2))
def a47:AFn:=⟨15,[(.cell 4 (some 6))],
 (.seq (.reg [Qg 2 0,
Qg 3 1,
sq 4 (.zbox [dS ⟨#[]⟩,dS ⟨#[]⟩,dN,dI 0,dB false,dN])])
 (.seq (.regd [Qb 5 0 3,
sd 6 (.load (some 3) (.t 5)) [0],
zn 7 (.call 34 [(.t 6)]) [0,1] [0,1],
Qb 8 0 2,
sd 9 (.load none (.t 8)) [3],
Qc 10 6 2,
Qb 11 0 3,
sd 12 (.load (some 3) (.t 11)) [6],
zl 13 (.call 87 [(.t 10),(.t 12)]) [0,1,2,5,6,7] [2,8],
zl 14 (.build [dS ⟨#[]⟩,dS ⟨#[]⟩,dN,dI 0,dB false,dN] [(0,3,(.t 7)),(3,1,(.t 9)),(4,1,(kB true)),(5,1,(.t 13))]) [0,1,2,3,4,5,6,7,8] [],
⟨none,none,.store 6 (.t 4) (.t 14),[0,1,2,3,4,5,6,7,8,9],(.lone [])⟩])
 .ret))⟩
theorem F47_ok{x0 x1 r}(h:F47 x0 x1=some r):An Tryz.prog 47 [.agg (AO x0),.agg (Ch x1)] [] (AL [.agg [dS x1.Filter.Kind,dS x1.Filter.Namespace,.own 0 0 0 (r.1.length) none,dI x0.Rev,dB true,.own 1 0 0 (r.2.length) none]]) [some (.arr 0 3 (r.1.map Al)),some (.arr 0 23 (r.2.map Ad))]:=by
 rw[F47]at h
 refine zc a47 (by kernel_rfl) rfl (ww ?_)
 obtain⟨t1,ht1,h⟩:=bi h
 refine cN [] (F34_ok ht1) trivial (ww ?_)
 refine B3 (by simp[wrs,B8,BV]) (ww ?_)
 obtain⟨t2,ht2,h⟩:=bi h
 refine cN [] (F87_ok ht2) trivial (ww ?_)
 cases h
 exact eF [some 3,some 4]
def F32(x0:Ag)(x1:ByteArray)(x2:Int):Option (Ag×Object×Int):=(F52 x0.Aa x1).bind fun t1=>(if t1<0 then some ((x0,(⟨(⟨(⟨#[]⟩:ByteArray),(⟨#[]⟩:ByteArray),(⟨#[]⟩:ByteArray),0,0,0,0,false,0,[],[],[],[]⟩:Meta),(⟨0,0,(⟨#[]⟩:ByteArray),[],[]⟩:Ab),(⟨0,0,(⟨#[]⟩:ByteArray),[],[]⟩:Ab)⟩:Object),7))else(rdI x0.Aa t1).bind fun y3=>(((if¬(x2=0)then some (decide (¬(x2=y3.Meta.Version)))else some false)).bind fun o4=>(if o4=true then some ((x0,(⟨(⟨(⟨#[]⟩:ByteArray),(⟨#[]⟩:ByteArray),(⟨#[]⟩:ByteArray),0,0,0,0,false,0,[],[],[],[]⟩:Meta),(⟨0,0,(⟨#[]⟩:ByteArray),[],[]⟩:Ab),(⟨0,0,(⟨#[]⟩:ByteArray),[],[]⟩:Ab)⟩:Object),9))else(if 1000000000000000≤x0.Rev then some ((x0,(⟨(⟨(⟨#[]⟩:ByteArray),(⟨#[]⟩:ByteArray),(⟨#[]⟩:ByteArray),0,0,0,0,false,0,[],[],[],[]⟩:Meta),(⟨0,0,(⟨#[]⟩:ByteArray),[],[]⟩:Ab),(⟨0,0,(⟨#[]⟩:ByteArray),[],[]⟩:Ab)⟩:Object),15))else(F58 x0 2 y3).bind fun t8=>some (((⟨t8.1,t8.2.1,x0.Am,t8.2.2.1,t8.2.2.2.1,t8.2.2.2.2⟩:Ag),(⟨(⟨y3.Meta.Kind,y3.Meta.Namespace,y3.Meta.Name,y3.Meta.Uid,(IntKind.i64.wrap (x0.Rev+1)),y3.Meta.Ai,y3.Meta.Created,y3.Meta.Av,y3.Meta.Ar,y3.Meta.Ax,y3.Meta.AF,y3.Meta.Au,y3.Meta.Aj⟩:Meta),y3.Spec,y3.Status⟩:Object),0))))))
def a32:AFn:=⟨48,[(.cell 6 (some 6)),(.cell 7 (some 23)),(.tmp 8)],
 (.seq (.reg [Qg 3 0,
sq 6 (.zbox [dI 0,dI 0,dI 0,dN,dN,dN]),
sq 7 (.zbox [dS ⟨#[]⟩,dS ⟨#[]⟩,dS ⟨#[]⟩,dI 0,dI 0,dI 0,dI 0,dB false,dI 0,dN,dN,dN,dN,dI 0,dI 0,dS ⟨#[]⟩,dN,dN,dI 0,dI 0,dS ⟨#[]⟩,dN,dN]),
Qe 8 0])
 (.seq (.reg [Qb 11 4 3,
Qd 12 11,
Qa 13 1,
Ql 14 52 12 13,
Qa 9 14])
 (.seq (.seq (.reg [Qa 15 9,
sq 16 (.bin .lss (.t 15) (kI 0))])
 (.cond (.t 16)
 (.seq (.reg [Qc 17 6 3,
sq 18 (.build [dS ⟨#[]⟩,dS ⟨#[]⟩,dS ⟨#[]⟩,dI 0,dI 0,dI 0,dI 0,dB false,dI 0,dN,dN,dN,dN,dI 0,dI 0,dS ⟨#[]⟩,dN,dN,dI 0,dI 0,dS ⟨#[]⟩,dN,dN] []),
su (.store 6 (.t 6) (.t 17)),
su (.store 23 (.t 7) (.t 18)),
Qe 8 7])
 .ret)
 .skip))
 (.seq (.reg [Qb 19 4 3,
Qd 20 19,
Qa 21 9,
Qp 22 23 20 21,
Qc 23 23 22,
sq 10 (.zbox [dS ⟨#[]⟩,dS ⟨#[]⟩,dS ⟨#[]⟩,dI 0,dI 0,dI 0,dI 0,dB false,dI 0,dN,dN,dN,dN,dI 0,dI 0,dS ⟨#[]⟩,dN,dN,dI 0,dI 0,dS ⟨#[]⟩,dN,dN]),
su (.store 23 (.t 10) (.t 23))])
 (.seq (.seq (.sem (.reg [Qa 24 2,
sq 25 (.bin .neq (.t 24) (kI 0)),
Qa 26 25,
Qv 27 26 true 2,
Qs 28 26 true 0 10,
Qs 29 26 true 4 28,
Qt 30 26 true 29,
zg 31 26 true (.bin .neq (.t 27) (.t 30)),
zl 32 (.pick (.t 26) (.t 31) (kB false)) [] [10,28,29]]))
 (.cond (.t 32)
 (.seq (.reg [Qc 33 6 3,
sq 34 (.build [dS ⟨#[]⟩,dS ⟨#[]⟩,dS ⟨#[]⟩,dI 0,dI 0,dI 0,dI 0,dB false,dI 0,dN,dN,dN,dN,dI 0,dI 0,dS ⟨#[]⟩,dN,dN,dI 0,dI 0,dS ⟨#[]⟩,dN,dN] []),
su (.store 6 (.t 6) (.t 33)),
su (.store 23 (.t 7) (.t 34)),
Qe 8 9])
 .ret)
 .skip))
 (.seq (.seq (.reg [Qb 35 0 3,
Qd 36 35,
sq 37 (.bin .geq (.t 36) (kI 1000000000000000))])
 (.cond (.t 37)
 (.seq (.reg [Qc 38 6 3,
sq 39 (.build [dS ⟨#[]⟩,dS ⟨#[]⟩,dS ⟨#[]⟩,dI 0,dI 0,dI 0,dI 0,dB false,dI 0,dN,dN,dN,dN,dI 0,dI 0,dS ⟨#[]⟩,dN,dN,dI 0,dI 0,dS ⟨#[]⟩,dN,dN] []),
su (.store 6 (.t 6) (.t 38)),
su (.store 23 (.t 7) (.t 39)),
Qe 8 15])
 .ret)
 .skip))
 (.seq (.reg [Qc 41 6 3,
Qc 42 23 10,
sq 43 (.call 58 [(.t 41),(kI 2),(.t 42)]),
Qa 40 43,
Qo 44 40 0,
Qo 45 40 1,
su (.store 6 (.t 3) (.t 44)),
su (.store 23 (.t 10) (.t 45))])
 (.seq (.regd [Qc 46 6 3,
Qc 47 23 10,
⟨none,none,.store 6 (.t 6) (.t 46),[0],(.lone [10])⟩,
⟨none,none,.store 23 (.t 7) (.t 47),[0,1,2],(.lone [])⟩,
sd 8 (.mv (kI 0)) [0,1,2,3]])
 .ret))))))))⟩
theorem F32_ok{x0 x1 x2 r}(h:F32 x0 x1 x2=some r):An Tryz.prog 32 [.agg (AO x0),.c (dS x1),.c (dI x2)] [] (AL [.agg (AO (r.1)),.agg (Bc (r.2.1)),.c (dI r.2.2)]) []:=by
 rw[F32]at h
 refine zc a32 (by kernel_rfl) rfl (ww ?_)
 obtain⟨t1,ht1,h⟩:=bi h
 refine cN [] (F52_ok ht1) trivial (ww ?_)
 refine AH h (fun c2 h=>ww ?_) (fun c2 h=>ww ?_)
 ·cases h
  exact eF []
 obtain⟨y3,hy3,h⟩:=bi h
 refine Az (enc:=Ad) (xs:=x0.Aa) rfl rfl hy3 rfl (ww ?_)
 obtain⟨o4,ho,h⟩:=bi h
 refine AB (fun s=>s=⟨[(3,Pz 0),(6,Pz 1),(7,Pz 2),(10,Pz 3),(32,oc (dB o4))],[xb (AO x0),xb [dI 0,dI 0,dI 0,dN,dN,dN],xb [dS ((⟨#[]⟩:ByteArray)),dS ((⟨#[]⟩:ByteArray)),dS ((⟨#[]⟩:ByteArray)),dI 0,dI 0,dI 0,dI 0,dB false,dI 0,dN,dN,dN,dN,dI 0,dI 0,dS ((⟨#[]⟩:ByteArray)),dN,dN,dI 0,dI 0,dS ((⟨#[]⟩:ByteArray)),dN,dN],xb (Bc y3)]⟩) ?_ ?_
 ·have h:=ho
  clear ho
  refine ww ?_
  refine Af h (fun g5 h=>ww ?_) (fun g5 h=>ww ?_)
  ·cases h
   exact eM [some 0,some 1,some 2,some 3] rfl
  cases h
  exact eM [some 0,some 1,some 2,some 3] rfl
 rintro _ rfl
 clear ho
 refine ww ?_
 refine AE h (fun c6 h=>ww ?_) (fun c6 h=>ww ?_)
 ·cases h
  exact eF []
 refine AH h (fun c7 h=>ww ?_) (fun c7 h=>ww ?_)
 ·cases h
  exact eF []
 obtain⟨t8,ht8,h⟩:=bi h
 refine cN [] (F58_ok ht8) trivial (ww ?_)
 cases h
 exact eF []
def F73(x0:Ag)(x1:TOp):Option (Int×Int):=(((if x1.Kind=2 then(F39 x1.O.Meta).bind fun t3=>some t3 else some x1.Key)).bind fun o1=>(((if x1.Version<0 then(F27 x0 o1).bind fun t6=>some ((t6.1).Meta.Version)else some x1.Version)).bind fun o4=>(if x1.Kind=2 then some ((o4,o4))else some ((x1.O.Meta.Version,o4)))))
def a73:AFn:=⟨43,[(.cell 4 (some 23)),(.tmp 5)],
 (.seq (.reg [Qg 2 0,
Qg 3 1,
sq 4 (.zbox [dS ⟨#[]⟩,dS ⟨#[]⟩,dS ⟨#[]⟩,dI 0,dI 0,dI 0,dI 0,dB false,dI 0,dN,dN,dN,dN,dI 0,dI 0,dS ⟨#[]⟩,dN,dN,dI 0,dI 0,dS ⟨#[]⟩,dN,dN]),
Qe 5 0])
 (.seq (.reg [Qb 11 24 3,
Qd 12 11,
Qa 6 12])
 (.seq (.sem (.seq (.reg [Qb 13 0 3,
Qd 14 13,
Qr 15 14 2])
 (.cond (.t 15)
 (.reg [Qb 16 1 3,
Qb 17 0 16,
Qc 18 13 17,
Qk 19 39 18,
Qa 6 19])
 .skip)))
 (.seq (.reg [Qb 20 25 3,
Qd 21 20,
Qa 7 21])
 (.seq (.sem (.seq (.reg [Qa 22 7,
sq 23 (.bin .lss (.t 22) (kI 0))])
 (.cond (.t 23)
 (.seq (.reg [Qc 25 6 2,
Qa 26 6,
Ql 27 27 25 26,
Qa 24 27,
Qo 28 24 0,
Qo 29 24 1,
sq 8 (.zbox [dS ⟨#[]⟩,dS ⟨#[]⟩,dS ⟨#[]⟩,dI 0,dI 0,dI 0,dI 0,dB false,dI 0,dN,dN,dN,dN,dI 0,dI 0,dS ⟨#[]⟩,dN,dN,dI 0,dI 0,dS ⟨#[]⟩,dN,dN]),
su (.store 23 (.t 8) (.t 28)),
Qa 9 29])
 (.reg [Qb 30 0 8,
Qb 31 4 30,
Qd 32 31,
Qa 7 32]))
 .skip)))
 (.seq (.reg [Qb 33 1 3,
Qc 34 23 33,
sq 10 (.zbox [dS ⟨#[]⟩,dS ⟨#[]⟩,dS ⟨#[]⟩,dI 0,dI 0,dI 0,dI 0,dB false,dI 0,dN,dN,dN,dN,dI 0,dI 0,dS ⟨#[]⟩,dN,dN,dI 0,dI 0,dS ⟨#[]⟩,dN,dN]),
su (.store 23 (.t 10) (.t 34))])
 (.seq (.seq (.reg [Qb 35 0 3,
Qd 36 35,
Qr 37 36 2])
 (.cond (.t 37)
 (.reg [Qa 38 7,
Qb 39 0 10,
Qb 40 4 39,
⟨none,none,.store 1 (.t 40) (.t 38),[],(.lone [10,39])⟩])
 .skip))
 (.seq (.reg [Qc 41 23 10,
Qa 42 7,
su (.store 23 (.t 4) (.t 41)),
Qa 5 42])
 .ret))))))))⟩
theorem F73_ok{x0 x1 r}(h:F73 x0 x1=some r):An Tryz.prog 73 [.agg (AO x0),.agg (WS x1)] [] (AL [.agg [dS x1.O.Meta.Kind,dS x1.O.Meta.Namespace,dS x1.O.Meta.Name,dI x1.O.Meta.Uid,dI r.1,dI x1.O.Meta.Ai,dI x1.O.Meta.Created,dB x1.O.Meta.Av,dI x1.O.Meta.Ar,dM (x1.O.Meta.Ax.map AY),dM (x1.O.Meta.AF.map A3),dM (x1.O.Meta.Au.map eS),dM (x1.O.Meta.Aj.map AG),dI x1.O.Spec.Kind,dI x1.O.Spec.N,dS x1.O.Spec.S,dM (x1.O.Spec.At.map Ap),dM (x1.O.Spec.Ae.map Ao),dI x1.O.Status.Kind,dI x1.O.Status.N,dS x1.O.Status.S,dM (x1.O.Status.At.map Ap),dM (x1.O.Status.Ae.map Ao)],.c (dI r.2)]) []:=by
 rw[F73]at h
 refine zc a73 (by kernel_rfl) rfl (ww ?_)
 obtain⟨o1,ho,h⟩:=bi h
 refine AB (fun s=>s=⟨[(2,Pz 0),(3,Pz 1),(4,Pz 2),(6,oc (dS o1))],[xb (AO x0),xb (WS x1),xb [dS ((⟨#[]⟩:ByteArray)),dS ((⟨#[]⟩:ByteArray)),dS ((⟨#[]⟩:ByteArray)),dI 0,dI 0,dI 0,dI 0,dB false,dI 0,dN,dN,dN,dN,dI 0,dI 0,dS ((⟨#[]⟩:ByteArray)),dN,dN,dI 0,dI 0,dS ((⟨#[]⟩:ByteArray)),dN,dN]]⟩) ?_ ?_
 ·have h:=ho
  clear ho
  refine ww ?_
  refine AH h (fun c2 h=>ww ?_) (fun c2 h=>ww ?_)
  ·obtain⟨t3,ht3,h⟩:=bi h
   refine cN [] (F39_ok ht3) trivial (ww ?_)
   cases h
   exact eM [some 0,some 1,some 2] rfl
  cases h
  exact eM [some 0,some 1,some 2] rfl
 rintro _ rfl
 clear ho
 refine ww ?_
 obtain⟨o4,ho,h⟩:=bi h
 refine AB (fun s=>s=⟨[(3,Pz 0),(4,Pz 1),(7,oc (dI o4))],[xb (WS x1),xb [dS ((⟨#[]⟩:ByteArray)),dS ((⟨#[]⟩:ByteArray)),dS ((⟨#[]⟩:ByteArray)),dI 0,dI 0,dI 0,dI 0,dB false,dI 0,dN,dN,dN,dN,dI 0,dI 0,dS ((⟨#[]⟩:ByteArray)),dN,dN,dI 0,dI 0,dS ((⟨#[]⟩:ByteArray)),dN,dN]]⟩) ?_ ?_
 ·have h:=ho
  clear ho
  refine ww ?_
  refine AH h (fun c5 h=>ww ?_) (fun c5 h=>ww ?_)
  ·obtain⟨t6,ht6,h⟩:=bi h
   refine cN [] (F27_ok ht6) trivial (ww ?_)
   cases h
   exact eM [some 1,some 2] rfl
  cases h
  exact eM [some 1,some 2] rfl
 rintro _ rfl
 clear ho
 refine ww ?_
 refine AH h (fun c7 h=>ww ?_) (fun c7 h=>ww ?_)
 ·cases h
  exact eF []
 cases h
 exact eF []
end Go.Proofs.YtdkmamiedcanfaaGreat
