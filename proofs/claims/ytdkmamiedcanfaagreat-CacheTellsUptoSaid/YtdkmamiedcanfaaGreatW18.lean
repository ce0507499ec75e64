/- Each Go function as a function over typed data, and its walk. -/
import Derived.Test.YtdkmamiedcanfaaGreatW0
import Derived.Test.YtdkmamiedcanfaaGreatW6
import Derived.Test.YtdkmamiedcanfaaGreatW7
import Derived.Test.YtdkmamiedcanfaaGreatW8
import Derived.Test.YtdkmamiedcanfaaGreatW12
import Derived.Test.YtdkmamiedcanfaaGreatW13
import Derived.Test.YtdkmamiedcanfaaGreatW14
namespace Go.Proofs.YtdkmamiedcanfaaGreat
open Go Go.Fw Go.Shelf
set_option maxRecDepth 100000
set_option maxHeartbeats 4000000
set_option linter.unusedSimpArgs false
set_option linter.unusedVariables false
def F7(x0:(List TOp))(x1:Cache)(x2:Int)(x3:ByteArray):Option (Bool):=(((F19 x0).bind fun t2=>(if(nb t2)=true then some true else(F8 x1).bind fun t4=>(if(nb t4)=true then some true else(if 200<(x3.size:Int)then some true else some x1.Bq)))).bind fun o1=>(if o1=true then(F10).bind fun t8=>some t8 else(F20 x0).bind fun t9=>(F21 ((⟨(t9).Rev,(t9).As,(t9).Am,(t9).Bt,(t9).Aa,(t9).Ac⟩:Ag)) x1 x2).bind fun t10=>(if(nb t10.2.2.2.2)=true then(F10).bind fun t12=>some t12 else(F13 ((⟨(⟨x1.Filter.Kind,x1.Filter.Namespace,t10.1⟩:Filter),t10.2.1,t10.2.2.1,t10.2.2.2.1⟩:Cache)) x3).bind fun t13=>(F27 ((⟨(t9).Rev,(t9).As,(t9).Am,(t9).Bt,(t9).Aa,(t9).Ac⟩:Ag)) x3).bind fun t14=>(((if t14.2=true then(F28 x1.Filter ((⟨(⟨(t14.1).Meta.Kind,(t14.1).Meta.Namespace,(t14.1).Meta.Name,(t14.1).Meta.Uid,(t14.1).Meta.Version,(t14.1).Meta.Ai,(t14.1).Meta.Created,(t14.1).Meta.Av,(t14.1).Meta.Ar,(t14.1).Meta.Ax,(t14.1).Meta.AF,(t14.1).Meta.Au,(t14.1).Meta.Aj⟩:Meta),(⟨(t14.1).Spec.Kind,(t14.1).Spec.N,(t14.1).Spec.S,(t14.1).Spec.At,(t14.1).Spec.Ae⟩:Ab),(⟨(t14.1).Status.Kind,(t14.1).Status.N,(t14.1).Status.S,(t14.1).Status.At,(t14.1).Status.Ae⟩:Ab)⟩:Object))).bind fun t17=>some t17 else some false)).bind fun o15=>(((if(((t13.2.2.2.2.2.2.2.2.2.2.2.2.2.2.2.2.2.2.2.2.2.2.2==o15)!=false))=true then(if(nb o15)=true then(F10).bind fun t21=>some t21 else(F16 ((⟨(⟨t13.1,t13.2.1,t13.2.2.1,t13.2.2.2.1,t13.2.2.2.2.1,t13.2.2.2.2.2.1,t13.2.2.2.2.2.2.1,t13.2.2.2.2.2.2.2.1,t13.2.2.2.2.2.2.2.2.1,t13.2.2.2.2.2.2.2.2.2.1,t13.2.2.2.2.2.2.2.2.2.2.1,t13.2.2.2.2.2.2.2.2.2.2.2.1,t13.2.2.2.2.2.2.2.2.2.2.2.2.1⟩:Meta),(⟨t13.2.2.2.2.2.2.2.2.2.2.2.2.2.1,t13.2.2.2.2.2.2.2.2.2.2.2.2.2.2.1,t13.2.2.2.2.2.2.2.2.2.2.2.2.2.2.2.1,t13.2.2.2.2.2.2.2.2.2.2.2.2.2.2.2.2.1,t13.2.2.2.2.2.2.2.2.2.2.2.2.2.2.2.2.2.1⟩:Ab),(⟨t13.2.2.2.2.2.2.2.2.2.2.2.2.2.2.2.2.2.2.1,t13.2.2.2.2.2.2.2.2.2.2.2.2.2.2.2.2.2.2.2.1,t13.2.2.2.2.2.2.2.2.2.2.2.2.2.2.2.2.2.2.2.2.1,t13.2.2.2.2.2.2.2.2.2.2.2.2.2.2.2.2.2.2.2.2.2.1,t13.2.2.2.2.2.2.2.2.2.2.2.2.2.2.2.2.2.2.2.2.2.2.1⟩:Ab)⟩:Object)) ((⟨(⟨(t14.1).Meta.Kind,(t14.1).Meta.Namespace,(t14.1).Meta.Name,(t14.1).Meta.Uid,(t14.1).Meta.Version,(t14.1).Meta.Ai,(t14.1).Meta.Created,(t14.1).Meta.Av,(t14.1).Meta.Ar,(t14.1).Meta.Ax,(t14.1).Meta.AF,(t14.1).Meta.Au,(t14.1).Meta.Aj⟩:Meta),(⟨(t14.1).Spec.Kind,(t14.1).Spec.N,(t14.1).Spec.S,(t14.1).Spec.At,(t14.1).Spec.Ae⟩:Ab),(⟨(t14.1).Status.Kind,(t14.1).Status.N,(t14.1).Status.S,(t14.1).Status.At,(t14.1).Status.Ae⟩:Ab)⟩:Object))).bind fun t22=>(if t22=true then(F10).bind fun t24=>some t24 else some false))else some false)).bind fun o18=>some o18)))))
def a7:AFn:=⟨81,[(.tmp 8)],
 (.seq (.reg [Qg 5 1,
Qf 8 false])
 (.seq (.seq (.sem (.reg [Qa 17 0,
Qk 18 19 17,
Qq 19 18,
Qa 20 19,
Qu 21 20 false 6 5,
zg 22 20 false (.call 8 [(.t 21)]),
zg 23 20 false (.not (.t 22)),
Qj 24 20 23,
Qa 25 24,
Qv 26 25 false 3,
zg 27 25 false (.slen (.t 26)),
zg 28 25 false (.bin .gtr (.t 27) (kI 200)),
Qj 29 25 28,
Qa 30 29,
Qs 31 30 false 4 5,
Qt 32 30 false 31,
Qj 33 30 32]))
 (.cond (.t 33)
 (.seq (.reg [sq 34 (.call 10 []),
Qa 8 34])
 .ret)
 .skip))
 (.seq (.reg [Qa 35 0,
Qk 36 20 35,
sq 9 (.zbox [dI 0,dI 0,dI 0,dN,dN,dN]),
su (.store 6 (.t 9) (.t 36))])
 (.seq (.reg [Qc 38 6 9,
Qc 39 6 5,
Qa 40 2,
sq 41 (.call 21 [(.t 38),(.t 39),(.t 40)]),
Qa 37 41,
Qo 42 37 0,
Qo 43 37 1,
sq 10 (.zbox [dS ⟨#[]⟩,dS ⟨#[]⟩,dN,dI 0,dB false,dN]),
su (.store 6 (.t 10) (.t 42)),
Qa 11 43])
 (.seq (.seq (.reg [Qa 44 11,
Qq 45 44])
 (.cond (.t 45)
 (.seq (.reg [sq 46 (.call 10 []),
Qa 8 46])
 .ret)
 .skip))
 (.seq (.reg [Qc 48 6 10,
Qa 49 3,
Ql 50 13 48 49,
Qa 47 50,
Qo 51 47 0,
Qo 52 47 1,
sq 12 (.zbox [dS ⟨#[]⟩,dS ⟨#[]⟩,dS ⟨#[]⟩,dI 0,dI 0,dI 0,dI 0,dB false,dI 0,dN,dN,dN,dN,dI 0,dI 0,dS ⟨#[]⟩,dN,dN,dI 0,dI 0,dS ⟨#[]⟩,dN,dN]),
su (.store 23 (.t 12) (.t 51)),
Qa 13 52])
 (.seq (.reg [Qc 54 6 9,
Qa 55 3,
Ql 56 27 54 55,
Qa 53 56,
Qo 57 53 0,
Qo 58 53 1,
sq 14 (.zbox [dS ⟨#[]⟩,dS ⟨#[]⟩,dS ⟨#[]⟩,dI 0,dI 0,dI 0,dI 0,dB false,dI 0,dN,dN,dN,dN,dI 0,dI 0,dS ⟨#[]⟩,dN,dN,dI 0,dI 0,dS ⟨#[]⟩,dN,dN]),
su (.store 23 (.t 14) (.t 57)),
Qa 15 58])
 (.seq (.sem (.reg [Qa 59 15,
Qa 60 59,
Qs 61 60 true 0 5,
Qu 62 60 true 3 61,
Qu 63 60 true 23 14,
zg 64 60 true (.call 28 [(.t 62),(.t 63)]),
Qi 65 60 64,
Qa 16 65]))
 (.seq (.sem (.reg [Qa 66 13,
Qa 67 16,
sq 68 (.beq false (.t 66) (.t 67)),
Qa 69 68,
Qv 70 69 true 16,
zg 71 69 true (.not (.t 70)),
Qv 72 69 true 71,
Qu 73 72 false 23 12,
Qu 74 72 false 23 14,
zg 75 72 false (.call 16 [(.t 73),(.t 74)]),
zg 76 69 true (.pick (.t 72) (kB true) (.t 75)),
Qi 77 69 76,
Qa 78 77,
zg 79 78 true (.call 10 []),
Qi 80 78 79,
Qa 8 80]))
 .ret)))))))))⟩
theorem F7_ok{x0 x1 x2 x3 r}(h:F7 x0 x1 x2 x3=some r):An Tryz.prog 7 [.c (dM (x0.map EX)),.agg (Ch x1),.c (dI x2),.c (dS x3)] [] (AL [.c (dB r)]) []:=by
 rw[F7]at h
 refine zc a7 (by kernel_rfl) rfl (ww ?_)
 obtain⟨o1,ho,h⟩:=bi h
 refine AB (fun s=>s=⟨[(0,oc (dM (x0.map EX))),(2,oc (dI x2)),(3,oc (dS x3)),(5,Pz 0),(33,oc (dB o1))],[xb (Ch x1)]⟩) ?_ ?_
 ·have h:=ho
  clear ho
  refine ww ?_
  obtain⟨t2,ht2,h⟩:=bi h
  refine cN [] (F19_ok ht2) trivial (ww ?_)
  refine AM h (fun g3 h=>ww ?_) (fun g3 h=>ww ?_)
  ·cases h
   exact eM [some 0] rfl
  obtain⟨t4,ht4,h⟩:=bi h
  refine cN [] (F8_ok ht4) trivial (ww ?_)
  refine AM h (fun g5 h=>ww ?_) (fun g5 h=>ww ?_)
  ·cases h
   exact eM [some 0] rfl
  refine Af h (fun g6 h=>ww ?_) (fun g6 h=>ww ?_)
  ·cases h
   exact eM [some 0] rfl
  cases h
  exact eM [some 0] rfl
 rintro _ rfl
 clear ho
 refine ww ?_
 refine AE h (fun c7 h=>ww ?_) (fun c7 h=>ww ?_)
 ·obtain⟨t8,ht8,h⟩:=bi h
  refine cN [] (F10_ok ht8) trivial (ww ?_)
  cases h
  exact eF []
 obtain⟨t9,ht9,h⟩:=bi h
 refine cN [] (F20_ok ht9) trivial (ww ?_)
 obtain⟨t10,ht10,h⟩:=bi h
 refine cN [] (F21_ok ht10) trivial (ww ?_)
 refine AE h (fun c11 h=>ww ?_) (fun c11 h=>ww ?_)
 ·obtain⟨t12,ht12,h⟩:=bi h
  refine cN [] (F10_ok ht12) trivial (ww ?_)
  cases h
  exact eF []
 obtain⟨t13,ht13,h⟩:=bi h
 refine Ce (as1:=[.agg [dS x1.Filter.Kind,dS x1.Filter.Namespace,dM (t10.1.map Al),dI t10.2.1,dB t10.2.2.1,dM (t10.2.2.2.1.map Ad)],.c (dS x3)]) [(2,.arr 1 3 []),(3,.arr 1 23 []),(4,.box [dS x1.Filter.Kind,dS x1.Filter.Namespace,.own 2 0 0 0 (some 0),dI t10.2.1,dB t10.2.2.1,.own 3 0 0 0 (some 0)])] [some 0,some 1,none,none,some 4] [] (F13_ok ht13) ⟨?_,rfl,?_⟩ ?_ ?_ ?_ ?_ ?_ ?_ ?_ ?_
 ·simp only[ZZ.down,Nat.reduceEqDiff,reduceCtorEq,Nat.reduceAdd,Nat.reduceLeDiff,Nat.reduceLT,Nat.reduceBNe,EE.down]
 ·simp only[ZZ.down,Nat.reduceEqDiff,reduceCtorEq,Nat.reduceAdd,Nat.reduceLeDiff,Nat.reduceLT,Nat.reduceBNe,EE.down]
 ·simp only[ZZ.down,Nat.reduceEqDiff,reduceCtorEq,Nat.reduceAdd,Nat.reduceLeDiff,Nat.reduceLT,Nat.reduceBNe,EE.down]
 ·rfl
 ·rfl
 ·simp[Cj,A1.live,C.live]
 ·rfl
 ·decide
 ·exact trivial
 refine ww ?_
 obtain⟨t14,ht14,h⟩:=bi h
 refine cN [] (F27_ok ht14) trivial (ww ?_)
 obtain⟨o15,ho,h⟩:=bi h
 refine AB (fun s=>s=⟨[(12,Pz 0),(13,oc (dB t13.2.2.2.2.2.2.2.2.2.2.2.2.2.2.2.2.2.2.2.2.2.2.2)),(14,Pz 9),(16,oc (dB o15))],[xb [dS t13.1,dS t13.2.1,dS t13.2.2.1,dI t13.2.2.2.1,dI t13.2.2.2.2.1,dI t13.2.2.2.2.2.1,dI t13.2.2.2.2.2.2.1,dB t13.2.2.2.2.2.2.2.1,dI t13.2.2.2.2.2.2.2.2.1,.own 1 0 0 (t13.2.2.2.2.2.2.2.2.2.1.length) none,.own 2 0 0 (t13.2.2.2.2.2.2.2.2.2.2.1.length) none,.own 3 0 0 (t13.2.2.2.2.2.2.2.2.2.2.2.1.length) none,.own 4 0 0 (t13.2.2.2.2.2.2.2.2.2.2.2.2.1.length) none,dI t13.2.2.2.2.2.2.2.2.2.2.2.2.2.1,dI t13.2.2.2.2.2.2.2.2.2.2.2.2.2.2.1,dS t13.2.2.2.2.2.2.2.2.2.2.2.2.2.2.2.1,.own 5 0 0 (t13.2.2.2.2.2.2.2.2.2.2.2.2.2.2.2.2.1.length) none,.own 6 0 0 (t13.2.2.2.2.2.2.2.2.2.2.2.2.2.2.2.2.2.1.length) none,dI t13.2.2.2.2.2.2.2.2.2.2.2.2.2.2.2.2.2.2.1,dI t13.2.2.2.2.2.2.2.2.2.2.2.2.2.2.2.2.2.2.2.1,dS t13.2.2.2.2.2.2.2.2.2.2.2.2.2.2.2.2.2.2.2.2.1,.own 7 0 0 (t13.2.2.2.2.2.2.2.2.2.2.2.2.2.2.2.2.2.2.2.2.2.1.length) none,.own 8 0 0 (t13.2.2.2.2.2.2.2.2.2.2.2.2.2.2.2.2.2.2.2.2.2.2.1.length) none],some (.arr 0 2 (t13.2.2.2.2.2.2.2.2.2.1.map AY)),some (.arr 0 5 (t13.2.2.2.2.2.2.2.2.2.2.1.map A3)),some (.arr 0 1 (t13.2.2.2.2.2.2.2.2.2.2.2.1.map eS)),some (.arr 0 2 (t13.2.2.2.2.2.2.2.2.2.2.2.2.1.map AG)),some (.arr 0 5 (t13.2.2.2.2.2.2.2.2.2.2.2.2.2.2.2.2.1.map Ap)),some (.arr 0 6 (t13.2.2.2.2.2.2.2.2.2.2.2.2.2.2.2.2.2.1.map Ao)),some (.arr 0 5 (t13.2.2.2.2.2.2.2.2.2.2.2.2.2.2.2.2.2.2.2.2.2.1.map Ap)),some (.arr 0 6 (t13.2.2.2.2.2.2.2.2.2.2.2.2.2.2.2.2.2.2.2.2.2.2.1.map Ao)),xb (Bc (t14.1))]⟩) ?_ ?_
 ·have h:=ho
  clear ho
  refine ww ?_
  refine AM h (fun g16 h=>ww ?_) (fun g16 h=>ww ?_)
  ·obtain⟨t17,ht17,h⟩:=bi h
   refine cN [] (F28_ok ht17) trivial (ww ?_)
   cases h
   exact eM [some 13,some 5,some 6,some 7,some 8,some 9,some 10,some 11,some 12,some 14] rfl
  cases h
  exact eM [some 13,some 5,some 6,some 7,some 8,some 9,some 10,some 11,some 12,some 14] rfl
 rintro _ rfl
 clear ho
 refine ww ?_
 obtain⟨o18,ho,h⟩:=bi h
 refine AB (fun s=>s=⟨[(8,oc (dB o18))],[]⟩) ?_ ?_
 ·have h:=ho
  clear ho
  refine ww ?_
  refine AM h (fun g19 h=>ww ?_) (fun g19 h=>ww ?_)
  ·refine AM h (fun g20 h=>ww ?_) (fun g20 h=>ww ?_)
   ·obtain⟨t21,ht21,h⟩:=bi h
    refine cN [] (F10_ok ht21) trivial (ww ?_)
    cases h
    exact eM [] rfl
   obtain⟨t22,ht22,h⟩:=bi h
   refine D8 (F16_ok ht22) (by simp only[Fm,Fs,hp,List.getElem?_cons_zero,List.getElem?_cons_succ,Option.join_some,List.drop_zero,BB,true_and,Nat.zero_add,List.length_map,Nat.le_refl,nrm,List.length_cons,List.length_nil,Nat.reduceAdd,Nat.reduceLeDiff,List.take_succ_cons,List.take_zero,List.take_nil,List.map_cons,List.map_nil,List.length_set,EE.down]) rfl ?_
   refine ww ?_
   refine AM h (fun g23 h=>ww ?_) (fun g23 h=>ww ?_)
   ·obtain⟨t24,ht24,h⟩:=bi h
    refine cN [] (F10_ok ht24) trivial (ww ?_)
    cases h
    exact eM [] rfl
   cases h
   exact eM [] rfl
  cases h
  exact eM [] rfl
 rintro _ rfl
 clear ho
 refine ww ?_
 cases h
 exact eF []
end Go.Proofs.YtdkmamiedcanfaaGreat
