/- Each Go function as a function over typed data, and its walk. -/
import Derived.Test.YtdkmamiedcanfaaGreatW0
import Derived.Test.YtdkmamiedcanfaaGreatW4
import Derived.Test.YtdkmamiedcanfaaGreatW6
import Derived.Test.YtdkmamiedcanfaaGreatW7
import Derived.Test.YtdkmamiedcanfaaGreatW8
import Derived.Test.YtdkmamiedcanfaaGreatW9
import Derived.Test.YtdkmamiedcanfaaGreatW12
import Derived.Test.YtdkmamiedcanfaaGreatW13
import Derived.Test.YtdkmamiedcanfaaGreatW14
import Derived.Test.YtdkmamiedcanfaaGreatW15
namespace Go.Proofs.YtdkmamiedcanfaaGreat
open Go Go.Fw Go.Shelf
set_option maxRecDepth 100000
set_option maxHeartbeats 4000000
set_option linter.unusedSimpArgs false
set_option linter.unusedVariables false
def F122(x0:Filter)(x1:Object):Option (Bool):=(F28 x0 x1).bind fun t1=>some t1
def a122:AFn:=⟨8,[(.tmp 4)],
 (.seq (.reg [Qg 2 0,
Qg 3 1,
Qf 4 false])
 (.seq (.reg [Qc 5 3 2,
Qc 6 23 3,
Ql 7 28 5 6,
Qa 4 7])
 .ret))⟩
theorem F122_ok{x0 x1 r}(h:F122 x0 x1=some r):An Tryz.prog 122 [.agg (Bj x0),.agg (Bc x1)] [] (AL [.c (dB r)]) []:=by
 rw[F122]at h
 refine zc a122 (by kernel_rfl) rfl (ww ?_)
 obtain⟨t1,ht1,h⟩:=bi h
 refine cN [] (F28_ok ht1) trivial (ww ?_)
 cases h
 exact eF []
def F90(x0:Filter)(x1:(List Object))(x2:Change):Option (Int):=(F39 x2.Object.Meta).bind fun t1=>(F52 x1 t1).bind fun t2=>(((if 0≤t2 then(rdI x1 t2).bind fun y5=>(F122 x0 y5).bind fun t6=>some t6 else some false)).bind fun o3=>(((if x2.Kind=1 then(F122 x0 x2.Object).bind fun t9=>some t9 else some false)).bind fun o7=>(((if o7=true then some o3 else some false)).bind fun o10=>(if o10=true then some 2 else(if o7=true then some 1 else(if o3=true then some 3 else some 0))))))
def a90:AFn:=⟨44,[(.tmp 6)],
 (.seq (.reg [Qg 3 0,
Qg 5 2,
Qe 6 0])
 (.seq (.reg [Qa 10 1,
Qb 11 2 5,
Qb 12 0 11,
Qc 13 13 12,
Qk 14 39 13,
Ql 15 52 10 14,
Qa 7 15])
 (.seq (.sem (.regd [Qa 16 7,
sd 17 (.bin .geq (.t 16) (kI 0)) [0],
sd 18 (.mv (.t 17)) [0,1],
⟨(some 19),(some (18,true)),.load (some 3) (.t 3),[0,1,2],(.new [])⟩,
⟨(some 20),(some (18,true)),.mv (.t 1),[0,1,2],(.new [])⟩,
⟨(some 21),(some (18,true)),.mv (.t 7),[0,1,2],(.new [])⟩,
⟨(some 22),(some (18,true)),.indexA 23 (.t 20) (.t 21),[0,1,2,4,5],(.new [])⟩,
⟨(some 23),(some (18,true)),.load (some 23) (.t 22),[0,1,2,4,5,6],(.new [])⟩,
⟨(some 24),(some (18,true)),.call 122 [(.t 19),(.t 23)],[0,1,2,3,4,5,6,7],(.lone [])⟩,
zl 25 (.pick (.t 18) (.t 24) (kB false)) [0,1,2,3,4,5,6,7,8] [],
sd 8 (.mv (.t 25)) [0,1,2,3,4,5,6,7,8,9]]))
 (.seq (.sem (.reg [Qb 26 1 5,
Qd 27 26,
Qr 28 27 1,
Qa 29 28,
Qu 30 29 true 3 3,
Qs 31 29 true 2 5,
Qu 32 29 true 23 31,
zg 33 29 true (.call 122 [(.t 30),(.t 32)]),
Qi 34 29 33,
Qa 9 34]))
 (.seq (.block 0 (.seq (.sem (.reg [Qa 36 9,
Qa 37 36,
Qv 38 37 true 8,
Qi 39 37 38,
Qa 35 39]))
 (.cond (.t 35)
 (.seq (.reg [Qe 6 2])
 .ret)
 (.seq (.reg [Qa 41 9,
Qa 40 41])
 (.cond (.t 40)
 (.seq (.reg [Qe 6 1])
 .ret)
 (.seq (.reg [Qa 43 8,
Qa 42 43])
 (.cond (.t 42)
 (.seq (.reg [Qe 6 3])
 .ret)
 .skip)))))))
 (.seq (.reg [Qe 6 0])
 .ret))))))⟩
theorem F90_ok{x0 x1 x2 r}(h:F90 x0 x1 x2=some r):An Tryz.prog 90 [.agg (Bj x0),.c (dM (x1.map Ad)),.agg (EY x2)] [] (AL [.c (dI r)]) []:=by
 rw[F90]at h
 refine zc a90 (by kernel_rfl) rfl (ww ?_)
 obtain⟨t1,ht1,h⟩:=bi h
 refine cN [] (F39_ok ht1) trivial (ww ?_)
 obtain⟨t2,ht2,h⟩:=bi h
 refine cN [] (F52_ok ht2) trivial (ww ?_)
 obtain⟨o3,ho,h⟩:=bi h
 refine AB (fun s=>s=⟨[(3,Pz 0),(5,Pz 1),(8,oc (dB o3))],[xb (Bj x0),xb (EY x2)]⟩) ?_ ?_
 ·have h:=ho
  clear ho
  refine ww ?_
  refine B4 h (fun g4 h=>ww ?_) (fun g4 h=>ww ?_)
  ·obtain⟨y5,hy5,h⟩:=bi h
   refine Az (enc:=Ad) (xs:=x1) rfl rfl hy5 rfl (ww ?_)
   obtain⟨t6,ht6,h⟩:=bi h
   refine cN [] (F122_ok ht6) trivial (ww ?_)
   cases h
   exact eM [some 0,some 1] rfl
  cases h
  exact eM [some 0,some 1] rfl
 rintro _ rfl
 clear ho
 refine ww ?_
 obtain⟨o7,ho,h⟩:=bi h
 refine AB (fun s=>s=⟨[(8,oc (dB o3)),(9,oc (dB o7))],[]⟩) ?_ ?_
 ·have h:=ho
  clear ho
  refine ww ?_
  refine Af h (fun g8 h=>ww ?_) (fun g8 h=>ww ?_)
  ·obtain⟨t9,ht9,h⟩:=bi h
   refine cN [] (F122_ok ht9) trivial (ww ?_)
   cases h
   exact eM [] rfl
  cases h
  exact eM [] rfl
 rintro _ rfl
 clear ho
 refine ww ?_
 obtain⟨o10,ho,h⟩:=bi h
 refine AB (fun s=>s=⟨[(8,oc (dB o3)),(9,oc (dB o7)),(35,oc (dB o10))],[]⟩) ?_ ?_
 ·have h:=ho
  clear ho
  refine ww ?_
  refine AM h (fun g11 h=>ww ?_) (fun g11 h=>ww ?_)
  ·cases h
   exact eM [] rfl
  cases h
  exact eM [] rfl
 rintro _ rfl
 clear ho
 refine ww ?_
 refine AE h (fun c12 h=>ww ?_) (fun c12 h=>ww ?_)
 ·cases h
  exact eF []
 refine AE h (fun c13 h=>ww ?_) (fun c13 h=>ww ?_)
 ·cases h
  exact eF []
 refine AE h (fun c14 h=>ww ?_) (fun c14 h=>ww ?_)
 ·cases h
  exact eF []
 cases h
 exact eF []
def F49_l4(x0:Ag)(x1:Ck)(x2:Int):Nat→(List Object)→Int→(List Event)→Int→Option ((Int×(List Event)×Int) ⊕ (Int×(List Event)))
 |0,_,_,_,_=>none
 |k+1,o4_0,o4_1,o4_2,o4_3=>(if o4_3<(x0.Ac.length:Int)then(((rdI x0.Ac o4_3).bind fun y7=>(F90 x1.Filter o4_0 y7).bind fun t8=>(F91 o4_0 y7).bind fun t9=>(if t8=0 then some (Sum.inr ((t9,o4_1,o4_2)))else(apI o4_2 ([(⟨t8,y7.Rev,y7.Object⟩:Event)])).bind fun a11=>(if x2≤(a11.length:Int)then((some ((y7.Rev,a11,0))).map Sum.inl).map Sum.inl else some (Sum.inr ((t9,y7.Rev,a11))))):Option (((Int×(List Event)×Int) ⊕ (Int×(List Event))) ⊕ ((List Object)×Int×(List Event)))).bind fun o6=>match o6 with|Sum.inl f=>some f|Sum.inr po6=>F49_l4 x0 x1 x2 k po6.1 po6.2.1 po6.2.2 ((IntKind.i64.wrap (o4_3+1))))else some (Sum.inr ((o4_1,o4_2))))
def F49(x0:Ag)(x1:Ck)(x2:Int):Option (Int×(List Event)×Int):=(F50 x0 x1.Filter x1.Rev).bind fun t1=>(if¬(t1=0)then some ((x1.Rev,[],t1))else(F89 x0 x1.Rev).bind fun t3=>((F49_l4 x0 x1 x2 1099511627776 t3.1 x1.Rev ([]) ((IntKind.i64.wrap (x1.Rev-x0.As))):Option ((Int×(List Event)×Int) ⊕ (Int×(List Event)))).bind fun o4=>match o4 with|Sum.inl f=>some f|Sum.inr po4=>(((if po4.1<x0.Rev then(apI po4.2 ([(⟨4,x0.Rev,(⟨(⟨(⟨#[]⟩:ByteArray),(⟨#[]⟩:ByteArray),(⟨#[]⟩:ByteArray),0,0,0,0,false,0,[],[],[],[]⟩:Meta),(⟨0,0,(⟨#[]⟩:ByteArray),[],[]⟩:Ab),(⟨0,0,(⟨#[]⟩:ByteArray),[],[]⟩:Ab)⟩:Object)⟩:Event)])).bind fun a15=>some a15 else some po4.2)).bind fun o13=>some ((x0.Rev,o13,0)))))
def a49:AFn:=⟨97,[(.cell 6 (some 4)),(.tmp 7),(.tmp 8)],
 (.seq (.reg [Qg 3 0,
Qg 4 1,
sq 6 (.zbox [dS ⟨#[]⟩,dS ⟨#[]⟩,dN,dI 0]),
sq 7 (.mv kN),
Qe 8 0])
 (.seq (.reg [Qc 17 6 3,
Qb 18 0 4,
Qc 19 3 18,
Qb 20 3 4,
Qd 21 20,
sq 22 (.call 50 [(.t 17),(.t 19),(.t 21)]),
Qa 9 22])
 (.seq (.seq (.reg [Qa 23 9,
sq 24 (.bin .neq (.t 23) (kI 0))])
 (.cond (.t 24)
 (.seq (.reg [Qc 25 4 4,
Qa 26 9,
su (.store 4 (.t 6) (.t 25)),
sq 7 (.mv kN),
Qa 8 26])
 .ret)
 .skip))
 (.seq (.reg [Qc 28 6 3,
Qb 29 3 4,
Qd 30 29,
Ql 31 89 28 30,
Qa 27 31,
Qo 32 27 0,
Qo 33 27 1,
Qa 10 32,
Qa 11 33])
 (.seq (.reg [Qb 34 3 4,
Qd 35 34,
Qa 12 35])
 (.seq (.reg [sq 13 (.mv kN)])
 (.seq (.seq (.reg [Qb 36 3 4,
Qd 37 36,
Qb 38 1 3,
Qd 39 38,
sq 40 (.bin .sub (.t 37) (.t 39)),
Qa 14 40])
 (.sem (.block 0 (.loop (.seq (.seq (.reg [Qa 41 14,
Qb 42 5 3,
Qd 43 42,
Qh 44 43,
Qn 45 41 44])
 (.cond (.t 45)
 .skip
 (.exit 0)))
 (.seq (.sem (.block 1 (.seq (.reg [Qb 48 5 3,
Qd 49 48,
Qa 50 14,
Qp 51 25 49 50,
Qc 52 25 51,
sq 15 (.zbox [dI 0,dI 0,dS ⟨#[]⟩,dS ⟨#[]⟩,dS ⟨#[]⟩,dI 0,dI 0,dI 0,dI 0,dB false,dI 0,dN,dN,dN,dN,dI 0,dI 0,dS ⟨#[]⟩,dN,dN,dI 0,dI 0,dS ⟨#[]⟩,dN,dN]),
su (.store 25 (.t 15) (.t 52))])
 (.seq (.reg [Qb 53 0 4,
Qc 54 3 53,
Qa 55 10,
Qc 56 25 15,
sq 57 (.call 90 [(.t 54),(.t 55),(.t 56)]),
Qa 16 57])
 (.seq (.reg [Qa 58 10,
Qc 59 25 15,
Ql 60 91 58 59,
Qa 10 60])
 (.seq (.seq (.reg [Qa 61 16,
Qr 62 61 0])
 (.cond (.t 62)
 (.exit 1)
 .skip))
 (.seq (.reg [Qa 63 13,
Qa 64 16,
Qb 65 0 15,
Qd 66 65,
Qb 67 2 15,
Qc 68 23 67,
sq 69 (.build [dI 0,dI 0,dS ⟨#[]⟩,dS ⟨#[]⟩,dS ⟨#[]⟩,dI 0,dI 0,dI 0,dI 0,dB false,dI 0,dN,dN,dN,dN,dI 0,dI 0,dS ⟨#[]⟩,dN,dN,dI 0,dI 0,dS ⟨#[]⟩,dN,dN] [(0,1,(.t 64)),(1,1,(.t 66)),(2,23,(.t 68))]),
sq 70 (.bslice 25 [(.t 69)]),
sq 71 (.app 25 368 (.t 63) (.t 70)),
Qa 13 71])
 (.seq (.reg [Qb 72 0 15,
Qd 73 72,
Qa 12 73])
 (.seq (.reg [Qa 74 13,
Qh 75 74,
Qa 76 2,
sq 77 (.bin .geq (.t 75) (.t 76))])
 (.cond (.t 77)
 (.seq (.reg [Qa 78 12,
Qb 79 3 4,
⟨none,none,.store 1 (.t 79) (.t 78),[],(.lone [4])⟩])
 (.seq (.reg [Qc 80 4 4,
Qa 81 13,
su (.store 4 (.t 6) (.t 80)),
Qa 7 81,
Qe 8 0])
 .ret))
 .skip))))))))))
 (.reg [Qa 46 14,
Qm 47 46 1,
Qa 14 47])))))))
 (.seq (.sem (.seq (.reg [Qb 82 0 3,
Qd 83 82,
Qa 84 12,
sq 85 (.bin .gtr (.t 83) (.t 84))])
 (.cond (.t 85)
 (.reg [Qa 86 13,
Qb 87 0 3,
Qd 88 87,
sq 89 (.build [dI 0,dI 0,dS ⟨#[]⟩,dS ⟨#[]⟩,dS ⟨#[]⟩,dI 0,dI 0,dI 0,dI 0,dB false,dI 0,dN,dN,dN,dN,dI 0,dI 0,dS ⟨#[]⟩,dN,dN,dI 0,dI 0,dS ⟨#[]⟩,dN,dN] [(0,1,(kI 4)),(1,1,(.t 88))]),
sq 90 (.bslice 25 [(.t 89)]),
sq 91 (.app 25 368 (.t 86) (.t 90)),
Qa 13 91])
 .skip)))
 (.seq (.reg [Qb 92 0 3,
Qd 93 92,
Qb 94 3 4,
⟨none,none,.store 1 (.t 94) (.t 93),[],(.lone [3,92,4])⟩])
 (.seq (.reg [Qc 95 4 4,
Qa 96 13,
su (.store 4 (.t 6) (.t 95)),
Qa 7 96,
Qe 8 0])
 .ret))))))))))⟩
theorem F49_ok{x0 x1 x2 r}(h:F49 x0 x1 x2=some r):An Tryz.prog 49 [.agg (AO x0),.agg (DE x1),.c (dI x2)] [] (AL [.agg [dS x1.Filter.Kind,dS x1.Filter.Namespace,dM (x1.Filter.Selector.map Al),dI r.1],.c (.own 0 0 0 (r.2.1.length) none),.c (dI r.2.2)]) [some (.arr 0 25 (r.2.1.map Bp))]:=by
 rw[F49]at h
 refine zc a49 (by kernel_rfl) rfl (ww ?_)
 obtain⟨t1,ht1,h⟩:=bi h
 refine cN [] (F50_ok ht1) trivial (ww ?_)
 refine AH h (fun c2 h=>ww ?_) (fun c2 h=>ww ?_)
 ·cases h
  exact eF [none]
 obtain⟨t3,ht3,h⟩:=bi h
 refine cN [] (F89_ok ht3) trivial (ww ?_)
 obtain⟨o4,ho,h⟩:=bi h
 refine AB (fun s=>∃po4,o4=Sum.inr po4∧s=⟨[(3,Pz 0),(4,Pz 1),(6,Pz 2),(12,oc (dI po4.1)),(13,oc (.own 3 0 0 (po4.2.length) none))],[xb (AO x0),xb (DE x1),xb [dS ((⟨#[]⟩:ByteArray)),dS ((⟨#[]⟩:ByteArray)),dN,dI 0],some (.arr 0 25 (po4.2.map Bp))]⟩) ?_ ?_
 ·have h0o4:=h
  have h:=ho
  clear ho
  refine ww ?_
  refine bL (fun j s=>∃(o4_0:List Object) (o4_1:Int) (o4_2:List Event) (o4_3:Int),s=⟨[(2,oc (dI x2)),(3,Pz 0),(4,Pz 1),(6,Pz 2),(10,oc (.own 3 0 0 (o4_0.length) none)),(12,oc (dI o4_1)),(13,oc (.own 4 0 0 (o4_2.length) none)),(14,oc (dI o4_3))],[xb (AO x0),xb (DE x1),xb [dS ((⟨#[]⟩:ByteArray)),dS ((⟨#[]⟩:ByteArray)),dN,dI 0],some (.arr 0 23 (o4_0.map Ad)),some (.arr 0 25 (o4_2.map Bp))]⟩∧F49_l4 x0 x1 x2 j o4_0 o4_1 o4_2 o4_3=some o4) 1099511627776 [some 0,some 1,some 2,some 3,none] ⟨t3.1,x1.Rev,[],(IntKind.i64.wrap (x1.Rev-x0.As)),rfl,h⟩ ?_
  rintro j _ ⟨o4_0,o4_1,o4_2,o4_3,rfl,h⟩
  cases j with
  |zero=>cases(show(none:Option _)=some _ from h)
  |succ j=>
   rw[F49_l4]at h
   refine ww ?_
   refine AH h (fun c5 h=>ww ?_) (fun c5 h=>?_)
   ·obtain⟨o6,ho,h⟩:=bi h
    refine AB (fun s=>∃po6,o6=Sum.inr po6∧s=⟨[(2,oc (dI x2)),(3,Pz 0),(4,Pz 1),(6,Pz 2),(10,oc (.own 3 0 0 (po6.1.length) none)),(12,oc (dI po6.2.1)),(13,oc (.own 4 0 0 (po6.2.2.length) none)),(14,oc (dI o4_3))],[xb (AO x0),xb (DE x1),xb [dS ((⟨#[]⟩:ByteArray)),dS ((⟨#[]⟩:ByteArray)),dN,dI 0],some (.arr 0 23 (po6.1.map Ad)),some (.arr 0 25 (po6.2.2.map Bp))]⟩) ?_ ?_
    ·have h0o6:=h
     have h:=ho
     clear ho
     refine ww ?_
     obtain⟨y7,hy7,h⟩:=bi h
     refine Az (enc:=A9) (xs:=x0.Ac) rfl rfl hy7 rfl (ww ?_)
     obtain⟨t8,ht8,h⟩:=bi h
     refine D8 (F90_ok ht8) (by simp only[Fm,Fs,hp,List.getElem?_cons_zero,List.getElem?_cons_succ,Option.join_some,List.drop_zero,BB,true_and,Nat.zero_add,List.length_map,Nat.le_refl,nrm,List.length_cons,List.length_nil,Nat.reduceAdd,Nat.reduceLeDiff,List.take_succ_cons,List.take_zero,List.take_nil,List.map_cons,List.map_nil,List.length_set,EE.down]) rfl ?_
     refine ww ?_
     obtain⟨t9,ht9,h⟩:=bi h
     refine Ce (as1:=[.c (dM (o4_0.map Ad)),.agg (EY y7)]) [(3,.arr 1 23 [])] [some 0,some 1,some 2,none,some 4,some 5] [] (F91_ok ht9) ⟨?_,rfl,?_⟩ ?_ ?_ ?_ ?_ ?_ ?_ ?_ ?_
     ·simp only[ZZ.down,Nat.reduceEqDiff,reduceCtorEq,Nat.reduceAdd,Nat.reduceLeDiff,Nat.reduceLT,Nat.reduceBNe,EE.down]
     ·simp only[ZZ.down,Nat.reduceEqDiff,reduceCtorEq,Nat.reduceAdd,Nat.reduceLeDiff,Nat.reduceLT,Nat.reduceBNe,EE.down]
     ·simp only[ZZ.down,Nat.reduceEqDiff,reduceCtorEq,Nat.reduceAdd,Nat.reduceLeDiff,Nat.reduceLT,Nat.reduceBNe,EE.down]
     ·rfl
     ·rfl
     ·simp[Cj,A1.live,C.live]
     ·rfl
     ·decide
     ·exact trivial
     refine ww ?_
     refine AH h (fun c10 h=>ww ?_) (fun c10 h=>?_)
     ·cases h
      exact eM [some 0,some 1,some 2,some 6,some 4] ⟨_,rfl,rfl⟩
     ·refine ww ?_
      refine BE (enc:=Bp) (ys:=[(⟨t8,y7.Rev,y7.Object⟩:Event)]) rfl rfl (by simp[A1.cells]) (by first|rfl|(simp only[List.drop_zero,Aw];rfl)|(simp only[lit,List.map_cons,List.map_nil,List.drop_zero,Aw,EE.down];done)|(simp only[lit,List.map_cons,List.map_nil,List.drop_zero,Aw,EE.down];rfl)) (ww ?_)
      obtain⟨a11,ha11,h⟩:=bi h
      refine D6 (enc:=Bp) (xs:=o4_2) rfl rfl (by first|rfl|simp only[List.length_set]|exact(AN (AX (by assumption))).symm) rfl (Co (enc:=Bp) (by first|rfl|simp only[List.length_set]|exact(AN (AX (by assumption))).symm) rfl) ha11 (ww ?_)
      refine AH h (fun c12 h=>ww ?_) (fun c12 h=>?_)
      ·obtain⟨fh0o6,hfh0o6,rfl⟩:=Option.map_eq_some_iff.1 h
       have h:=hfh0o6.trans h0o6
       obtain⟨fh0o4,hfh0o4,rfl⟩:=Option.map_eq_some_iff.1 h
       have h:=hfh0o4.trans h0o4
       cases h
       exact eF [some 4]
      ·refine ww ?_
       cases h
       exact eM [some 0,some 1,some 2,some 6,some 4] ⟨_,rfl,rfl⟩
    ·rintro _ ⟨po6,rfl,rfl⟩
     clear ho
     dsimp only at h
     refine ww ?_
     exact eL' j [some 0,some 1,some 2,some 3,some 4] ⟨po6.1,po6.2.1,po6.2.2,(IntKind.i64.wrap (o4_3+1)),rfl,h⟩ (Nat.lt_succ_self _)
   ·refine ww ?_
    cases h
    exact eM [some 0,some 1,some 2,some 4] ⟨_,rfl,rfl⟩
 rintro _ ⟨po4,rfl,rfl⟩
 clear ho
 dsimp only at h
 refine ww ?_
 obtain⟨o13,ho,h⟩:=bi h
 refine AB (fun s=>s=⟨[(3,Pz 0),(4,Pz 1),(6,Pz 2),(13,oc (.own 3 0 0 (o13.length) none))],[xb (AO x0),xb (DE x1),xb [dS ((⟨#[]⟩:ByteArray)),dS ((⟨#[]⟩:ByteArray)),dN,dI 0],some (.arr 0 25 (o13.map Bp))]⟩) ?_ ?_
 ·have h:=ho
  clear ho
  refine ww ?_
  refine AH h (fun c14 h=>ww ?_) (fun c14 h=>ww ?_)
  ·refine BE (enc:=Bp) (ys:=[(⟨4,x0.Rev,(⟨(⟨(⟨#[]⟩:ByteArray),(⟨#[]⟩:ByteArray),(⟨#[]⟩:ByteArray),0,0,0,0,false,0,[],[],[],[]⟩:Meta),(⟨0,0,(⟨#[]⟩:ByteArray),[],[]⟩:Ab),(⟨0,0,(⟨#[]⟩:ByteArray),[],[]⟩:Ab)⟩:Object)⟩:Event)]) rfl rfl (by simp[A1.cells]) (by first|rfl|(simp only[List.drop_zero,Aw];rfl)|(simp only[lit,List.map_cons,List.map_nil,List.drop_zero,Aw,EE.down];done)|(simp only[lit,List.map_cons,List.map_nil,List.drop_zero,Aw,EE.down];rfl)) (ww ?_)
   obtain⟨a15,ha15,h⟩:=bi h
   refine D6 (enc:=Bp) (xs:=po4.2) rfl rfl (by first|rfl|simp only[List.length_set]|exact(AN (AX (by assumption))).symm) rfl (Co (enc:=Bp) (by first|rfl|simp only[List.length_set]|exact(AN (AX (by assumption))).symm) rfl) ha15 (ww ?_)
   cases h
   exact eM [some 0,some 1,some 2,some 3] rfl
  cases h
  exact eM [some 0,some 1,some 2,some 3] rfl
 rintro _ rfl
 clear ho
 refine ww ?_
 cases h
 exact eF [some 3]
def F69_l1(x0:(List Object))(x1:ByteArray):Nat→Int→Option (Int)
 |0,_=>none
 |k+1,o1_0=>(((if o1_0<(x0.length:Int)then(rdI x0 o1_0).bind fun y4=>(F39 y4.Meta).bind fun t5=>some (Op.bytesLess t5.toList x1.toList)else some false)).bind fun o2=>(if o2=true then F69_l1 x0 x1 k ((IntKind.i64.wrap (o1_0+1)))else some o1_0))
def F69(x0:(List Object))(x1:ByteArray):Option (Int):=((F69_l1 x0 x1 1099511627776 0).bind fun o1=>some o1)
def a69:AFn:=⟨23,[(.tmp 4)],
 (.seq (.reg [Qe 4 0])
 (.seq (.reg [Qe 5 0])
 (.seq (.sem (.block 0 (.loop (.seq (.seq (.sem (.reg [Qa 6 5,
Qa 7 0,
Qh 8 7,
Qn 9 6 8,
Qa 10 9,
Qv 11 10 true 0,
Qv 12 10 true 5,
zg 13 10 true (.indexA 23 (.t 11) (.t 12)),
Qs 14 10 true 0 13,
Qu 15 10 true 13 14,
zg 16 10 true (.call 39 [(.t 15)]),
Qv 17 10 true 1,
zg 18 10 true (.bin .lss (.t 16) (.t 17)),
Qi 19 10 18]))
 (.cond (.t 19)
 .skip
 (.exit 0)))
 (.block 1 (.reg [Qa 20 5,
Qm 21 20 1,
Qa 5 21]))))))
 (.seq (.reg [Qa 22 5,
Qa 4 22])
 .ret))))⟩
theorem F69_ok{x0 x1 r}(h:F69 x0 x1=some r):An Tryz.prog 69 [.c (dM (x0.map Ad)),.c (dS x1)] [] (AL [.c (dI r)]) []:=by
 rw[F69]at h
 refine zc a69 (by kernel_rfl) rfl (ww ?_)
 obtain⟨o1,ho,h⟩:=bi h
 refine AB (fun s=>s=⟨[(5,oc (dI o1))],[]⟩) ?_ ?_
 ·have h:=ho
  clear ho
  refine ww ?_
  refine bL (fun j s=>∃(o1_0:Int),s=⟨[(0,oc (dM (x0.map Ad))),(1,oc (dS x1)),(5,oc (dI o1_0))],[]⟩∧F69_l1 x0 x1 j o1_0=some o1) 1099511627776 [] ⟨0,rfl,h⟩ ?_
  rintro j _ ⟨o1_0,rfl,h⟩
  cases j with
  |zero=>cases(show(none:Option _)=some _ from h)
  |succ j=>
   rw[F69_l1]at h
   refine ww ?_
   obtain⟨o2,ho,h⟩:=bi h
   refine AB (fun s=>s=⟨[(0,oc (dM (x0.map Ad))),(1,oc (dS x1)),(5,oc (dI o1_0)),(19,oc (dB o2))],[]⟩) ?_ ?_
   ·have h:=ho
    clear ho
    refine ww ?_
    refine Af h (fun g3 h=>ww ?_) (fun g3 h=>?_)
    ·obtain⟨y4,hy4,h⟩:=bi h
     refine Az (enc:=Ad) (xs:=x0) rfl rfl hy4 rfl (ww ?_)
     obtain⟨t5,ht5,h⟩:=bi h
     refine cN [] (F39_ok ht5) trivial (ww ?_)
     cases h
     exact eM [] rfl
    ·refine ww ?_
     cases h
     exact eM [] rfl
   ·rintro _ rfl
    clear ho
    refine ww ?_
    refine AE h (fun c6 h=>ww ?_) (fun c6 h=>?_)
    ·exact eL' j [] ⟨(IntKind.i64.wrap (o1_0+1)),rfl,h⟩ (Nat.lt_succ_self _)
    ·refine ww ?_
     cases h
     exact eM [] rfl
 rintro _ rfl
 clear ho
 refine ww ?_
 cases h
 exact eF []
def F38(x0:(List Object))(x1:Event):Option ((List Object)):=(F39 x1.Object.Meta).bind fun t1=>(F69 x0 t1).bind fun t2=>(slI x0 0 t2).bind fun s3=>(apI ([]:List Object) s3).bind fun a4=>(((((if x1.Bl=1 then some true else some (decide (x1.Bl=2)))).bind fun o6=>(if o6=true then(apI a4 ([x1.Object])).bind fun a9=>some a9 else some a4))).bind fun o5=>(((((if t2<(x0.length:Int)then(rdI x0 t2).bind fun y13=>(F39 y13.Meta).bind fun t14=>some (decide (t14=t1))else some false)).bind fun o11=>(if o11=true then some ((IntKind.i64.wrap (t2+1)))else some t2))).bind fun o10=>(slI x0 o10 ((x0.length:Int))).bind fun s16=>(apI o5 s16).bind fun a17=>some a17))
def a38:AFn:=⟨55,[(.tmp 4)],
 (.seq (.reg [Qg 3 1,
sq 4 (.mv kN)])
 (.seq (.reg [Qb 8 2 3,
Qb 9 0 8,
Qc 10 13 9,
Qk 11 39 10,
Qa 5 11])
 (.seq (.reg [Qa 12 0,
Qa 13 5,
Ql 14 69 12 13,
Qa 6 14])
 (.seq (.reg [sq 15 (.bslice 23 []),
Qa 16 0,
Qa 17 6,
sq 18 (.slice 23 (.t 16) none (some (.t 17)) none),
sq 19 (.app 23 352 (.t 15) (.t 18)),
Qa 7 19])
 (.seq (.sem (.seq (.sem (.reg [Qb 20 0 3,
Qd 21 20,
Qr 22 21 1,
Qa 23 22,
Qs 24 23 false 0 3,
Qt 25 23 false 24,
zg 26 23 false (.bin .eql (.t 25) (kI 2)),
zl 27 (.pick (.t 23) (kB true) (.t 26)) [] [3,20,3,24]]))
 (.cond (.t 27)
 (.reg [Qa 28 7,
Qb 29 2 3,
Qc 30 23 29,
sq 31 (.bslice 23 [(.t 30)]),
sq 32 (.app 23 352 (.t 28) (.t 31)),
Qa 7 32])
 .skip)))
 (.seq (.sem (.seq (.sem (.reg [Qa 33 6,
Qa 34 0,
Qh 35 34,
Qn 36 33 35,
Qa 37 36,
Qv 38 37 true 0,
Qv 39 37 true 6,
zg 40 37 true (.indexA 23 (.t 38) (.t 39)),
Qs 41 37 true 0 40,
Qu 42 37 true 13 41,
zg 43 37 true (.call 39 [(.t 42)]),
Qv 44 37 true 5,
zg 45 37 true (.bin .eql (.t 43) (.t 44)),
Qi 46 37 45]))
 (.cond (.t 46)
 (.reg [Qa 47 6,
Qm 48 47 1,
Qa 6 48])
 .skip)))
 (.seq (.reg [Qa 49 7,
Qa 50 0,
Qa 51 6,
sq 52 (.slice 23 (.t 50) (some (.t 51)) none none),
sq 53 (.app 23 352 (.t 49) (.t 52)),
Qa 7 53])
 (.seq (.reg [Qa 54 7,
Qa 4 54])
 .ret))))))))⟩
theorem F38_ok{x0 x1 r}(h:F38 x0 x1=some r):An Tryz.prog 38 [.c (dM (x0.map Ad)),.agg (Ry x1)] [] (AL [.c (.own 0 0 0 (r.length) none)]) [some (.arr 0 23 (r.map Ad))]:=by
 rw[F38]at h
 refine zc a38 (by kernel_rfl) rfl (ww ?_)
 obtain⟨t1,ht1,h⟩:=bi h
 refine cN [] (F39_ok ht1) trivial (ww ?_)
 obtain⟨t2,ht2,h⟩:=bi h
 refine cN [] (F69_ok ht2) trivial (ww ?_)
 refine BE (enc:=Ad) (ys:=([]:List Object)) rfl rfl (by simp[A1.cells]) (by first|rfl|(simp only[List.drop_zero,Aw];rfl)|(simp only[lit,List.map_cons,List.map_nil,List.drop_zero,Aw,EE.down];done)|(simp only[lit,List.map_cons,List.map_nil,List.drop_zero,Aw,EE.down];rfl)) (ww ?_)
 obtain⟨s3,hs3,h⟩:=bi h
 refine H8 (enc:=Ad) (xs:=x0) rfl rfl rfl (fun _=>rfl) hs3 (ww ?_)
 obtain⟨a4,ha4,h⟩:=bi h
 refine D6 (enc:=Ad) (xs:=([]:List Object)) rfl rfl (by first|rfl|simp only[List.length_set]|exact(AN (AX (by assumption))).symm) rfl (G8 (enc:=Ad) (fun _=>rfl)) ha4 (ww ?_)
 obtain⟨o5,ho,h⟩:=bi h
 refine AB (fun s=>s=⟨[(0,oc (dM (x0.map Ad))),(5,oc (dS t1)),(6,oc (dI t2)),(7,oc (.own 0 0 0 (o5.length) none))],[some (.arr 0 23 (o5.map Ad))]⟩) ?_ ?_
 ·have h:=ho
  clear ho
  refine ww ?_
  obtain⟨o6,ho,h⟩:=bi h
  refine AB (fun s=>s=⟨[(0,oc (dM (x0.map Ad))),(3,Pz 0),(5,oc (dS t1)),(6,oc (dI t2)),(7,oc (.own 1 0 0 (a4.length) none)),(27,oc (dB o6))],[xb (Ry x1),some (.arr 0 23 (a4.map Ad))]⟩) ?_ ?_
  ·have h:=ho
   clear ho
   refine ww ?_
   refine Af h (fun g7 h=>ww ?_) (fun g7 h=>ww ?_)
   ·cases h
    exact eM [some 0,some 1] rfl
   cases h
   exact eM [some 0,some 1] rfl
  rintro _ rfl
  clear ho
  refine ww ?_
  refine AE h (fun c8 h=>ww ?_) (fun c8 h=>ww ?_)
  ·refine BE (enc:=Ad) (ys:=[x1.Object]) rfl rfl (by simp[A1.cells]) (by first|rfl|(simp only[List.drop_zero,Aw];rfl)|(simp only[lit,List.map_cons,List.map_nil,List.drop_zero,Aw,EE.down];done)|(simp only[lit,List.map_cons,List.map_nil,List.drop_zero,Aw,EE.down];rfl)) (ww ?_)
   obtain⟨a9,ha9,h⟩:=bi h
   refine D6 (enc:=Ad) (xs:=a4) rfl rfl (by first|rfl|simp only[List.length_set]|exact(AN (AX (by assumption))).symm) rfl (Co (enc:=Ad) (by first|rfl|simp only[List.length_set]|exact(AN (AX (by assumption))).symm) rfl) ha9 (ww ?_)
   cases h
   exact eM [some 1] rfl
  cases h
  exact eM [some 1] rfl
 rintro _ rfl
 clear ho
 refine ww ?_
 obtain⟨o10,ho,h⟩:=bi h
 refine AB (fun s=>s=⟨[(0,oc (dM (x0.map Ad))),(6,oc (dI o10)),(7,oc (.own 0 0 0 (o5.length) none))],[some (.arr 0 23 (o5.map Ad))]⟩) ?_ ?_
 ·have h:=ho
  clear ho
  refine ww ?_
  obtain⟨o11,ho,h⟩:=bi h
  refine AB (fun s=>s=⟨[(0,oc (dM (x0.map Ad))),(6,oc (dI t2)),(7,oc (.own 0 0 0 (o5.length) none)),(46,oc (dB o11))],[some (.arr 0 23 (o5.map Ad))]⟩) ?_ ?_
  ·have h:=ho
   clear ho
   refine ww ?_
   refine Af h (fun g12 h=>ww ?_) (fun g12 h=>ww ?_)
   ·obtain⟨y13,hy13,h⟩:=bi h
    refine Az (enc:=Ad) (xs:=x0) rfl rfl hy13 rfl (ww ?_)
    obtain⟨t14,ht14,h⟩:=bi h
    refine cN [] (F39_ok ht14) trivial (ww ?_)
    cases h
    exact eM [some 0] rfl
   cases h
   exact eM [some 0] rfl
  rintro _ rfl
  clear ho
  refine ww ?_
  refine AE h (fun c15 h=>ww ?_) (fun c15 h=>ww ?_)
  ·cases h
   exact eM [some 0] rfl
  cases h
  exact eM [some 0] rfl
 rintro _ rfl
 clear ho
 refine ww ?_
 obtain⟨s16,hs16,h⟩:=bi h
 refine H8 (enc:=Ad) (xs:=x0) rfl rfl rfl (fun _=>rfl) hs16 (ww ?_)
 obtain⟨a17,ha17,h⟩:=bi h
 refine D6 (enc:=Ad) (xs:=o5) rfl rfl (by first|rfl|simp only[List.length_set]|exact(AN (AX (by assumption))).symm) rfl (G8 (enc:=Ad) (fun _=>rfl)) ha17 (ww ?_)
 cases h
 exact eF [some 0]
def F12_l1:List Event→Nat→Cache→Option (Cache)
 |[],o1_1,o1_0=>some ((⟨(⟨(o1_0).Filter.Kind,(o1_0).Filter.Namespace,(o1_0).Filter.Selector⟩:Filter),(o1_0).Rev,(o1_0).Bq,(o1_0).Aa⟩:Cache))
 |xo1::xs,o1_1,o1_0=>(((if xo1.Rev≤(o1_0).Rev then some (((o1_0).Rev,(o1_0).Aa))else(((if 1≤xo1.Bl then some (decide (xo1.Bl≤3))else some false)).bind fun o5=>(if o5=true then(F38 ((o1_0).Aa) xo1).bind fun t8=>some ((xo1.Rev,t8))else some ((xo1.Rev,(o1_0).Aa)))))).bind fun o3=>F12_l1 xs (o1_1+1) ((⟨(⟨(o1_0).Filter.Kind,(o1_0).Filter.Namespace,(o1_0).Filter.Selector⟩:Filter),o3.1,(o1_0).Bq,o3.2⟩:Cache)))
def F12(x0:Cache)(x1:(List Event)):Option (Cache):=(((ck (0≤x1.length∧x1.length≤4294967290)).bind fun u9=>F12_l1 x1 0 x0).bind fun o1=>some ((⟨(⟨(o1).Filter.Kind,(o1).Filter.Namespace,(o1).Filter.Selector⟩:Filter),(o1).Rev,(o1).Bq,(o1).Aa⟩:Cache)))
def a12:AFn:=⟨49,[(.cell 4 (some 6))],
 (.seq (.reg [Qg 2 0,
sq 4 (.zbox [dS ⟨#[]⟩,dS ⟨#[]⟩,dN,dI 0,dB false,dN])])
 (.seq (.seq (.reg [Qe 5 0])
 (.sem (.block 0 (.loop (.seq (.seq (.reg [Qa 6 5,
Qa 7 1,
Qh 8 7,
Qn 9 6 8])
 (.cond (.t 9)
 .skip
 (.exit 0)))
 (.seq (.sem (.block 1 (.seq (.seq (.regd [Qa 12 1,
Qa 13 5,
sd 14 (.indexA 25 (.t 12) (.t 13)) [0,1],
sd 15 (.fieldA 1 (.t 14)) [0,1,2],
sd 16 (.load none (.t 15)) [0,1,2,3],
Qb 17 3 2,
sd 18 (.load none (.t 17)) [5],
sd 19 (.bin .leq (.t 16) (.t 18)) [0,1,2,3,4,5,6]])
 (.cond (.t 19)
 (.exit 1)
 .skip))
 (.seq (.reg [Qa 20 1,
Qa 21 5,
Qp 22 25 20 21,
Qb 23 1 22,
Qd 24 23,
Qb 25 3 2,
⟨none,none,.store 1 (.t 25) (.t 24),[],(.lone [20,22,23,2])⟩])
 (.seq (.sem (.reg [Qa 26 1,
Qa 27 5,
Qp 28 25 26 27,
Qb 29 0 28,
Qd 30 29,
sq 31 (.bin .geq (.t 30) (kI 1)),
Qa 32 31,
Qv 33 32 true 1,
Qv 34 32 true 5,
zg 35 32 true (.indexA 25 (.t 33) (.t 34)),
Qs 36 32 true 0 35,
Qt 37 32 true 36,
zg 38 32 true (.bin .leq (.t 37) (kI 3)),
zl 39 (.pick (.t 32) (.t 38) (kB false)) [] [26,28,29,33,35,36]]))
 (.cond (.t 39)
 (.regd [Qb 40 5 2,
sd 41 (.load none (.t 40)) [0],
Qa 42 1,
Qa 43 5,
sd 44 (.indexA 25 (.t 42) (.t 43)) [2,3],
sd 45 (.load (some 25) (.t 44)) [2,3,4],
zl 46 (.call 38 [(.t 41),(.t 45)]) [0,1,2,3,4,5] [],
sd 47 (.fieldA 5 (.t 2)) [0,1,2,3,4,5,6],
⟨none,none,.store 1 (.t 47) (.t 46),[0,1,2,3,4,5,6,7],(.lone [])⟩])
 .skip))))))
 (.reg [Qa 10 5,
Qm 11 10 1,
Qa 5 11])))))))
 (.seq (.reg [Qc 48 6 2,
⟨none,none,.store 6 (.t 4) (.t 48),[],(.lone [2])⟩])
 .ret)))⟩
theorem F12_ok{x0 x1 r}(h:F12 x0 x1=some r):An Tryz.prog 12 [.agg (Ch x0),.c (dM (x1.map Bp))] [] (AL [.agg (Ch (r))]) []:=by
 rw[F12]at h
 refine zc a12 (by kernel_rfl) rfl (ww ?_)
 obtain⟨o1,ho,h⟩:=bi h
 refine AB (fun s=>s=⟨[(2,Pz 0),(4,Pz 1)],[xb (Ch (o1)),xb [dS ((⟨#[]⟩:ByteArray)),dS ((⟨#[]⟩:ByteArray)),dN,dI 0,dB false,dN]]⟩) ?_ ?_
 ·have h:=ho
  clear ho
  obtain⟨_,hk,h⟩:=bi h
  have hk:=AS hk
  refine ww ?_
  refine bL (fun j s=>∃(o1_1:Nat) (o1_0:Cache),(o1_1≤x1.length∧j=x1.length-o1_1)∧s=⟨[(1,oc (dM (x1.map Bp))),(2,Pz 0),(4,Pz 1),(5,oc (dI ((o1_1:Int))))],[xb (Ch (o1_0)),xb [dS ((⟨#[]⟩:ByteArray)),dS ((⟨#[]⟩:ByteArray)),dN,dI 0,dB false,dN]]⟩∧F12_l1 (x1.drop o1_1) o1_1 o1_0=some o1) (x1.length-0) [some 0,some 1] ⟨0,x0,⟨hk.1,rfl⟩,rfl,h⟩ ?_
  rintro _ _ ⟨o1_1,o1_0,⟨hi,rfl⟩,rfl,h⟩
  refine ww ?_
  refine Bg (fun c2=>?_) (fun c2=>?_)
  ·obtain⟨xo1,hxo1,hd⟩:=A5 (show(o1_1:Int)<(x1.length:Int)from c2)
   rw[hd,F12_l1]at h
   refine ww ?_
   obtain⟨o3,ho,h⟩:=bi h
   refine AB (fun s=>s=⟨[(1,oc (dM (x1.map Bp))),(2,Pz 0),(4,Pz 1),(5,oc (dI ((o1_1:Int))))],[xb [dS ((o1_0).Filter.Kind),dS ((o1_0).Filter.Namespace),dM (((o1_0).Filter.Selector).map Al),dI o3.1,dB ((o1_0).Bq),dM (o3.2.map Ad)],xb [dS ((⟨#[]⟩:ByteArray)),dS ((⟨#[]⟩:ByteArray)),dN,dI 0,dB false,dN]]⟩) ?_ ?_
   ·have h:=ho
    clear ho
    refine ww ?_
    refine Az (enc:=Bp) (xs:=x1) rfl rfl hxo1 rfl (ww ?_)
    refine AH h (fun c4 h=>ww ?_) (fun c4 h=>ww ?_)
    ·cases h
     exact eM [some 0,some 1] rfl
    refine Az (enc:=Bp) (xs:=x1) rfl rfl hxo1 rfl (ww ?_)
    obtain⟨o5,ho,h⟩:=bi h
    refine AB (fun s=>s=⟨[(1,oc (dM (x1.map Bp))),(2,Pz 0),(4,Pz 1),(5,oc (dI ((o1_1:Int)))),(39,oc (dB o5))],[xb [dS ((o1_0).Filter.Kind),dS ((o1_0).Filter.Namespace),dM (((o1_0).Filter.Selector).map Al),dI xo1.Rev,dB ((o1_0).Bq),dM (((o1_0).Aa).map Ad)],xb [dS ((⟨#[]⟩:ByteArray)),dS ((⟨#[]⟩:ByteArray)),dN,dI 0,dB false,dN]]⟩) ?_ ?_
    ·have h:=ho
     clear ho
     refine ww ?_
     refine Az (enc:=Bp) (xs:=x1) rfl rfl hxo1 rfl (ww ?_)
     refine Af h (fun g6 h=>ww ?_) (fun g6 h=>ww ?_)
     ·refine Az (enc:=Bp) (xs:=x1) rfl rfl hxo1 rfl (ww ?_)
      cases h
      exact eM [some 0,some 1] rfl
     cases h
     exact eM [some 0,some 1] rfl
    rintro _ rfl
    clear ho
    refine ww ?_
    refine AE h (fun c7 h=>ww ?_) (fun c7 h=>ww ?_)
    ·refine Az (enc:=Bp) (xs:=x1) rfl rfl hxo1 rfl (ww ?_)
     obtain⟨t8,ht8,h⟩:=bi h
     refine cN [] (F38_ok ht8) trivial (ww ?_)
     cases h
     exact eM [some 0,some 1] rfl
    cases h
    exact eM [some 0,some 1] rfl
   rintro _ rfl
   clear ho
   refine ww ?_
   rw[AW (by omega)]
   exact eL' (x1.length-(o1_1+1)) [some 0,some 1] ⟨o1_1+1,(⟨(⟨(o1_0).Filter.Kind,(o1_0).Filter.Namespace,(o1_0).Filter.Selector⟩:Filter),o3.1,(o1_0).Bq,o3.2⟩:Cache),⟨by omega,rfl⟩,rfl,h⟩ (by omega)
  rw[A6 (show¬((o1_1:Int)<(x1.length:Int))from c2),F12_l1]at h
  refine ww ?_
  cases h
  exact eM [some 0,some 1] rfl
 rintro _ rfl
 clear ho
 refine ww ?_
 cases h
 exact eF []
def F22(x0:Ag)(x1:Cache)(x2:Int):Option (ByteArray×ByteArray×((List Ah))×Int×Bool×(List Object)×Bool):=(F48 x1.Filter.Selector).bind fun t1=>(if(nb t1)=true then some ((x1.Filter.Kind,x1.Filter.Namespace,x1.Filter.Selector,x1.Rev,x1.Bq,x1.Aa,false))else(F49 x0 ((⟨x1.Filter,x1.Rev⟩:Ck)) x2).bind fun t3=>(((if(nb x1.Bq)=true then some true else some (decide (¬(t3.2.2=0))))).bind fun o4=>(if o4=true then(F26 x0 x1.Filter).bind fun t7=>some ((x1.Filter.Kind,x1.Filter.Namespace,x1.Filter.Selector,x0.Rev,true,t7,true))else(F12 x1 t3.2.1).bind fun t8=>some (((t8).Filter.Kind,(t8).Filter.Namespace,(t8).Filter.Selector,(t8).Rev,(t8).Bq,(t8).Aa,decide ((t8).Rev=x0.Rev))))))
def a22:AFn:=⟨54,[(.cell 6 (some 6)),(.tmp 7)],
 (.seq (.reg [Qg 3 0,
Qg 4 1,
sq 6 (.zbox [dS ⟨#[]⟩,dS ⟨#[]⟩,dN,dI 0,dB false,dN]),
Qf 7 false])
 (.seq (.seq (.reg [Qb 11 0 4,
Qb 12 2 11,
Qd 13 12,
Qk 14 48 13,
Qq 15 14])
 (.cond (.t 15)
 (.seq (.reg [Qc 16 6 4,
su (.store 6 (.t 6) (.t 16)),
Qf 7 false])
 .ret)
 .skip))
 (.seq (.reg [Qc 18 6 3,
Qb 19 0 4,
Qc 20 3 19,
Qb 21 3 4,
Qd 22 21,
sq 23 (.build [dS ⟨#[]⟩,dS ⟨#[]⟩,dN,dI 0] [(0,3,(.t 20)),(3,1,(.t 22))]),
Qa 24 2,
sq 25 (.call 49 [(.t 18),(.t 23),(.t 24)]),
Qa 17 25,
Qo 26 17 0,
Qo 27 17 1,
Qo 28 17 2,
sq 8 (.zbox [dS ⟨#[]⟩,dS ⟨#[]⟩,dN,dI 0]),
su (.store 4 (.t 8) (.t 26)),
Qa 9 27,
Qa 10 28])
 (.seq (.seq (.sem (.reg [Qb 29 4 4,
Qd 30 29,
Qq 31 30,
Qa 32 31,
Qv 33 32 false 10,
zg 34 32 false (.bin .neq (.t 33) (kI 0)),
zl 35 (.pick (.t 32) (kB true) (.t 34)) [] [4,29]]))
 (.cond (.t 35)
 (.seq (.regd [Qb 36 0 4,
sd 37 (.load (some 3) (.t 36)) [0],
Qb 38 0 3,
sd 39 (.load none (.t 38)) [2],
Qc 40 6 3,
Qb 41 0 4,
sd 42 (.load (some 3) (.t 41)) [5],
zl 43 (.call 26 [(.t 40),(.t 42)]) [4,5,6] [4,36,3,38],
zl 44 (.build [dS ⟨#[]⟩,dS ⟨#[]⟩,dN,dI 0,dB false,dN] [(0,3,(.t 37)),(3,1,(.t 39)),(4,1,(kB true)),(5,1,(.t 43))]) [0,1,2,3,4,5,6,7] [],
⟨none,none,.store 6 (.t 6) (.t 44),[0,1,2,3,4,5,6,7,8],(.lone [])⟩,
sd 7 (.mv (kB true)) [0,1,2,3,4,5,6,7,8,9]])
 .ret)
 .skip))
 (.seq (.reg [Qc 45 6 4,
Qa 46 9,
Ql 47 12 45 46,
su (.store 6 (.t 4) (.t 47))])
 (.seq (.regd [Qc 48 6 4,
Qb 49 3 4,
sd 50 (.load none (.t 49)) [1],
Qb 51 0 3,
sd 52 (.load none (.t 51)) [3],
sd 53 (.bin .eql (.t 50) (.t 52)) [1,2,3,4],
⟨none,none,.store 6 (.t 6) (.t 48),[0],(.lone [4,49,3,51])⟩,
sd 7 (.mv (.t 53)) [0,1,2,3,4,5,6]])
 .ret))))))⟩
theorem F22_ok{x0 x1 x2 r}(h:F22 x0 x1 x2=some r):An Tryz.prog 22 [.agg (AO x0),.agg (Ch x1),.c (dI x2)] [] (AL [.agg [dS r.1,dS r.2.1,dM (r.2.2.1.map Al),dI r.2.2.2.1,dB r.2.2.2.2.1,dM (r.2.2.2.2.2.1.map Ad)],.c (dB r.2.2.2.2.2.2)]) []:=by
 rw[F22]at h
 refine zc a22 (by kernel_rfl) rfl (ww ?_)
 obtain⟨t1,ht1,h⟩:=bi h
 refine cN [] (F48_ok ht1) trivial (ww ?_)
 refine AE h (fun c2 h=>ww ?_) (fun c2 h=>ww ?_)
 ·cases h
  exact eF []
 obtain⟨t3,ht3,h⟩:=bi h
 refine cN [] (F49_ok ht3) trivial (ww ?_)
 obtain⟨o4,ho,h⟩:=bi h
 refine AB (fun s=>s=⟨[(3,Pz 0),(4,Pz 1),(6,Pz 2),(9,oc (.own 3 0 0 (t3.2.1.length) none)),(35,oc (dB o4))],[xb (AO x0),xb (Ch x1),xb [dS ((⟨#[]⟩:ByteArray)),dS ((⟨#[]⟩:ByteArray)),dN,dI 0,dB false,dN],some (.arr 0 25 (t3.2.1.map Bp))]⟩) ?_ ?_
 ·have h:=ho
  clear ho
  refine ww ?_
  refine AM h (fun g5 h=>ww ?_) (fun g5 h=>ww ?_)
  ·cases h
   exact eM [some 0,some 1,some 2,some 3] rfl
  cases h
  exact eM [some 0,some 1,some 2,some 3] rfl
 rintro _ rfl
 clear ho
 refine ww ?_
 refine AE h (fun c6 h=>ww ?_) (fun c6 h=>ww ?_)
 ·obtain⟨t7,ht7,h⟩:=bi h
  refine cN [] (F26_ok ht7) trivial (ww ?_)
  cases h
  exact eF []
 obtain⟨t8,ht8,h⟩:=bi h
 refine Ce (as1:=[.agg (Ch x1),.c (dM (t3.2.1.map Bp))]) [(3,.arr 1 25 [])] [some 0,some 1,some 2,none] [] (F12_ok ht8) ⟨?_,rfl,?_⟩ ?_ ?_ ?_ ?_ ?_ ?_ ?_ ?_
 ·simp only[ZZ.down,Nat.reduceEqDiff,reduceCtorEq,Nat.reduceAdd,Nat.reduceLeDiff,Nat.reduceLT,Nat.reduceBNe,EE.down]
 ·simp only[ZZ.down,Nat.reduceEqDiff,reduceCtorEq,Nat.reduceAdd,Nat.reduceLeDiff,Nat.reduceLT,Nat.reduceBNe,EE.down]
 ·simp only[ZZ.down,Nat.reduceEqDiff,reduceCtorEq,Nat.reduceAdd,Nat.reduceLeDiff,Nat.reduceLT,Nat.reduceBNe,EE.down]
 ·rfl
 ·rfl
 ·simp[Cj,A1.live,C.live]
 ·rfl
 ·decide
 ·exact trivial
 refine ww ?_
 cases h
 exact eF []
def F40_l12(y7:Ah):List ByteArray→Nat→Option (((Bool) ⊕ (Unit)) ⊕ (Unit))
 |[],o12_0=>some (Sum.inr (()))
 |xo12::xs,o12_0=>(rdI y7.Aq ((o12_0:Int))).bind fun y14=>(if¬(xo12=y14)then((some false).map Sum.inl).map Sum.inl else F40_l12 y7 xs (o12_0+1))
def F40_l5(x1:Filter):List Ah→Nat→Option ((Bool) ⊕ (Unit))
 |[],o5_0=>some (Sum.inr (()))
 |xo5::xs,o5_0=>(rdI x1.Selector ((o5_0:Int))).bind fun y7=>(((if¬(xo5.Key=y7.Key)then some true else(if¬(xo5.Op=y7.Op)then some true else some (decide (¬((xo5.Aq.length:Int)=(y7.Aq.length:Int))))))).bind fun o8=>(if o8=true then(some false).map Sum.inl else(((ck (0≤xo5.Aq.length∧xo5.Aq.length≤4294967290)).bind fun u16=>F40_l12 y7 xo5.Aq 0:Option (((Bool) ⊕ (Unit)) ⊕ (Unit))).bind fun o12=>match o12 with|Sum.inl f=>some f|Sum.inr po12=>F40_l5 x1 xs (o5_0+1))))
def F40(x0:Filter)(x1:Filter):Option (Bool):=(((if¬(x0.Kind=x1.Kind)then some true else(if¬(x0.Namespace=x1.Namespace)then some true else some (decide (¬((x0.Selector.length:Int)=(x1.Selector.length:Int))))))).bind fun o1=>(if o1=true then some false else(((ck (0≤x0.Selector.length∧x0.Selector.length≤4294967290)).bind fun u17=>F40_l5 x1 x0.Selector 0:Option ((Bool) ⊕ (Unit))).bind fun o5=>match o5 with|Sum.inl f=>some f|Sum.inr po5=>some true)))
def a40:AFn:=⟨86,[(.tmp 4)],
 (.seq (.reg [Qg 2 0,
Qg 3 1,
Qf 4 false])
 (.seq (.seq (.sem (.reg [Qb 9 0 2,
Qd 10 9,
Qb 11 0 3,
Qd 12 11,
sq 13 (.bin .neq (.t 10) (.t 12)),
Qa 14 13,
Qs 15 14 false 1 2,
Qt 16 14 false 15,
Qs 17 14 false 1 3,
Qt 18 14 false 17,
zg 19 14 false (.bin .neq (.t 16) (.t 18)),
Qj 20 14 19,
Qa 21 20,
Qs 22 21 false 2 2,
Qt 23 21 false 22,
zg 24 21 false (.len (.t 23)),
Qs 25 21 false 2 3,
Qt 26 21 false 25,
zg 27 21 false (.len (.t 26)),
zg 28 21 false (.bin .neq (.t 24) (.t 27)),
Qj 29 21 28]))
 (.cond (.t 29)
 (.seq (.reg [Qf 4 false])
 .ret)
 .skip))
 (.seq (.seq (.reg [Qe 5 0])
 (.sem (.block 0 (.loop (.seq (.seq (.reg [Qa 30 5,
Qb 31 2 2,
Qd 32 31,
Qh 33 32,
Qn 34 30 33])
 (.cond (.t 34)
 .skip
 (.exit 0)))
 (.seq (.block 1 (.seq (.regd [Qb 37 2 2,
sd 38 (.load none (.t 37)) [0],
Qa 39 5,
sd 40 (.indexA 3 (.t 38) (.t 39)) [0,1,2],
sd 41 (.load (some 3) (.t 40)) [0,1,2,3],
Qb 42 2 3,
sd 43 (.load none (.t 42)) [5],
Qa 44 5,
sd 45 (.indexA 3 (.t 43) (.t 44)) [5,6,7],
sd 46 (.load (some 3) (.t 45)) [5,6,7,8],
sq 6 (.zbox [dS ⟨#[]⟩,dI 0,dN]),
sq 7 (.zbox [dS ⟨#[]⟩,dI 0,dN]),
⟨none,none,.store 3 (.t 6) (.t 41),[0,1,2,3,4,10,11],(.lone [3,42,43,45])⟩,
⟨none,none,.store 3 (.t 7) (.t 46),[0,1,2,3,4,5,6,7,8,9,10,11,12],(.lone [])⟩])
 (.seq (.seq (.sem (.reg [Qb 47 0 6,
Qd 48 47,
Qb 49 0 7,
Qd 50 49,
sq 51 (.bin .neq (.t 48) (.t 50)),
Qa 52 51,
Qs 53 52 false 1 6,
Qt 54 52 false 53,
Qs 55 52 false 1 7,
Qt 56 52 false 55,
zg 57 52 false (.bin .neq (.t 54) (.t 56)),
Qj 58 52 57,
Qa 59 58,
Qs 60 59 false 2 6,
Qt 61 59 false 60,
zg 62 59 false (.len (.t 61)),
Qs 63 59 false 2 7,
Qt 64 59 false 63,
zg 65 59 false (.len (.t 64)),
zg 66 59 false (.bin .neq (.t 62) (.t 65)),
Qj 67 59 66]))
 (.cond (.t 67)
 (.seq (.reg [Qf 4 false])
 .ret)
 .skip))
 (.seq (.reg [Qe 8 0])
 (.sem (.block 2 (.loop (.seq (.seq (.reg [Qa 68 8,
Qb 69 2 6,
Qd 70 69,
Qh 71 70,
Qn 72 68 71])
 (.cond (.t 72)
 .skip
 (.exit 2)))
 (.seq (.block 3 (.seq (.regd [Qb 75 2 6,
sd 76 (.load none (.t 75)) [0],
Qa 77 8,
sd 78 (.indexA 1 (.t 76) (.t 77)) [0,1,2],
sd 79 (.load none (.t 78)) [0,1,2,3],
Qb 80 2 7,
sd 81 (.load none (.t 80)) [5],
Qa 82 8,
sd 83 (.indexA 1 (.t 81) (.t 82)) [5,6,7],
sd 84 (.load none (.t 83)) [5,6,7,8],
sd 85 (.bin .neq (.t 79) (.t 84)) [0,1,2,3,4,5,6,7,8,9]])
 (.cond (.t 85)
 (.seq (.reg [Qf 4 false])
 .ret)
 .skip)))
 (.reg [Qa 73 8,
Qm 74 73 1,
Qa 8 74]))))))))))
 (.reg [Qa 35 5,
Qm 36 35 1,
Qa 5 36])))))))
 (.seq (.reg [Qf 4 true])
 .ret))))⟩
theorem F40_ok{x0 x1 r}(h:F40 x0 x1=some r):An Tryz.prog 40 [.agg (Bj x0),.agg (Bj x1)] [] (AL [.c (dB r)]) []:=by
 rw[F40]at h
 refine zc a40 (by kernel_rfl) rfl (ww ?_)
 obtain⟨o1,ho,h⟩:=bi h
 refine AB (fun s=>s=⟨[(2,Pz 0),(3,Pz 1),(29,oc (dB o1))],[xb (Bj x0),xb (Bj x1)]⟩) ?_ ?_
 ·have h:=ho
  clear ho
  refine ww ?_
  refine Af h (fun g2 h=>ww ?_) (fun g2 h=>ww ?_)
  ·cases h
   exact eM [some 0,some 1] rfl
  refine Af h (fun g3 h=>ww ?_) (fun g3 h=>ww ?_)
  ·cases h
   exact eM [some 0,some 1] rfl
  cases h
  exact eM [some 0,some 1] rfl
 rintro _ rfl
 clear ho
 refine ww ?_
 refine AE h (fun c4 h=>ww ?_) (fun c4 h=>ww ?_)
 ·cases h
  exact eF []
 obtain⟨o5,ho,h⟩:=bi h
 refine AB (fun s=>∃po5,o5=Sum.inr po5∧s=⟨[],[]⟩) ?_ ?_
 ·have h0o5:=h
  have h:=ho
  clear ho
  obtain⟨_,hk,h⟩:=bi h
  have hk:=AS hk
  refine ww ?_
  refine bL (fun j s=>∃(o5_0:Nat),(o5_0≤x0.Selector.length∧j=x0.Selector.length-o5_0)∧s=⟨[(2,Pz 0),(3,Pz 1),(5,oc (dI ((o5_0:Int))))],[xb (Bj x0),xb (Bj x1)]⟩∧F40_l5 x1 (x0.Selector.drop o5_0) o5_0=some o5) (x0.Selector.length-0) [some 0,some 1] ⟨0,⟨hk.1,rfl⟩,rfl,h⟩ ?_
  rintro _ _ ⟨o5_0,⟨hi,rfl⟩,rfl,h⟩
  refine ww ?_
  refine Bg (fun c6=>?_) (fun c6=>?_)
  ·obtain⟨xo5,hxo5,hd⟩:=A5 (show(o5_0:Int)<(x0.Selector.length:Int)from c6)
   rw[hd,F40_l5]at h
   refine ww ?_
   refine Az (enc:=Al) (xs:=x0.Selector) rfl rfl hxo5 rfl (ww ?_)
   obtain⟨y7,hy7,h⟩:=bi h
   refine Az (enc:=Al) (xs:=x1.Selector) rfl rfl hy7 rfl (ww ?_)
   refine B3 (by simp[wrs,B8,BV]) (ww ?_)
   refine B3 (by simp[wrs,B8,BV]) (ww ?_)
   obtain⟨o8,ho,h⟩:=bi h
   refine AB (fun s=>s=⟨[(2,Pz 0),(3,Pz 1),(5,oc (dI ((o5_0:Int)))),(6,Pz 2),(7,Pz 3),(67,oc (dB o8))],[xb (Bj x0),xb (Bj x1),xb (By xo5),xb (By y7)]⟩) ?_ ?_
   ·have h:=ho
    clear ho
    refine ww ?_
    refine Af h (fun g9 h=>ww ?_) (fun g9 h=>ww ?_)
    ·cases h
     exact eM [some 0,some 1,some 2,some 3] rfl
    refine Af h (fun g10 h=>ww ?_) (fun g10 h=>ww ?_)
    ·cases h
     exact eM [some 0,some 1,some 2,some 3] rfl
    cases h
    exact eM [some 0,some 1,some 2,some 3] rfl
   rintro _ rfl
   clear ho
   refine ww ?_
   refine AE h (fun c11 h=>ww ?_) (fun c11 h=>ww ?_)
   ·obtain⟨fh0o5,hfh0o5,rfl⟩:=Option.map_eq_some_iff.1 h
    have h:=hfh0o5.trans h0o5
    cases h
    exact eF []
   obtain⟨o12,ho,h⟩:=bi h
   refine AB (fun s=>∃po12,o12=Sum.inr po12∧s=⟨[(2,Pz 0),(3,Pz 1),(5,oc (dI ((o5_0:Int))))],[xb (Bj x0),xb (Bj x1)]⟩) ?_ ?_
   ·have h0o12:=h
    have h:=ho
    clear ho
    obtain⟨_,hk,h⟩:=bi h
    have hk:=AS hk
    refine ww ?_
    refine bL (fun j s=>∃(o12_0:Nat),(o12_0≤xo5.Aq.length∧j=xo5.Aq.length-o12_0)∧s=⟨[(2,Pz 0),(3,Pz 1),(5,oc (dI ((o5_0:Int)))),(6,Pz 2),(7,Pz 3),(8,oc (dI ((o12_0:Int))))],[xb (Bj x0),xb (Bj x1),xb (By xo5),xb (By y7)]⟩∧F40_l12 y7 (xo5.Aq.drop o12_0) o12_0=some o12) (xo5.Aq.length-0) [some 0,some 1,some 2,some 3] ⟨0,⟨hk.1,rfl⟩,rfl,h⟩ ?_
    rintro _ _ ⟨o12_0,⟨hi,rfl⟩,rfl,h⟩
    refine ww ?_
    refine Bg (fun c13=>?_) (fun c13=>?_)
    ·obtain⟨xo12,hxo12,hd⟩:=A5 (show(o12_0:Int)<(xo5.Aq.length:Int)from c13)
     rw[hd,F40_l12]at h
     refine ww ?_
     refine Az (enc:=eS) (xs:=xo5.Aq) rfl rfl hxo12 rfl (ww ?_)
     obtain⟨y14,hy14,h⟩:=bi h
     refine Az (enc:=eS) (xs:=y7.Aq) rfl rfl hy14 rfl (ww ?_)
     refine AH h (fun c15 h=>ww ?_) (fun c15 h=>ww ?_)
     ·obtain⟨fh0o12,hfh0o12,rfl⟩:=Option.map_eq_some_iff.1 h
      have h:=hfh0o12.trans h0o12
      obtain⟨fh0o5,hfh0o5,rfl⟩:=Option.map_eq_some_iff.1 h
      have h:=hfh0o5.trans h0o5
      cases h
      exact eF []
     rw[AW (by omega)]
     exact eL' (xo5.Aq.length-(o12_0+1)) [some 0,some 1,some 2,some 3] ⟨o12_0+1,⟨by omega,rfl⟩,rfl,h⟩ (by omega)
    rw[A6 (show¬((o12_0:Int)<(xo5.Aq.length:Int))from c13),F40_l12]at h
    refine ww ?_
    cases h
    exact eM [some 0,some 1] ⟨_,rfl,rfl⟩
   rintro _ ⟨po12,rfl,rfl⟩
   clear ho
   dsimp only at h
   refine ww ?_
   rw[AW (by omega)]
   exact eL' (x0.Selector.length-(o5_0+1)) [some 0,some 1] ⟨o5_0+1,⟨by omega,rfl⟩,rfl,h⟩ (by omega)
  rw[A6 (show¬((o5_0:Int)<(x0.Selector.length:Int))from c6),F40_l5]at h
  refine ww ?_
  cases h
  exact eM [] ⟨_,rfl,rfl⟩
 rintro _ ⟨po5,rfl,rfl⟩
 clear ho
 dsimp only at h
 refine ww ?_
 cases h
 exact eF []
def F15(x0:Cache)(x1:Cache):Option (Bool):=(((if x0.Rev=x1.Rev then(if(((x0.Bq==x1.Bq)!=false))=true then(F40 x0.Filter x1.Filter).bind fun t4=>(if t4=true then(F25 x0.Aa x1.Aa).bind fun t6=>some t6 else some false)else some false)else some false)).bind fun o1=>some o1)
def a15:AFn:=⟨31,[(.tmp 4)],
 (.seq (.reg [Qg 2 0,
Qg 3 1,
Qf 4 false])
 (.seq (.sem (.reg [Qb 5 3 2,
Qd 6 5,
Qb 7 3 3,
Qd 8 7,
sq 9 (.bin .eql (.t 6) (.t 8)),
Qa 10 9,
Qs 11 10 true 4 2,
Qt 12 10 true 11,
Qs 13 10 true 4 3,
Qt 14 10 true 13,
zg 15 10 true (.beq false (.t 12) (.t 14)),
Qi 16 10 15,
Qa 17 16,
Qs 18 17 true 0 2,
Qu 19 17 true 3 18,
Qs 20 17 true 0 3,
Qu 21 17 true 3 20,
zg 22 17 true (.call 40 [(.t 19),(.t 21)]),
Qi 23 17 22,
Qa 24 23,
Qs 25 24 true 5 2,
Qt 26 24 true 25,
Qs 27 24 true 5 3,
Qt 28 24 true 27,
zg 29 24 true (.call 25 [(.t 26),(.t 28)]),
Qi 30 24 29,
Qa 4 30]))
 .ret))⟩
theorem F15_ok{x0 x1 r}(h:F15 x0 x1=some r):An Tryz.prog 15 [.agg (Ch x0),.agg (Ch x1)] [] (AL [.c (dB r)]) []:=by
 rw[F15]at h
 refine zc a15 (by kernel_rfl) rfl (ww ?_)
 obtain⟨o1,ho,h⟩:=bi h
 refine AB (fun s=>s=⟨[(4,oc (dB o1))],[]⟩) ?_ ?_
 ·have h:=ho
  clear ho
  refine ww ?_
  refine Af h (fun g2 h=>ww ?_) (fun g2 h=>ww ?_)
  ·refine AM h (fun g3 h=>ww ?_) (fun g3 h=>ww ?_)
   ·obtain⟨t4,ht4,h⟩:=bi h
    refine cN [] (F40_ok ht4) trivial (ww ?_)
    refine AM h (fun g5 h=>ww ?_) (fun g5 h=>ww ?_)
    ·obtain⟨t6,ht6,h⟩:=bi h
     refine cN [] (F25_ok ht6) trivial (ww ?_)
     cases h
     exact eM [] rfl
    cases h
    exact eM [] rfl
   cases h
   exact eM [] rfl
  cases h
  exact eM [] rfl
 rintro _ rfl
 clear ho
 refine ww ?_
 cases h
 exact eF []
def F5(x0:(List TOp))(x1:Cache)(x2:Int):Option (Bool):=(((F19 x0).bind fun t2=>(if(nb t2)=true then some true else(F8 x1).bind fun t4=>some (nb t4))).bind fun o1=>(if o1=true then(F10).bind fun t6=>some t6 else(F20 x0).bind fun t7=>(F21 ((⟨(t7).Rev,(t7).As,(t7).Am,(t7).Bt,(t7).Aa,(t7).Ac⟩:Ag)) x1 x2).bind fun t8=>(F22 ((⟨(t7).Rev,(t7).As,(t7).Am,(t7).Bt,(t7).Aa,(t7).Ac⟩:Ag)) x1 x2).bind fun t9=>(((if(((t8.2.2.2.2==t9.2.2.2.2.2.2)!=false))=true then(F15 ((⟨(⟨x1.Filter.Kind,x1.Filter.Namespace,t8.1⟩:Filter),t8.2.1,t8.2.2.1,t8.2.2.2.1⟩:Cache)) ((⟨(⟨t9.1,t9.2.1,t9.2.2.1⟩:Filter),t9.2.2.2.1,t9.2.2.2.2.1,t9.2.2.2.2.2.1⟩:Cache))).bind fun t12=>(if t12=true then(F10).bind fun t14=>some t14 else some false)else some false)).bind fun o10=>some o10)))
def a5:AFn:=⟨48,[(.tmp 6)],
 (.seq (.reg [Qg 4 1,
Qf 6 false])
 (.seq (.seq (.sem (.reg [Qa 12 0,
Qk 13 19 12,
Qq 14 13,
Qa 15 14,
Qu 16 15 false 6 4,
zg 17 15 false (.call 8 [(.t 16)]),
zg 18 15 false (.not (.t 17)),
Qj 19 15 18]))
 (.cond (.t 19)
 (.seq (.reg [sq 20 (.call 10 []),
Qa 6 20])
 .ret)
 .skip))
 (.seq (.reg [Qa 21 0,
Qk 22 20 21,
sq 7 (.zbox [dI 0,dI 0,dI 0,dN,dN,dN]),
su (.store 6 (.t 7) (.t 22))])
 (.seq (.reg [Qc 24 6 7,
Qc 25 6 4,
Qa 26 2,
sq 27 (.call 21 [(.t 24),(.t 25),(.t 26)]),
Qa 23 27,
Qo 28 23 0,
Qo 29 23 1,
sq 8 (.zbox [dS ⟨#[]⟩,dS ⟨#[]⟩,dN,dI 0,dB false,dN]),
su (.store 6 (.t 8) (.t 28)),
Qa 9 29])
 (.seq (.reg [Qc 31 6 7,
Qc 32 6 4,
Qa 33 2,
sq 34 (.call 22 [(.t 31),(.t 32),(.t 33)]),
Qa 30 34,
Qo 35 30 0,
Qo 36 30 1,
sq 10 (.zbox [dS ⟨#[]⟩,dS ⟨#[]⟩,dN,dI 0,dB false,dN]),
su (.store 6 (.t 10) (.t 35)),
Qa 11 36])
 (.seq (.sem (.reg [Qa 37 9,
Qa 38 11,
sq 39 (.beq false (.t 37) (.t 38)),
Qa 40 39,
Qu 41 40 true 6 8,
Qu 42 40 true 6 10,
zg 43 40 true (.call 15 [(.t 41),(.t 42)]),
Qi 44 40 43,
Qa 45 44,
zg 46 45 true (.call 10 []),
Qi 47 45 46,
Qa 6 47]))
 .ret))))))⟩
theorem F5_ok{x0 x1 x2 r}(h:F5 x0 x1 x2=some r):An Tryz.prog 5 [.c (dM (x0.map EX)),.agg (Ch x1),.c (dI x2)] [] (AL [.c (dB r)]) []:=by
 rw[F5]at h
 refine zc a5 (by kernel_rfl) rfl (ww ?_)
 obtain⟨o1,ho,h⟩:=bi h
 refine AB (fun s=>s=⟨[(0,oc (dM (x0.map EX))),(2,oc (dI x2)),(4,Pz 0),(19,oc (dB o1))],[xb (Ch x1)]⟩) ?_ ?_
 ·have h:=ho
  clear ho
  refine ww ?_
  obtain⟨t2,ht2,h⟩:=bi h
  refine cN [] (F19_ok ht2) trivial (ww ?_)
  refine AM h (fun g3 h=>ww ?_) (fun g3 h=>ww ?_)
  ·cases h
   exact eM [some 0] rfl
  obtain⟨t4,ht4,h⟩:=bi h
  refine cN [] (F8_ok ht4) trivial (ww ?_)
  cases h
  exact eM [some 0] rfl
 rintro _ rfl
 clear ho
 refine ww ?_
 refine AE h (fun c5 h=>ww ?_) (fun c5 h=>ww ?_)
 ·obtain⟨t6,ht6,h⟩:=bi h
  refine cN [] (F10_ok ht6) trivial (ww ?_)
  cases h
  exact eF []
 obtain⟨t7,ht7,h⟩:=bi h
 refine cN [] (F20_ok ht7) trivial (ww ?_)
 obtain⟨t8,ht8,h⟩:=bi h
 refine cN [] (F21_ok ht8) trivial (ww ?_)
 obtain⟨t9,ht9,h⟩:=bi h
 refine cN [] (F22_ok ht9) trivial (ww ?_)
 obtain⟨o10,ho,h⟩:=bi h
 refine AB (fun s=>s=⟨[(6,oc (dB o10))],[]⟩) ?_ ?_
 ·have h:=ho
  clear ho
  refine ww ?_
  refine AM h (fun g11 h=>ww ?_) (fun g11 h=>ww ?_)
  ·obtain⟨t12,ht12,h⟩:=bi h
   refine D8 (F15_ok ht12) (by simp only[Fm,Fs,hp,List.getElem?_cons_zero,List.getElem?_cons_succ,Option.join_some,List.drop_zero,BB,true_and,Nat.zero_add,List.length_map,Nat.le_refl,nrm,List.length_cons,List.length_nil,Nat.reduceAdd,Nat.reduceLeDiff,List.take_succ_cons,List.take_zero,List.take_nil,List.map_cons,List.map_nil,List.length_set,EE.down]) rfl ?_
   refine ww ?_
   refine AM h (fun g13 h=>ww ?_) (fun g13 h=>ww ?_)
   ·obtain⟨t14,ht14,h⟩:=bi h
    refine cN [] (F10_ok ht14) trivial (ww ?_)
    cases h
    exact eM [] rfl
   cases h
   exact eM [] rfl
  cases h
  exact eM [] rfl
 rintro _ rfl
 clear ho
 refine ww ?_
 cases h
 exact eF []
end Go.Proofs.YtdkmamiedcanfaaGreat
