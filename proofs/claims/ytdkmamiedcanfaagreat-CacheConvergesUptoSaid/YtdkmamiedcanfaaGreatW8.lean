/- Each Go function as a function over typed data, and its walk. -/
import Derived.Test.YtdkmamiedcanfaaGreatW0
import Derived.Test.YtdkmamiedcanfaaGreatW1
import Derived.Test.YtdkmamiedcanfaaGreatW2
import Derived.Test.YtdkmamiedcanfaaGreatW3
import Derived.Test.YtdkmamiedcanfaaGreatW4
import Derived.Test.YtdkmamiedcanfaaGreatW5
import Derived.Test.YtdkmamiedcanfaaGreatW6
namespace Go.Proofs.YtdkmamiedcanfaaGreat
open Go Go.Fw Go.Shelf
set_option maxRecDepth 100000
set_option maxHeartbeats 4000000
set_option linter.unusedSimpArgs false
set_option linter.unusedVariables false
def F127(x0:Meta):Option (Bool):=(((F160 x0.Kind).bind fun t2=>(if(nb t2)=true then some true else(if¬(x0.Namespace=(⟨#[]⟩:ByteArray))then(F161 x0.Namespace).bind fun t5=>(if(nb t5)=true then some true else(F161 x0.Name).bind fun t7=>some (nb t7))else(F161 x0.Name).bind fun t8=>some (nb t8)))).bind fun o1=>(if o1=true then some false else(((if x0.Uid<0 then some true else(if x0.Version<0 then some true else(if x0.Ai<0 then some true else(if x0.Created<0 then some true else(if x0.Ar<0 then some true else(if(nb x0.Av)=true then some (decide (¬(x0.Ar=0)))else some false))))))).bind fun o10=>(if o10=true then some false else(((F162 x0.Ax).bind fun t19=>(if t19=true then(F163 x0.AF).bind fun t21=>(if t21=true then(F164 x0.Au).bind fun t23=>(if t23=true then(F165 x0.Aj).bind fun t25=>some t25 else some false)else some false)else some false)).bind fun o18=>some o18)))))
def a127:AFn:=⟨75,[(.tmp 2)],
 (.seq (.reg [Qg 1 0,
Qf 2 false])
 (.seq (.seq (.sem (.reg [Qb 3 0 1,
Qd 4 3,
Qk 5 160 4,
Qq 6 5,
Qa 7 6,
Qs 8 7 false 1 1,
Qt 9 7 false 8,
zg 10 7 false (.bin .neq (.t 9) (kS ⟨#[]⟩)),
Qv 11 7 false 10,
Qs 12 11 true 1 1,
Qt 13 11 true 12,
zg 14 11 true (.call 161 [(.t 13)]),
zg 15 11 true (.not (.t 14)),
zg 16 7 false (.pick (.t 11) (.t 15) (kB false)),
Qj 17 7 16,
Qa 18 17,
Qs 19 18 false 2 1,
Qt 20 18 false 19,
zg 21 18 false (.call 161 [(.t 20)]),
zg 22 18 false (.not (.t 21)),
Qj 23 18 22]))
 (.cond (.t 23)
 (.seq (.reg [Qf 2 false])
 .ret)
 .skip))
 (.seq (.seq (.sem (.reg [Qb 24 3 1,
Qd 25 24,
sq 26 (.bin .lss (.t 25) (kI 0)),
Qa 27 26,
Qs 28 27 false 4 1,
Qt 29 27 false 28,
zg 30 27 false (.bin .lss (.t 29) (kI 0)),
Qj 31 27 30,
Qa 32 31,
Qs 33 32 false 5 1,
Qt 34 32 false 33,
zg 35 32 false (.bin .lss (.t 34) (kI 0)),
Qj 36 32 35,
Qa 37 36,
Qs 38 37 false 6 1,
Qt 39 37 false 38,
zg 40 37 false (.bin .lss (.t 39) (kI 0)),
Qj 41 37 40,
Qa 42 41,
Qs 43 42 false 8 1,
Qt 44 42 false 43,
zg 45 42 false (.bin .lss (.t 44) (kI 0)),
Qj 46 42 45,
Qa 47 46,
Qs 48 47 false 7 1,
Qt 49 47 false 48,
zg 50 47 false (.not (.t 49)),
Qv 51 47 false 50,
Qs 52 51 true 8 1,
Qt 53 51 true 52,
zg 54 51 true (.bin .neq (.t 53) (kI 0)),
zg 55 47 false (.pick (.t 51) (.t 54) (kB false)),
Qj 56 47 55]))
 (.cond (.t 56)
 (.seq (.reg [Qf 2 false])
 .ret)
 .skip))
 (.seq (.sem (.reg [Qb 57 9 1,
Qd 58 57,
Qk 59 162 58,
Qa 60 59,
Qs 61 60 true 10 1,
Qt 62 60 true 61,
zg 63 60 true (.call 163 [(.t 62)]),
Qi 64 60 63,
Qa 65 64,
Qs 66 65 true 11 1,
Qt 67 65 true 66,
zg 68 65 true (.call 164 [(.t 67)]),
Qi 69 65 68,
Qa 70 69,
Qs 71 70 true 12 1,
Qt 72 70 true 71,
zg 73 70 true (.call 165 [(.t 72)]),
Qi 74 70 73,
Qa 2 74]))
 .ret))))⟩
theorem F127_ok{x0 r}(h:F127 x0=some r):An Tryz.prog 127 [.agg (CT x0)] [] (AL [.c (dB r)]) []:=by
 rw[F127]at h
 refine zc a127 (by kernel_rfl) rfl (ww ?_)
 obtain⟨o1,ho,h⟩:=bi h
 refine AB (fun s=>s=⟨[(1,Pz 0),(23,oc (dB o1))],[xb (CT x0)]⟩) ?_ ?_
 ·have h:=ho
  clear ho
  refine ww ?_
  obtain⟨t2,ht2,h⟩:=bi h
  refine cN [] (F160_ok ht2) trivial (ww ?_)
  refine AM h (fun g3 h=>ww ?_) (fun g3 h=>ww ?_)
  ·cases h
   exact eM [some 0] rfl
  refine Af h (fun g4 h=>ww ?_) (fun g4 h=>ww ?_)
  ·obtain⟨t5,ht5,h⟩:=bi h
   refine cN [] (F161_ok ht5) trivial (ww ?_)
   refine AM h (fun g6 h=>ww ?_) (fun g6 h=>ww ?_)
   ·cases h
    exact eM [some 0] rfl
   obtain⟨t7,ht7,h⟩:=bi h
   refine cN [] (F161_ok ht7) trivial (ww ?_)
   cases h
   exact eM [some 0] rfl
  obtain⟨t8,ht8,h⟩:=bi h
  refine cN [] (F161_ok ht8) trivial (ww ?_)
  cases h
  exact eM [some 0] rfl
 rintro _ rfl
 clear ho
 refine ww ?_
 refine AE h (fun c9 h=>ww ?_) (fun c9 h=>ww ?_)
 ·cases h
  exact eF []
 obtain⟨o10,ho,h⟩:=bi h
 refine AB (fun s=>s=⟨[(1,Pz 0),(56,oc (dB o10))],[xb (CT x0)]⟩) ?_ ?_
 ·have h:=ho
  clear ho
  refine ww ?_
  refine Af h (fun g11 h=>ww ?_) (fun g11 h=>ww ?_)
  ·cases h
   exact eM [some 0] rfl
  refine Af h (fun g12 h=>ww ?_) (fun g12 h=>ww ?_)
  ·cases h
   exact eM [some 0] rfl
  refine Af h (fun g13 h=>ww ?_) (fun g13 h=>ww ?_)
  ·cases h
   exact eM [some 0] rfl
  refine Af h (fun g14 h=>ww ?_) (fun g14 h=>ww ?_)
  ·cases h
   exact eM [some 0] rfl
  refine Af h (fun g15 h=>ww ?_) (fun g15 h=>ww ?_)
  ·cases h
   exact eM [some 0] rfl
  refine AM h (fun g16 h=>ww ?_) (fun g16 h=>ww ?_)
  ·cases h
   exact eM [some 0] rfl
  cases h
  exact eM [some 0] rfl
 rintro _ rfl
 clear ho
 refine ww ?_
 refine AE h (fun c17 h=>ww ?_) (fun c17 h=>ww ?_)
 ·cases h
  exact eF []
 obtain⟨o18,ho,h⟩:=bi h
 refine AB (fun s=>s=⟨[(2,oc (dB o18))],[]⟩) ?_ ?_
 ·have h:=ho
  clear ho
  refine ww ?_
  obtain⟨t19,ht19,h⟩:=bi h
  refine cN [] (F162_ok ht19) trivial (ww ?_)
  refine AM h (fun g20 h=>ww ?_) (fun g20 h=>ww ?_)
  ·obtain⟨t21,ht21,h⟩:=bi h
   refine cN [] (F163_ok ht21) trivial (ww ?_)
   refine AM h (fun g22 h=>ww ?_) (fun g22 h=>ww ?_)
   ·obtain⟨t23,ht23,h⟩:=bi h
    refine cN [] (F164_ok ht23) trivial (ww ?_)
    refine AM h (fun g24 h=>ww ?_) (fun g24 h=>ww ?_)
    ·obtain⟨t25,ht25,h⟩:=bi h
     refine cN [] (F165_ok ht25) trivial (ww ?_)
     cases h
     exact eM [] rfl
    cases h
    exact eM [] rfl
   cases h
   exact eM [] rfl
  cases h
  exact eM [] rfl
 rintro _ rfl
 clear ho
 refine ww ?_
 cases h
 exact eF []
def F128(x0:Ab):Option (Bool):=(((F166k 1099511627776 x0 12).bind fun t2=>(if t2=true then(F54k 1099511627776 x0).bind fun t4=>some (decide (t4≤600))else some false)).bind fun o1=>some o1)
def a128:AFn:=⟨10,[(.tmp 2)],
 (.seq (.reg [Qg 1 0,
Qf 2 false])
 (.seq (.sem (.reg [Qc 3 5 1,
sq 4 (.call 166 [(.t 3),(kI 12)]),
Qa 5 4,
Qu 6 5 true 5 1,
zg 7 5 true (.call 54 [(.t 6)]),
zg 8 5 true (.bin .leq (.t 7) (kI 600)),
Qi 9 5 8,
Qa 2 9]))
 .ret))⟩
theorem F128_ok{x0 r}(h:F128 x0=some r):An Tryz.prog 128 [.agg (AJ x0)] [] (AL [.c (dB r)]) []:=by
 rw[F128]at h
 refine zc a128 (by kernel_rfl) rfl (ww ?_)
 obtain⟨o1,ho,h⟩:=bi h
 refine AB (fun s=>s=⟨[(2,oc (dB o1))],[]⟩) ?_ ?_
 ·have h:=ho
  clear ho
  refine ww ?_
  obtain⟨t2,ht2,h⟩:=bi h
  refine cN [] (F166k_ok 1099511627776 ht2) trivial (ww ?_)
  refine AM h (fun g3 h=>ww ?_) (fun g3 h=>ww ?_)
  ·obtain⟨t4,ht4,h⟩:=bi h
   refine cN [] (F54k_ok 1099511627776 ht4) trivial (ww ?_)
   cases h
   exact eM [] rfl
  cases h
  exact eM [] rfl
 rintro _ rfl
 clear ho
 refine ww ?_
 cases h
 exact eF []
def F94(x0:Object):Option (Bool):=(((F127 x0.Meta).bind fun t2=>(if t2=true then(F128 x0.Spec).bind fun t4=>(if t4=true then(F128 x0.Status).bind fun t6=>some t6 else some false)else some false)).bind fun o1=>some o1)
def a94:AFn:=⟨16,[(.tmp 2)],
 (.seq (.reg [Qg 1 0,
Qf 2 false])
 (.seq (.sem (.reg [Qb 3 0 1,
Qc 4 13 3,
Qk 5 127 4,
Qa 6 5,
Qs 7 6 true 13 1,
Qu 8 6 true 5 7,
zg 9 6 true (.call 128 [(.t 8)]),
Qi 10 6 9,
Qa 11 10,
Qs 12 11 true 18 1,
Qu 13 11 true 5 12,
zg 14 11 true (.call 128 [(.t 13)]),
Qi 15 11 14,
Qa 2 15]))
 .ret))⟩
theorem F94_ok{x0 r}(h:F94 x0=some r):An Tryz.prog 94 [.agg (Bc x0)] [] (AL [.c (dB r)]) []:=by
 rw[F94]at h
 refine zc a94 (by kernel_rfl) rfl (ww ?_)
 obtain⟨o1,ho,h⟩:=bi h
 refine AB (fun s=>s=⟨[(2,oc (dB o1))],[]⟩) ?_ ?_
 ·have h:=ho
  clear ho
  refine ww ?_
  obtain⟨t2,ht2,h⟩:=bi h
  refine cN [] (F127_ok ht2) trivial (ww ?_)
  refine AM h (fun g3 h=>ww ?_) (fun g3 h=>ww ?_)
  ·obtain⟨t4,ht4,h⟩:=bi h
   refine cN [] (F128_ok ht4) trivial (ww ?_)
   refine AM h (fun g5 h=>ww ?_) (fun g5 h=>ww ?_)
   ·obtain⟨t6,ht6,h⟩:=bi h
    refine cN [] (F128_ok ht6) trivial (ww ?_)
    cases h
    exact eM [] rfl
   cases h
   exact eM [] rfl
  cases h
  exact eM [] rfl
 rintro _ rfl
 clear ho
 refine ww ?_
 cases h
 exact eF []
def F123_l1(x1:Object):List Object→Nat→(List Object)→Bool→Option ((List Object)×Bool)
 |[],o1_2,o1_0,o1_1=>some ((o1_0,o1_1))
 |xo1::xs,o1_2,o1_0,o1_1=>(((((((if(nb o1_1)=true then(F92 xo1).bind fun t7=>(F92 x1).bind fun t8=>some (nb (Op.bytesLess t7.toList t8.toList))else some false)).bind fun o5=>(if o5=true then(apI o1_0 ([x1])).bind fun a10=>(F92 xo1).bind fun t11=>(F92 x1).bind fun t12=>(if t11=t12 then(some ((a10,true))).map Sum.inl else some (Sum.inr ((a10,true))))else some (Sum.inr ((o1_0,o1_1))))):Option (((List Object)×Bool) ⊕ ((List Object)×Bool))).bind fun o4=>match o4 with|Sum.inl f=>some f|Sum.inr po4=>(apI po4.1 ([xo1])).bind fun a14=>some ((a14,po4.2)))).bind fun o3=>F123_l1 x1 xs (o1_2+1) o3.1 o3.2)
def F123(x0:(List Object))(x1:Object):Option ((List Object)):=(((ck (0≤x0.length∧x0.length≤4294967290)).bind fun u15=>F123_l1 x1 x0 0 ([]) false).bind fun o1=>(if(nb o1.2)=true then(apI o1.1 ([x1])).bind fun a17=>some a17 else some o1.1))
def a123:AFn:=⟨53,[(.tmp 4)],
 (.seq (.reg [Qg 3 1,
sq 4 (.mv kN)])
 (.seq (.reg [sq 8 (.bslice 23 []),
Qa 5 8])
 (.seq (.reg [Qf 6 false])
 (.seq (.seq (.reg [Qe 7 0])
 (.sem (.block 0 (.loop (.seq (.seq (.reg [Qa 9 7,
Qa 10 0,
Qh 11 10,
Qn 12 9 11])
 (.cond (.t 12)
 .skip
 (.exit 0)))
 (.seq (.sem (.block 1 (.seq (.sem (.seq (.sem (.regd [Qa 15 6,
sd 16 (.not (.t 15)) [0],
sd 17 (.mv (.t 16)) [0,1],
⟨(some 18),(some (17,true)),.mv (.t 0),[0,1,2],(.new [])⟩,
⟨(some 19),(some (17,true)),.mv (.t 7),[0,1,2],(.new [])⟩,
⟨(some 20),(some (17,true)),.indexA 23 (.t 18) (.t 19),[0,1,2,3,4],(.new [])⟩,
⟨(some 21),(some (17,true)),.load (some 23) (.t 20),[0,1,2,3,4,5],(.new [])⟩,
⟨(some 22),(some (17,true)),.call 92 [(.t 21)],[0,1,2,3,4,5,6],(.new [3,4,5,6])⟩,
⟨(some 23),(some (17,true)),.load (some 23) (.t 3),[0,1,2],(.new [])⟩,
⟨(some 24),(some (17,true)),.call 92 [(.t 23)],[0,1,2,3,4,5,6,7,8],(.lone [])⟩,
⟨(some 25),(some (17,true)),.bin .geq (.t 22) (.t 24),[0,1,2,3,4,5,6,7,8,9],(.new [])⟩,
zl 26 (.pick (.t 17) (.t 25) (kB false)) [0,1,2,3,4,5,6,7,8,9,10] []]))
 (.cond (.t 26)
 (.seq (.reg [Qa 27 5,
Qc 28 23 3,
sq 29 (.bslice 23 [(.t 28)]),
sq 30 (.app 23 352 (.t 27) (.t 29)),
Qa 5 30])
 (.seq (.reg [Qf 6 true])
 (.seq (.regd [Qa 31 0,
Qa 32 7,
sd 33 (.indexA 23 (.t 31) (.t 32)) [0,1],
sd 34 (.load (some 23) (.t 33)) [0,1,2],
zn 35 (.call 92 [(.t 34)]) [0,1,2,3] [0,1,2,3],
Qc 36 23 3,
zl 37 (.call 92 [(.t 36)]) [0,1,2,3,4,5] [],
sd 38 (.bin .eql (.t 35) (.t 37)) [0,1,2,3,4,5,6]])
 (.cond (.t 38)
 (.exit 1)
 .skip))))
 .skip)))
 (.reg [Qa 39 5,
Qa 40 0,
Qa 41 7,
Qp 42 23 40 41,
Qc 43 23 42,
sq 44 (.bslice 23 [(.t 43)]),
sq 45 (.app 23 352 (.t 39) (.t 44)),
Qa 5 45]))))
 (.reg [Qa 13 7,
Qm 14 13 1,
Qa 7 14])))))))
 (.seq (.seq (.reg [Qa 46 6,
Qq 47 46])
 (.cond (.t 47)
 (.reg [Qa 48 5,
Qc 49 23 3,
sq 50 (.bslice 23 [(.t 49)]),
sq 51 (.app 23 352 (.t 48) (.t 50)),
Qa 5 51])
 .skip))
 (.seq (.reg [Qa 52 5,
Qa 4 52])
 .ret))))))⟩
theorem F123_ok{x0 x1 r}(h:F123 x0 x1=some r):An Tryz.prog 123 [.c (dM (x0.map Ad)),.agg (Bc x1)] [] (AL [.c (.own 0 0 0 (r.length) none)]) [some (.arr 0 23 (r.map Ad))]:=by
 rw[F123]at h
 refine zc a123 (by kernel_rfl) rfl (ww ?_)
 refine BE (enc:=Ad) (ys:=([]:List Object)) rfl rfl (by simp[A1.cells]) (by first|rfl|(simp only[List.drop_zero,Aw];rfl)|(simp only[lit,List.map_cons,List.map_nil,List.drop_zero,Aw,EE.down];done)|(simp only[lit,List.map_cons,List.map_nil,List.drop_zero,Aw,EE.down];rfl)) (ww ?_)
 obtain⟨o1,ho,h⟩:=bi h
 refine AB (fun s=>s=⟨[(3,Pz 0),(5,oc (.own 1 0 0 (o1.1.length) none)),(6,oc (dB o1.2))],[xb (Bc x1),some (.arr 0 23 (o1.1.map Ad))]⟩) ?_ ?_
 ·have h:=ho
  clear ho
  obtain⟨_,hk,h⟩:=bi h
  have hk:=AS hk
  refine ww ?_
  refine bL (fun j s=>∃(o1_2:Nat) (o1_0:List Object) (o1_1:Bool),(o1_2≤x0.length∧j=x0.length-o1_2)∧s=⟨[(0,oc (dM (x0.map Ad))),(3,Pz 0),(5,oc (.own 1 0 0 (o1_0.length) none)),(6,oc (dB o1_1)),(7,oc (dI ((o1_2:Int))))],[xb (Bc x1),some (.arr 0 23 (o1_0.map Ad))]⟩∧F123_l1 x1 (x0.drop o1_2) o1_2 o1_0 o1_1=some o1) (x0.length-0) [some 0,some 1] ⟨0,[],false,⟨hk.1,rfl⟩,rfl,h⟩ ?_
  rintro _ _ ⟨o1_2,o1_0,o1_1,⟨hi,rfl⟩,rfl,h⟩
  refine ww ?_
  refine Bg (fun c2=>?_) (fun c2=>?_)
  ·obtain⟨xo1,hxo1,hd⟩:=A5 (show(o1_2:Int)<(x0.length:Int)from c2)
   rw[hd,F123_l1]at h
   refine ww ?_
   obtain⟨o3,ho,h⟩:=bi h
   refine AB (fun s=>s=⟨[(0,oc (dM (x0.map Ad))),(3,Pz 0),(5,oc (.own 1 0 0 (o3.1.length) none)),(6,oc (dB o3.2)),(7,oc (dI ((o1_2:Int))))],[xb (Bc x1),some (.arr 0 23 (o3.1.map Ad))]⟩) ?_ ?_
   ·have h:=ho
    clear ho
    refine ww ?_
    obtain⟨o4,ho,h⟩:=bi h
    refine AB (fun s=>∃po4,o4=Sum.inr po4∧s=⟨[(0,oc (dM (x0.map Ad))),(3,Pz 0),(5,oc (.own 1 0 0 (po4.1.length) none)),(6,oc (dB po4.2)),(7,oc (dI ((o1_2:Int))))],[xb (Bc x1),some (.arr 0 23 (po4.1.map Ad))]⟩) ?_ ?_
    ·have h0o4:=h
     have h:=ho
     clear ho
     refine ww ?_
     obtain⟨o5,ho,h⟩:=bi h
     refine AB (fun s=>s=⟨[(0,oc (dM (x0.map Ad))),(3,Pz 0),(5,oc (.own 1 0 0 (o1_0.length) none)),(6,oc (dB o1_1)),(7,oc (dI ((o1_2:Int)))),(26,oc (dB o5))],[xb (Bc x1),some (.arr 0 23 (o1_0.map Ad))]⟩) ?_ ?_
     ·have h:=ho
      clear ho
      refine ww ?_
      refine Cm h (fun g6 h=>ww ?_) (fun g6 h=>ww ?_)
      ·refine Az (enc:=Ad) (xs:=x0) rfl rfl hxo1 rfl (ww ?_)
       obtain⟨t7,ht7,h⟩:=bi h
       refine cN [] (F92_ok ht7) trivial (ww ?_)
       obtain⟨t8,ht8,h⟩:=bi h
       refine cN [] (F92_ok ht8) trivial (ww ?_)
       cases h
       exact eM [some 0,some 1] rfl
      cases h
      exact eM [some 0,some 1] rfl
     rintro _ rfl
     clear ho
     refine ww ?_
     refine AE h (fun c9 h=>ww ?_) (fun c9 h=>ww ?_)
     ·refine BE (enc:=Ad) (ys:=[x1]) rfl rfl (by simp[A1.cells]) (by first|rfl|(simp only[List.drop_zero,Aw];rfl)|(simp only[lit,List.map_cons,List.map_nil,List.drop_zero,Aw,EE.down];done)|(simp only[lit,List.map_cons,List.map_nil,List.drop_zero,Aw,EE.down];rfl)) (ww ?_)
      obtain⟨a10,ha10,h⟩:=bi h
      refine D6 (enc:=Ad) (xs:=o1_0) rfl rfl (by first|rfl|simp only[List.length_set]|exact(AN (AX (by assumption))).symm) rfl (Co (enc:=Ad) (by first|rfl|simp only[List.length_set]|exact(AN (AX (by assumption))).symm) rfl) ha10 (ww ?_)
      refine Az (enc:=Ad) (xs:=x0) rfl rfl hxo1 rfl (ww ?_)
      obtain⟨t11,ht11,h⟩:=bi h
      refine cN [] (F92_ok ht11) trivial (ww ?_)
      obtain⟨t12,ht12,h⟩:=bi h
      refine cN [] (F92_ok ht12) trivial (ww ?_)
      refine AH h (fun c13 h=>ww ?_) (fun c13 h=>ww ?_)
      ·obtain⟨fh0o4,hfh0o4,rfl⟩:=Option.map_eq_some_iff.1 h
       have h:=hfh0o4.trans h0o4
       cases h
       exact eM [some 0,some 1] rfl
      cases h
      exact eM [some 0,some 1] ⟨_,rfl,rfl⟩
     cases h
     exact eM [some 0,some 1] ⟨_,rfl,rfl⟩
    rintro _ ⟨po4,rfl,rfl⟩
    clear ho
    dsimp only at h
    refine ww ?_
    refine Az (enc:=Ad) (xs:=x0) rfl rfl hxo1 rfl (ww ?_)
    refine BE (enc:=Ad) (ys:=[xo1]) rfl rfl (by simp[A1.cells]) (by first|rfl|(simp only[List.drop_zero,Aw];rfl)|(simp only[lit,List.map_cons,List.map_nil,List.drop_zero,Aw,EE.down];done)|(simp only[lit,List.map_cons,List.map_nil,List.drop_zero,Aw,EE.down];rfl)) (ww ?_)
    obtain⟨a14,ha14,h⟩:=bi h
    refine D6 (enc:=Ad) (xs:=po4.1) rfl rfl (by first|rfl|simp only[List.length_set]|exact(AN (AX (by assumption))).symm) rfl (Co (enc:=Ad) (by first|rfl|simp only[List.length_set]|exact(AN (AX (by assumption))).symm) rfl) ha14 (ww ?_)
    cases h
    exact eM [some 0,some 1] rfl
   rintro _ rfl
   clear ho
   refine ww ?_
   rw[AW (by omega)]
   exact eL' (x0.length-(o1_2+1)) [some 0,some 1] ⟨o1_2+1,o3.1,o3.2,⟨by omega,rfl⟩,rfl,h⟩ (by omega)
  rw[A6 (show¬((o1_2:Int)<(x0.length:Int))from c2),F123_l1]at h
  refine ww ?_
  cases h
  exact eM [some 0,some 1] rfl
 rintro _ rfl
 clear ho
 refine ww ?_
 refine AE h (fun c16 h=>ww ?_) (fun c16 h=>ww ?_)
 ·refine BE (enc:=Ad) (ys:=[x1]) rfl rfl (by simp[A1.cells]) (by first|rfl|(simp only[List.drop_zero,Aw];rfl)|(simp only[lit,List.map_cons,List.map_nil,List.drop_zero,Aw,EE.down];done)|(simp only[lit,List.map_cons,List.map_nil,List.drop_zero,Aw,EE.down];rfl)) (ww ?_)
  obtain⟨a17,ha17,h⟩:=bi h
  refine D6 (enc:=Ad) (xs:=o1.1) rfl rfl (by first|rfl|simp only[List.length_set]|exact(AN (AX (by assumption))).symm) rfl (Co (enc:=Ad) (by first|rfl|simp only[List.length_set]|exact(AN (AX (by assumption))).symm) rfl) ha17 (ww ?_)
  cases h
  exact eF [some 1]
 cases h
 exact eF [some 1]
def F124_l1(x1:ByteArray):List Object→Nat→(List Object)→Option ((List Object))
 |[],o1_1,o1_0=>some o1_0
 |xo1::xs,o1_1,o1_0=>(((F92 xo1).bind fun t4=>(if¬(t4=x1)then(apI o1_0 ([xo1])).bind fun a6=>some a6 else some o1_0)).bind fun o3=>F124_l1 x1 xs (o1_1+1) o3)
def F124(x0:(List Object))(x1:ByteArray):Option ((List Object)):=(((ck (0≤x0.length∧x0.length≤4294967290)).bind fun u7=>F124_l1 x1 x0 0 ([])).bind fun o1=>some o1)
def a124:AFn:=⟨29,[(.tmp 4)],
 (.seq (.reg [sq 4 (.mv kN)])
 (.seq (.reg [sq 7 (.bslice 23 []),
Qa 5 7])
 (.seq (.seq (.reg [Qe 6 0])
 (.sem (.block 0 (.loop (.seq (.seq (.reg [Qa 8 6,
Qa 9 0,
Qh 10 9,
Qn 11 8 10])
 (.cond (.t 11)
 .skip
 (.exit 0)))
 (.seq (.sem (.block 1 (.seq (.reg [Qa 14 0,
Qa 15 6,
Qp 16 23 14 15,
Qc 17 23 16,
Qk 18 92 17,
Qa 19 1,
sq 20 (.bin .neq (.t 18) (.t 19))])
 (.cond (.t 20)
 (.reg [Qa 21 5,
Qa 22 0,
Qa 23 6,
Qp 24 23 22 23,
Qc 25 23 24,
sq 26 (.bslice 23 [(.t 25)]),
sq 27 (.app 23 352 (.t 21) (.t 26)),
Qa 5 27])
 .skip))))
 (.reg [Qa 12 6,
Qm 13 12 1,
Qa 6 13])))))))
 (.seq (.reg [Qa 28 5,
Qa 4 28])
 .ret))))⟩
theorem F124_ok{x0 x1 r}(h:F124 x0 x1=some r):An Tryz.prog 124 [.c (dM (x0.map Ad)),.c (dS x1)] [] (AL [.c (.own 0 0 0 (r.length) none)]) [some (.arr 0 23 (r.map Ad))]:=by
 rw[F124]at h
 refine zc a124 (by kernel_rfl) rfl (ww ?_)
 refine BE (enc:=Ad) (ys:=([]:List Object)) rfl rfl (by simp[A1.cells]) (by first|rfl|(simp only[List.drop_zero,Aw];rfl)|(simp only[lit,List.map_cons,List.map_nil,List.drop_zero,Aw,EE.down];done)|(simp only[lit,List.map_cons,List.map_nil,List.drop_zero,Aw,EE.down];rfl)) (ww ?_)
 obtain⟨o1,ho,h⟩:=bi h
 refine AB (fun s=>s=⟨[(5,oc (.own 0 0 0 (o1.length) none))],[some (.arr 0 23 (o1.map Ad))]⟩) ?_ ?_
 ·have h:=ho
  clear ho
  obtain⟨_,hk,h⟩:=bi h
  have hk:=AS hk
  refine ww ?_
  refine bL (fun j s=>∃(o1_1:Nat) (o1_0:List Object),(o1_1≤x0.length∧j=x0.length-o1_1)∧s=⟨[(0,oc (dM (x0.map Ad))),(1,oc (dS x1)),(5,oc (.own 0 0 0 (o1_0.length) none)),(6,oc (dI ((o1_1:Int))))],[some (.arr 0 23 (o1_0.map Ad))]⟩∧F124_l1 x1 (x0.drop o1_1) o1_1 o1_0=some o1) (x0.length-0) [some 0] ⟨0,[],⟨hk.1,rfl⟩,rfl,h⟩ ?_
  rintro _ _ ⟨o1_1,o1_0,⟨hi,rfl⟩,rfl,h⟩
  refine ww ?_
  refine Bg (fun c2=>?_) (fun c2=>?_)
  ·obtain⟨xo1,hxo1,hd⟩:=A5 (show(o1_1:Int)<(x0.length:Int)from c2)
   rw[hd,F124_l1]at h
   refine ww ?_
   obtain⟨o3,ho,h⟩:=bi h
   refine AB (fun s=>s=⟨[(0,oc (dM (x0.map Ad))),(1,oc (dS x1)),(5,oc (.own 0 0 0 (o3.length) none)),(6,oc (dI ((o1_1:Int))))],[some (.arr 0 23 (o3.map Ad))]⟩) ?_ ?_
   ·have h:=ho
    clear ho
    refine ww ?_
    refine Az (enc:=Ad) (xs:=x0) rfl rfl hxo1 rfl (ww ?_)
    obtain⟨t4,ht4,h⟩:=bi h
    refine cN [] (F92_ok ht4) trivial (ww ?_)
    refine AH h (fun c5 h=>ww ?_) (fun c5 h=>ww ?_)
    ·refine Az (enc:=Ad) (xs:=x0) rfl rfl hxo1 rfl (ww ?_)
     refine BE (enc:=Ad) (ys:=[xo1]) rfl rfl (by simp[A1.cells]) (by first|rfl|(simp only[List.drop_zero,Aw];rfl)|(simp only[lit,List.map_cons,List.map_nil,List.drop_zero,Aw,EE.down];done)|(simp only[lit,List.map_cons,List.map_nil,List.drop_zero,Aw,EE.down];rfl)) (ww ?_)
     obtain⟨a6,ha6,h⟩:=bi h
     refine D6 (enc:=Ad) (xs:=o1_0) rfl rfl (by first|rfl|simp only[List.length_set]|exact(AN (AX (by assumption))).symm) rfl (Co (enc:=Ad) (by first|rfl|simp only[List.length_set]|exact(AN (AX (by assumption))).symm) rfl) ha6 (ww ?_)
     cases h
     exact eM [some 0] rfl
    cases h
    exact eM [some 0] rfl
   rintro _ rfl
   clear ho
   refine ww ?_
   rw[AW (by omega)]
   exact eL' (x0.length-(o1_1+1)) [some 0] ⟨o1_1+1,o3,⟨by omega,rfl⟩,rfl,h⟩ (by omega)
  rw[A6 (show¬((o1_1:Int)<(x0.length:Int))from c2),F124_l1]at h
  refine ww ?_
  cases h
  exact eM [some 0] rfl
 rintro _ rfl
 clear ho
 refine ww ?_
 cases h
 exact eF [some 0]
def F91(x0:(List Object))(x1:Change):Option ((List Object)):=(if x1.Kind=1 then(F123 x0 x1.Object).bind fun t2=>some t2 else(F92 x1.Object).bind fun t3=>(F124 x0 t3).bind fun t4=>some t4)
def a91:AFn:=⟨17,[(.tmp 4)],
 (.seq (.reg [Qg 3 1,
sq 4 (.mv kN)])
 (.seq (.seq (.reg [Qb 5 1 3,
Qd 6 5,
Qr 7 6 1])
 (.cond (.t 7)
 (.seq (.reg [Qa 8 0,
Qb 9 2 3,
Qc 10 23 9,
Ql 11 123 8 10,
Qa 4 11])
 .ret)
 .skip))
 (.seq (.reg [Qa 12 0,
Qb 13 2 3,
Qc 14 23 13,
Qk 15 92 14,
Ql 16 124 12 15,
Qa 4 16])
 .ret)))⟩
theorem F91_ok{x0 x1 r}(h:F91 x0 x1=some r):An Tryz.prog 91 [.c (dM (x0.map Ad)),.agg (EY x1)] [] (AL [.c (.own 0 0 0 (r.length) none)]) [some (.arr 0 23 (r.map Ad))]:=by
 rw[F91]at h
 refine zc a91 (by kernel_rfl) rfl (ww ?_)
 refine AH h (fun c1 h=>ww ?_) (fun c1 h=>ww ?_)
 ·obtain⟨t2,ht2,h⟩:=bi h
  refine cN [] (F123_ok ht2) trivial (ww ?_)
  cases h
  exact eF [some 1]
 obtain⟨t3,ht3,h⟩:=bi h
 refine cN [] (F92_ok ht3) trivial (ww ?_)
 obtain⟨t4,ht4,h⟩:=bi h
 refine cN [] (F124_ok ht4) trivial (ww ?_)
 cases h
 exact eF [some 1]
def F79(x0:Ah):Option (Bool):=(F80 x0).bind fun t1=>some (nb t1)
def a79:AFn:=⟨6,[(.tmp 2)],
 (.seq (.reg [Qg 1 0,
Qf 2 false])
 (.seq (.reg [Qc 3 3 1,
Qk 4 80 3,
Qq 5 4,
Qa 2 5])
 .ret))⟩
theorem F79_ok{x0 r}(h:F79 x0=some r):An Tryz.prog 79 [.agg (By x0)] [] (AL [.c (dB r)]) []:=by
 rw[F79]at h
 refine zc a79 (by kernel_rfl) rfl (ww ?_)
 obtain⟨t1,ht1,h⟩:=bi h
 refine cN [] (F80_ok ht1) trivial (ww ?_)
 cases h
 exact eF []
def F111_l1:List Ah→Nat→Option ((Int) ⊕ (Unit))
 |[],o1_0=>some (Sum.inr (()))
 |xo1::xs,o1_0=>(F79 xo1).bind fun t3=>(if t3=true then(some ((o1_0:Int))).map Sum.inl else F111_l1 xs (o1_0+1))
def F111(x0:(List Ah)):Option (Int):=(((ck (0≤x0.length∧x0.length≤4294967290)).bind fun u5=>F111_l1 x0 0:Option ((Int) ⊕ (Unit))).bind fun o1=>match o1 with|Sum.inl f=>some f|Sum.inr po1=>some ((-1)))
def a111:AFn:=⟨19,[(.tmp 4)],
 (.seq (.reg [Qe 4 0])
 (.seq (.seq (.reg [Qa 6 0,
Qh 7 6,
Qe 8 0])
 (.sem (.block 0 (.loop (.seq (.reg [Qn 9 8 7])
 (.seq (.cond (.t 9)
 .skip
 (.exit 0))
 (.seq (.block 1 (.seq (.reg [Qa 10 8,
Qa 5 10])
 (.seq (.reg [Qa 11 1,
Qa 12 0,
Qa 13 5,
Qp 14 3 12 13,
Qc 15 3 14,
zl 16 (.callv (.t 11) [(.t 15)]) [] [12,14]])
 (.cond (.t 16)
 (.seq (.reg [Qa 17 5,
Qa 4 17])
 .ret)
 .skip))))
 (.reg [Qm 18 8 1,
Qa 8 18]))))))))
 (.seq (.reg [sq 4 (.mv (kI (-1)))])
 .ret)))⟩
theorem F111_ok{x0 r}(h:F111 x0=some r):An Tryz.prog 111 [.c (dM (x0.map Al)),.c (.fn 79 [])] [] (AL [.c (dI r)]) []:=by
 rw[F111]at h
 refine zc a111 (by kernel_rfl) rfl (ww ?_)
 obtain⟨o1,ho,h⟩:=bi h
 refine AB (fun s=>∃po1,o1=Sum.inr po1∧s=⟨[],[]⟩) ?_ ?_
 ·have h0o1:=h
  have h:=ho
  clear ho
  obtain⟨_,hk,h⟩:=bi h
  have hk:=AS hk
  refine ww ?_
  refine bL (fun j s=>∃(o1_0:Nat),(o1_0≤x0.length∧j=x0.length-o1_0)∧s=⟨[(0,oc (dM (x0.map Al))),(1,oc (.fn 79 [])),(7,oc (dI ((x0.length:Int)))),(8,oc (dI ((o1_0:Int))))],[]⟩∧F111_l1 (x0.drop o1_0) o1_0=some o1) (x0.length-0) [] ⟨0,⟨hk.1,rfl⟩,rfl,h⟩ ?_
  rintro _ _ ⟨o1_0,⟨hi,rfl⟩,rfl,h⟩
  refine ww ?_
  refine Bg (fun c2=>?_) (fun c2=>?_)
  ·obtain⟨xo1,hxo1,hd⟩:=A5 (show(o1_0:Int)<(x0.length:Int)from c2)
   rw[hd,F111_l1]at h
   refine ww ?_
   refine Az (enc:=Al) (xs:=x0) rfl rfl hxo1 rfl (ww ?_)
   obtain⟨t3,ht3,h⟩:=bi h
   refine cN [] (F79_ok ht3) trivial (ww ?_)
   refine AE h (fun c4 h=>ww ?_) (fun c4 h=>ww ?_)
   ·obtain⟨fh0o1,hfh0o1,rfl⟩:=Option.map_eq_some_iff.1 h
    have h:=hfh0o1.trans h0o1
    cases h
    exact eF []
   rw[AW (by omega)]
   exact eL' (x0.length-(o1_0+1)) [] ⟨o1_0+1,⟨by omega,rfl⟩,rfl,h⟩ (by omega)
  rw[A6 (show¬((o1_0:Int)<(x0.length:Int))from c2),F111_l1]at h
  refine ww ?_
  cases h
  exact eM [] ⟨_,rfl,rfl⟩
 rintro _ ⟨po1,rfl,rfl⟩
 clear ho
 dsimp only at h
 refine ww ?_
 cases h
 exact eF []
def F141(x0:Object)(x1:ByteArray):Option (Int):=(F33 x0.Meta).bind fun t1=>(F142 t1 x1).bind fun t2=>some t2
def a141:AFn:=⟨10,[(.tmp 4)],
 (.seq (.reg [Qg 2 0,
Qe 4 0])
 (.seq (.reg [Qb 5 0 2,
Qc 6 13 5,
Qk 7 33 6,
Qa 8 1,
Ql 9 142 7 8,
Qa 4 9])
 .ret))⟩
theorem F141_ok{x0 x1 r}(h:F141 x0 x1=some r):An Tryz.prog 141 [.agg (Bc x0),.c (dS x1)] [] (AL [.c (dI r)]) []:=by
 rw[F141]at h
 refine zc a141 (by kernel_rfl) rfl (ww ?_)
 obtain⟨t1,ht1,h⟩:=bi h
 refine cN [] (F33_ok ht1) trivial (ww ?_)
 obtain⟨t2,ht2,h⟩:=bi h
 refine cN [] (F142_ok ht2) trivial (ww ?_)
 cases h
 exact eF []
def F140_l1(x0:(List Object))(x1:ByteArray):Nat→Int→Int→Option (Int)
 |0,_,_=>none
 |k+1,o1_0,o1_1=>(if o1_0<o1_1 then(rdI x0 ((IntKind.i64.wrap ((Lp .u64 ((IntKind.u64.wrap ((IntKind.i64.wrap (o1_0+o1_1))))) 1))))).bind fun y3=>(F141 y3 x1).bind fun t4=>(if t4<0 then F140_l1 x0 x1 k ((IntKind.i64.wrap (((IntKind.i64.wrap ((Lp .u64 ((IntKind.u64.wrap ((IntKind.i64.wrap (o1_0+o1_1))))) 1))))+1))) o1_1 else F140_l1 x0 x1 k o1_0 ((IntKind.i64.wrap ((Lp .u64 ((IntKind.u64.wrap ((IntKind.i64.wrap (o1_0+o1_1))))) 1)))))else some o1_0)
def F140(x0:(List Object))(x1:ByteArray):Option (Int×Bool):=((F140_l1 x0 x1 1099511627776 0 ((x0.length:Int))).bind fun o1=>(((if o1<(x0.length:Int)then(rdI x0 o1).bind fun y8=>(F141 y8 x1).bind fun t9=>some (decide (t9=0))else some false)).bind fun o6=>some ((o1,o6))))
def a140:AFn:=⟨49,[(.tmp 6),(.tmp 7)],
 (.seq (.reg [Qe 6 0,
Qf 7 false])
 (.seq (.reg [Qa 12 0,
Qh 13 12,
Qa 8 13])
 (.seq (.reg [Qa 14 8,
Qe 9 0,
Qa 10 14])
 (.seq (.sem (.block 0 (.loop (.seq (.seq (.reg [Qa 15 9,
Qa 16 10,
Qn 17 15 16])
 (.cond (.t 17)
 .skip
 (.exit 0)))
 (.block 1 (.seq (.reg [Qa 18 9,
Qa 19 10,
sq 20 (.bin .add (.t 18) (.t 19)),
sq 21 (.conv .u64 (.t 20)),
sq 22 (.bin .shr (.t 21) (.k (.c (.d (.v (.int .u64 1)))))),
sq 23 (.conv .i64 (.t 22)),
Qa 11 23])
 (.seq (.reg [Qa 24 2,
Qa 25 0,
Qa 26 11,
Qp 27 23 25 26,
Qc 28 23 27,
Qa 29 1,
sq 30 (.callv (.t 24) [(.t 28),(.t 29)]),
sq 31 (.bin .lss (.t 30) (kI 0))])
 (.cond (.t 31)
 (.reg [Qa 32 11,
Qm 33 32 1,
Qa 9 33])
 (.reg [Qa 34 11,
Qa 10 34])))))))))
 (.seq (.sem (.reg [Qa 35 9,
Qa 36 9,
Qa 37 8,
Qn 38 36 37,
Qa 39 38,
Qv 40 39 true 2,
Qv 41 39 true 0,
Qv 42 39 true 9,
zg 43 39 true (.indexA 23 (.t 41) (.t 42)),
Qu 44 39 true 23 43,
Qv 45 39 true 1,
zg 46 39 true (.callv (.t 40) [(.t 44),(.t 45)]),
zg 47 39 true (.bin .eql (.t 46) (kI 0)),
Qi 48 39 47,
Qa 6 35,
Qa 7 48]))
 .ret)))))⟩
theorem F140_ok{x0 x1 r}(h:F140 x0 x1=some r):An Tryz.prog 140 [.c (dM (x0.map Ad)),.c (dS x1),.c (.fn 141 [])] [] (AL [.c (dI r.1),.c (dB r.2)]) []:=by
 rw[F140]at h
 refine zc a140 (by kernel_rfl) rfl (ww ?_)
 obtain⟨o1,ho,h⟩:=bi h
 refine AB (fun s=>s=⟨[(0,oc (dM (x0.map Ad))),(1,oc (dS x1)),(2,oc (.fn 141 [])),(8,oc (dI ((x0.length:Int)))),(9,oc (dI o1))],[]⟩) ?_ ?_
 ·have h:=ho
  clear ho
  refine ww ?_
  refine bL (fun j s=>∃(o1_0:Int) (o1_1:Int),s=⟨[(0,oc (dM (x0.map Ad))),(1,oc (dS x1)),(2,oc (.fn 141 [])),(8,oc (dI ((x0.length:Int)))),(9,oc (dI o1_0)),(10,oc (dI o1_1))],[]⟩∧F140_l1 x0 x1 j o1_0 o1_1=some o1) 1099511627776 [] ⟨0,(x0.length:Int),rfl,h⟩ ?_
  rintro j _ ⟨o1_0,o1_1,rfl,h⟩
  cases j with
  |zero=>cases(show(none:Option _)=some _ from h)
  |succ j=>
   rw[F140_l1]at h
   refine ww ?_
   refine AH h (fun c2 h=>ww ?_) (fun c2 h=>?_)
   ·refine⟨by decide,?_⟩
    refine ww ?_
    obtain⟨y3,hy3,h⟩:=bi h
    refine Az (enc:=Ad) (xs:=x0) rfl rfl hy3 rfl (ww ?_)
    obtain⟨t4,ht4,h⟩:=bi h
    refine cN [] (F141_ok ht4) trivial (ww ?_)
    refine AH h (fun c5 h=>ww ?_) (fun c5 h=>?_)
    ·exact eL' j [] ⟨(IntKind.i64.wrap (((IntKind.i64.wrap ((Lp .u64 ((IntKind.u64.wrap ((IntKind.i64.wrap (o1_0+o1_1))))) 1))))+1)),o1_1,rfl,h⟩ (Nat.lt_succ_self _)
    ·refine ww ?_
     exact eL' j [] ⟨o1_0,(IntKind.i64.wrap ((Lp .u64 ((IntKind.u64.wrap ((IntKind.i64.wrap (o1_0+o1_1))))) 1))),rfl,h⟩ (Nat.lt_succ_self _)
   ·refine ww ?_
    cases h
    exact eM [] rfl
 rintro _ rfl
 clear ho
 refine ww ?_
 obtain⟨o6,ho,h⟩:=bi h
 refine AB (fun s=>s=⟨[(6,oc (dI o1)),(7,oc (dB o6))],[]⟩) ?_ ?_
 ·have h:=ho
  clear ho
  refine ww ?_
  refine Af h (fun g7 h=>ww ?_) (fun g7 h=>ww ?_)
  ·obtain⟨y8,hy8,h⟩:=bi h
   refine Az (enc:=Ad) (xs:=x0) rfl rfl hy8 rfl (ww ?_)
   obtain⟨t9,ht9,h⟩:=bi h
   refine cN [] (F141_ok ht9) trivial (ww ?_)
   cases h
   exact eM [] rfl
  cases h
  exact eM [] rfl
 rintro _ rfl
 clear ho
 refine ww ?_
 cases h
 exact eF []
def F146(x0:Ab):Option (Ab):=(F118 ([x0])).bind fun t1=>(rdI t1.1 0).bind fun y2=>some y2
def a146:AFn:=⟨9,[(.cell 2 (some 5))],
 (.seq (.reg [Qg 1 0,
sq 2 (.zbox [dI 0,dI 0,dS ⟨#[]⟩,dN,dN])])
 (.seq (.reg [Qc 3 5 1,
sq 4 (.bslice 5 [(.t 3)]),
Qk 5 118 4,
sq 6 (.field 3 none (.t 5)),
sq 7 (.indexA 5 (.t 6) (kI 0)),
Qc 8 5 7,
su (.store 5 (.t 2) (.t 8))])
 .ret))⟩
theorem F146_ok{x0 r}(h:F146 x0=some r):An Tryz.prog 146 [.agg (AJ x0)] [] (AL [.agg (AJ (r))]) []:=by
 rw[F146]at h
 refine zc a146 (by kernel_rfl) rfl (ww ?_)
 refine BE (enc:=Ap) (ys:=[x0]) rfl rfl (by simp[A1.cells]) (by first|rfl|(simp only[List.drop_zero,Aw];rfl)|(simp only[lit,List.map_cons,List.map_nil,List.drop_zero,Aw,EE.down];done)|(simp only[lit,List.map_cons,List.map_nil,List.drop_zero,Aw,EE.down];rfl)) (ww ?_)
 obtain⟨t1,ht1,h⟩:=bi h
 refine Ce (as1:=[.c (dM (([x0]).map Ap))]) [(2,.arr 1 5 [])] [some 0,some 1,none] [] (F118_ok ht1) ⟨?_,rfl,?_⟩ ?_ ?_ ?_ ?_ ?_ ?_ ?_ ?_
 ·simp only[ZZ.down,Nat.reduceEqDiff,reduceCtorEq,Nat.reduceAdd,Nat.reduceLeDiff,Nat.reduceLT,Nat.reduceBNe,EE.down]
 ·simp only[ZZ.down,Nat.reduceEqDiff,reduceCtorEq,Nat.reduceAdd,Nat.reduceLeDiff,Nat.reduceLT,Nat.reduceBNe,EE.down]
 ·simp only[ZZ.down,Nat.reduceEqDiff,reduceCtorEq,Nat.reduceAdd,Nat.reduceLeDiff,Nat.reduceLT,Nat.reduceBNe,EE.down]
 ·rfl
 ·rfl
 ·simp[Cj,A1.live,C.live]
 ·rfl
 ·decide
 ·exact trivial
 refine ww ?_
 obtain⟨y2,hy2,h⟩:=bi h
 refine Cx (enc:=Ap) (xs:=t1.1) rfl rfl rfl (by first|rfl|simp only[List.length_set]|exact(AN (AX (by assumption))).symm) hy2 (ww ?_)
 refine Es.rd (Bk hy2).2.1 (ww ?_)
 cases h
 exact eF []
def F105_l5:List AI→Nat→(List AI)→Option ((List AI))
 |[],o5_1,o5_0=>some o5_0
 |xo5::xs,o5_1,o5_0=>(rdI o5_0 ((o5_1:Int))).bind fun y7=>(BI y7.Ae).bind fun t8=>(rdI o5_0 ((o5_1:Int))).bind fun y9=>F105_l5 xs (o5_1+1) ((o5_0.set ((o5_1:Int)).toNat ((⟨y9.Name,t8⟩:AI))))
def F105(x0:Object):Option ((List Label)×(List BO)×(List ByteArray)×(List AI)×Int×Int×ByteArray×((List Ab))×((List Ay))×Int×Int×ByteArray×((List Ab))×((List Ay))):=(BI x0.Meta.Ax).bind fun t1=>(BI x0.Meta.AF).bind fun t2=>(BI x0.Meta.Au).bind fun t3=>(BI x0.Meta.Aj).bind fun t4=>(((ck (0≤t4.length∧t4.length≤4294967290)).bind fun u10=>F105_l5 t4 0 t4).bind fun o5=>(F146 x0.Spec).bind fun t11=>(F146 x0.Status).bind fun t12=>some ((t1,t2,t3,o5,(t11).Kind,(t11).N,(t11).S,(t11).At,(t11).Ae,(t12).Kind,(t12).N,(t12).S,(t12).At,(t12).Ae)))
def a105:AFn:=⟨72,[(.cell 2 (some 23))],
 (.seq (.reg [Qg 1 0,
sq 2 (.zbox [dS ⟨#[]⟩,dS ⟨#[]⟩,dS ⟨#[]⟩,dI 0,dI 0,dI 0,dI 0,dB false,dI 0,dN,dN,dN,dN,dI 0,dI 0,dS ⟨#[]⟩,dN,dN,dI 0,dI 0,dS ⟨#[]⟩,dN,dN])])
 (.seq (.reg [Qb 5 0 1,
Qa 3 5])
 (.seq (.regd [Qa 6 3,
Qa 7 3,
Qa 8 3,
Qa 9 3,
Qa 10 3,
sd 11 (.fieldA 0 (.t 10)) [4],
sd 12 (.fieldA 9 (.t 11)) [4,5],
sd 13 (.load none (.t 12)) [4,5,6],
zn 14 (.call 65 [(.t 13)]) [4,5,6,7] [4,5,6,7],
Qa 15 3,
sd 16 (.fieldA 0 (.t 15)) [9],
sd 17 (.fieldA 10 (.t 16)) [9,10],
sd 18 (.load none (.t 17)) [9,10,11],
zn 19 (.call 66 [(.t 18)]) [4,5,6,7,8,9,10,11,12] [4,5,6,7,8,9,10,11,12],
Qa 20 3,
sd 21 (.fieldA 0 (.t 20)) [14],
sd 22 (.fieldA 11 (.t 21)) [14,15],
sd 23 (.load none (.t 22)) [14,15,16],
zn 24 (.call 61 [(.t 23)]) [4,5,6,7,8,9,10,11,12,13,14,15,16,17] [4,5,6,7,8,9,10,11,12,13,14,15,16,17],
Qa 25 3,
sd 26 (.fieldA 0 (.t 25)) [19],
sd 27 (.fieldA 12 (.t 26)) [19,20],
sd 28 (.load none (.t 27)) [19,20,21],
zl 29 (.call 67 [(.t 28)]) [4,5,6,7,8,9,10,11,12,13,14,15,16,17,18,19,20,21,22] [],
sd 30 (.fieldA 0 (.t 6)) [0,4,5,6,7,8,9,10,11,12,13,14,15,16,17,18,19,20,21,22,23],
sd 31 (.fieldA 9 (.t 30)) [0,4,5,6,7,8,9,10,11,12,13,14,15,16,17,18,19,20,21,22,23,24],
⟨none,none,.store 1 (.t 31) (.t 14),[0,4,5,6,7,8,9,10,11,12,13,14,15,16,17,18,19,20,21,22,23,24,25],(.lone [])⟩,
sd 32 (.fieldA 0 (.t 7)) [0,1,4,5,6,7,8,9,10,11,12,13,14,15,16,17,18,19,20,21,22,23,24,25,26],
sd 33 (.fieldA 10 (.t 32)) [0,1,4,5,6,7,8,9,10,11,12,13,14,15,16,17,18,19,20,21,22,23,24,25,26,27],
⟨none,none,.store 1 (.t 33) (.t 19),[0,1,4,5,6,7,8,9,10,11,12,13,14,15,16,17,18,19,20,21,22,23,24,25,26,27,28],(.lone [])⟩,
sd 34 (.fieldA 0 (.t 8)) [0,1,2,4,5,6,7,8,9,10,11,12,13,14,15,16,17,18,19,20,21,22,23,24,25,26,27,28,29],
sd 35 (.fieldA 11 (.t 34)) [0,1,2,4,5,6,7,8,9,10,11,12,13,14,15,16,17,18,19,20,21,22,23,24,25,26,27,28,29,30],
⟨none,none,.store 1 (.t 35) (.t 24),[0,1,2,4,5,6,7,8,9,10,11,12,13,14,15,16,17,18,19,20,21,22,23,24,25,26,27,28,29,30,31],(.lone [])⟩,
sd 36 (.fieldA 0 (.t 9)) [0,1,2,3,4,5,6,7,8,9,10,11,12,13,14,15,16,17,18,19,20,21,22,23,24,25,26,27,28,29,30,31,32],
sd 37 (.fieldA 12 (.t 36)) [0,1,2,3,4,5,6,7,8,9,10,11,12,13,14,15,16,17,18,19,20,21,22,23,24,25,26,27,28,29,30,31,32,33],
⟨none,none,.store 1 (.t 37) (.t 29),[0,1,2,3,4,5,6,7,8,9,10,11,12,13,14,15,16,17,18,19,20,21,22,23,24,25,26,27,28,29,30,31,32,33,34],(.lone [])⟩])
 (.seq (.seq (.reg [Qa 38 3,
Qb 39 0 38,
Qb 40 12 39,
Qd 41 40,
Qh 42 41,
Qe 43 0])
 (.sem (.block 0 (.loop (.seq (.reg [Qn 44 43 42])
 (.seq (.cond (.t 44)
 .skip
 (.exit 0))
 (.seq (.block 1 (.seq (.reg [Qa 45 43,
Qa 4 45])
 (.regd [Qa 46 3,
sd 47 (.fieldA 0 (.t 46)) [0],
sd 48 (.fieldA 12 (.t 47)) [0,1],
sd 49 (.load none (.t 48)) [0,1,2],
Qa 50 4,
Qa 51 3,
sd 52 (.fieldA 0 (.t 51)) [5],
sd 53 (.fieldA 12 (.t 52)) [5,6],
sd 54 (.load none (.t 53)) [5,6,7],
Qa 55 4,
sd 56 (.indexA 2 (.t 54) (.t 55)) [5,6,7,8,9],
sd 57 (.fieldA 1 (.t 56)) [5,6,7,8,9,10],
sd 58 (.load none (.t 57)) [5,6,7,8,9,10,11],
zl 59 (.call 61 [(.t 58)]) [5,6,7,8,9,10,11,12] [46,47,48],
sd 60 (.indexA 2 (.t 49) (.t 50)) [0,1,2,3,4,5,6,7,8,9,10,11,12,13],
sd 61 (.fieldA 1 (.t 60)) [0,1,2,3,4,5,6,7,8,9,10,11,12,13,14],
⟨none,none,.store 1 (.t 61) (.t 59),[0,1,2,3,4,5,6,7,8,9,10,11,12,13,14,15],(.lone [])⟩])))
 (.reg [Qm 62 43 1,
Qa 43 62]))))))))
 (.seq (.regd [Qb 63 13 1,
sd 64 (.load (some 5) (.t 63)) [0],
zn 65 (.call 146 [(.t 64)]) [0,1] [0,1],
Qb 66 18 1,
sd 67 (.load (some 5) (.t 66)) [3],
zl 68 (.call 146 [(.t 67)]) [0,1,2,3,4] [],
sd 69 (.fieldA 13 (.t 1)) [0,1,2,3,4,5],
⟨none,none,.store 5 (.t 69) (.t 65),[0,1,2,3,4,5,6],(.lone [])⟩,
sd 70 (.fieldA 18 (.t 1)) [0,1,2,3,4,5,6,7],
⟨none,none,.store 5 (.t 70) (.t 68),[0,1,2,3,4,5,6,7,8],(.lone [])⟩])
 (.seq (.reg [Qc 71 23 1,
⟨none,none,.store 23 (.t 2) (.t 71),[],(.lone [1])⟩])
 .ret))))))⟩
theorem F105_ok{x0 r}(h:F105 x0=some r):An Tryz.prog 105 [.agg (Bc x0)] [] (AL [.agg [dS x0.Meta.Kind,dS x0.Meta.Namespace,dS x0.Meta.Name,dI x0.Meta.Uid,dI x0.Meta.Version,dI x0.Meta.Ai,dI x0.Meta.Created,dB x0.Meta.Av,dI x0.Meta.Ar,.own 0 0 0 (r.1.length) none,.own 1 0 0 (r.2.1.length) none,.own 2 0 0 (r.2.2.1.length) none,.own 3 0 0 (r.2.2.2.1.length) none,dI r.2.2.2.2.1,dI r.2.2.2.2.2.1,dS r.2.2.2.2.2.2.1,dM (r.2.2.2.2.2.2.2.1.map Ap),dM (r.2.2.2.2.2.2.2.2.1.map Ao),dI r.2.2.2.2.2.2.2.2.2.1,dI r.2.2.2.2.2.2.2.2.2.2.1,dS r.2.2.2.2.2.2.2.2.2.2.2.1,dM (r.2.2.2.2.2.2.2.2.2.2.2.2.1.map Ap),dM (r.2.2.2.2.2.2.2.2.2.2.2.2.2.map Ao)]]) [some (.arr 0 2 (r.1.map AY)),some (.arr 0 5 (r.2.1.map A3)),some (.arr 0 1 (r.2.2.1.map eS)),some (.arr 0 2 (r.2.2.2.1.map AG))]:=by
 rw[F105]at h
 refine zc a105 (by kernel_rfl) rfl (ww ?_)
 obtain⟨t1,ht1,h⟩:=bi h
 refine cN [] (F65_ok ht1) trivial (ww ?_)
 refine B3 (by simp[wrs,B8,BV]) (ww ?_)
 obtain⟨t2,ht2,h⟩:=bi h
 refine cN [] (F66_ok ht2) trivial (ww ?_)
 refine B3 (by simp[wrs,B8,BV]) (ww ?_)
 obtain⟨t3,ht3,h⟩:=bi h
 refine cN [] (F61_ok ht3) trivial (ww ?_)
 refine B3 (by simp[wrs,B8,BV]) (ww ?_)
 obtain⟨t4,ht4,h⟩:=bi h
 refine cN [] (F67_ok ht4) trivial (ww ?_)
 obtain⟨o5,ho,h⟩:=bi h
 refine AB (fun s=>s=⟨[(1,Pz 0),(2,Pz 5)],[xb [dS x0.Meta.Kind,dS x0.Meta.Namespace,dS x0.Meta.Name,dI x0.Meta.Uid,dI x0.Meta.Version,dI x0.Meta.Ai,dI x0.Meta.Created,dB x0.Meta.Av,dI x0.Meta.Ar,.own 1 0 0 (t1.length) none,.own 2 0 0 (t2.length) none,.own 3 0 0 (t3.length) none,.own 4 0 0 (o5.length) none,dI x0.Spec.Kind,dI x0.Spec.N,dS x0.Spec.S,dM (x0.Spec.At.map Ap),dM (x0.Spec.Ae.map Ao),dI x0.Status.Kind,dI x0.Status.N,dS x0.Status.S,dM (x0.Status.At.map Ap),dM (x0.Status.Ae.map Ao)],some (.arr 0 2 (t1.map AY)),some (.arr 0 5 (t2.map A3)),some (.arr 0 1 (t3.map eS)),some (.arr 0 2 (o5.map AG)),xb [dS ((⟨#[]⟩:ByteArray)),dS ((⟨#[]⟩:ByteArray)),dS ((⟨#[]⟩:ByteArray)),dI 0,dI 0,dI 0,dI 0,dB false,dI 0,dN,dN,dN,dN,dI 0,dI 0,dS ((⟨#[]⟩:ByteArray)),dN,dN,dI 0,dI 0,dS ((⟨#[]⟩:ByteArray)),dN,dN]]⟩) ?_ ?_
 ·have h:=ho
  clear ho
  obtain⟨_,hk,h⟩:=bi h
  have hk:=AS hk
  refine ww ?_
  refine bL (fun j s=>∃(o5_1:Nat) (o5_0:List AI),(o5_1≤t4.length∧j=t4.length-o5_1)∧s=⟨[(1,Pz 0),(2,Pz 5),(3,Pz 0),(42,oc (dI ((t4.length:Int)))),(43,oc (dI ((o5_1:Int))))],[xb [dS x0.Meta.Kind,dS x0.Meta.Namespace,dS x0.Meta.Name,dI x0.Meta.Uid,dI x0.Meta.Version,dI x0.Meta.Ai,dI x0.Meta.Created,dB x0.Meta.Av,dI x0.Meta.Ar,.own 1 0 0 (t1.length) none,.own 2 0 0 (t2.length) none,.own 3 0 0 (t3.length) none,.own 4 0 0 (o5_0.length) none,dI x0.Spec.Kind,dI x0.Spec.N,dS x0.Spec.S,dM (x0.Spec.At.map Ap),dM (x0.Spec.Ae.map Ao),dI x0.Status.Kind,dI x0.Status.N,dS x0.Status.S,dM (x0.Status.At.map Ap),dM (x0.Status.Ae.map Ao)],some (.arr 0 2 (t1.map AY)),some (.arr 0 5 (t2.map A3)),some (.arr 0 1 (t3.map eS)),some (.arr 0 2 (o5_0.map AG)),xb [dS ((⟨#[]⟩:ByteArray)),dS ((⟨#[]⟩:ByteArray)),dS ((⟨#[]⟩:ByteArray)),dI 0,dI 0,dI 0,dI 0,dB false,dI 0,dN,dN,dN,dN,dI 0,dI 0,dS ((⟨#[]⟩:ByteArray)),dN,dN,dI 0,dI 0,dS ((⟨#[]⟩:ByteArray)),dN,dN]]⟩∧F105_l5 (t4.drop o5_1) o5_1 o5_0=some o5) (t4.length-0) [some 0,some 2,some 3,some 4,some 5,some 1] ⟨0,t4,⟨hk.1,rfl⟩,rfl,h⟩ ?_
  rintro _ _ ⟨o5_1,o5_0,⟨hi,rfl⟩,rfl,h⟩
  refine ww ?_
  refine Bg (fun c6=>?_) (fun c6=>?_)
  ·obtain⟨xo5,hxo5,hd⟩:=A5 (show(o5_1:Int)<(t4.length:Int)from c6)
   rw[hd,F105_l5]at h
   refine ww ?_
   obtain⟨y7,hy7,h⟩:=bi h
   refine Cx (enc:=AG) (xs:=o5_0) rfl rfl rfl (by first|rfl|simp only[List.length_set]|exact(AN (AX (by assumption))).symm) hy7 (ww ?_)
   refine Es.rd (Bk hy7).2.1 (ww ?_)
   obtain⟨t8,ht8,h⟩:=bi h
   refine cN [] (F61_ok ht8) trivial (ww ?_)
   obtain⟨y9,hy9,h⟩:=bi h
   refine Cx (enc:=AG) (xs:=o5_0) rfl rfl rfl (by first|rfl|simp only[List.length_set]|exact(AN (AX (by assumption))).symm) hy9 (ww ?_)
   refine Fp.rd (y':=(⟨y9.Name,t8⟩:AI)) (Bk hy9).2.1 (by simp[EE.down]) (by first|rfl|(simp only[BB];rfl)) (ww ?_)
   rw[AW (by omega)]
   exact eL' (t4.length-(o5_1+1)) [some 0,some 1,some 2,some 3,some 4,some 5] ⟨o5_1+1,(o5_0.set ((o5_1:Int)).toNat ((⟨y9.Name,t8⟩:AI))),⟨by omega,rfl⟩,rfl,h⟩ (by omega)
  rw[A6 (show¬((o5_1:Int)<(t4.length:Int))from c6),F105_l5]at h
  refine ww ?_
  cases h
  exact eM [some 0,some 1,some 2,some 3,some 4,some 5] rfl
 rintro _ rfl
 clear ho
 refine ww ?_
 obtain⟨t11,ht11,h⟩:=bi h
 refine cN [] (F146_ok ht11) trivial (ww ?_)
 obtain⟨t12,ht12,h⟩:=bi h
 refine cN [] (F146_ok ht12) trivial (ww ?_)
 cases h
 exact eF [some 1,some 2,some 3,some 4]
def F13_l1(x1:ByteArray):List Object→Nat→Option ((ByteArray×ByteArray×ByteArray×Int×Int×Int×Int×Bool×Int×(List Label)×(List BO)×(List ByteArray)×(List AI)×Int×Int×ByteArray×(List Ab)×(List Ay)×Int×Int×ByteArray×(List Ab)×(List Ay)×Bool) ⊕ (Unit))
 |[],o1_0=>some (Sum.inr (()))
 |xo1::xs,o1_0=>(F33 xo1.Meta).bind fun t3=>(if t3=x1 then(F37 xo1).bind fun t5=>(some ((xo1.Meta.Kind,xo1.Meta.Namespace,xo1.Meta.Name,xo1.Meta.Uid,xo1.Meta.Version,xo1.Meta.Ai,xo1.Meta.Created,xo1.Meta.Av,xo1.Meta.Ar,t5.1,t5.2.1,t5.2.2.1,t5.2.2.2.1,xo1.Spec.Kind,xo1.Spec.N,xo1.Spec.S,t5.2.2.2.2.1,t5.2.2.2.2.2.1,xo1.Status.Kind,xo1.Status.N,xo1.Status.S,t5.2.2.2.2.2.2.1,t5.2.2.2.2.2.2.2,true))).map Sum.inl else F13_l1 x1 xs (o1_0+1))
def F13(x0:Cache)(x1:ByteArray):Option (ByteArray×ByteArray×ByteArray×Int×Int×Int×Int×Bool×Int×(List Label)×(List BO)×(List ByteArray)×(List AI)×Int×Int×ByteArray×(List Ab)×(List Ay)×Int×Int×ByteArray×(List Ab)×(List Ay)×Bool):=(((ck (0≤x0.Aa.length∧x0.Aa.length≤4294967290)).bind fun u6=>F13_l1 x1 x0.Aa 0:Option ((ByteArray×ByteArray×ByteArray×Int×Int×Int×Int×Bool×Int×(List Label)×(List BO)×(List ByteArray)×(List AI)×Int×Int×ByteArray×(List Ab)×(List Ay)×Int×Int×ByteArray×(List Ab)×(List Ay)×Bool) ⊕ (Unit))).bind fun o1=>match o1 with|Sum.inl f=>some f|Sum.inr po1=>some (((⟨#[]⟩:ByteArray),(⟨#[]⟩:ByteArray),(⟨#[]⟩:ByteArray),0,0,0,0,false,0,[],[],[],[],0,0,(⟨#[]⟩:ByteArray),[],[],0,0,(⟨#[]⟩:ByteArray),[],[],false)))
def a13:AFn:=⟨24,[(.cell 4 (some 23)),(.tmp 5)],
 (.seq (.reg [Qg 2 0,
sq 4 (.zbox [dS ⟨#[]⟩,dS ⟨#[]⟩,dS ⟨#[]⟩,dI 0,dI 0,dI 0,dI 0,dB false,dI 0,dN,dN,dN,dN,dI 0,dI 0,dS ⟨#[]⟩,dN,dN,dI 0,dI 0,dS ⟨#[]⟩,dN,dN]),
Qf 5 false])
 (.seq (.seq (.reg [Qb 8 5 2,
Qd 9 8,
Qh 10 9,
Qe 11 0])
 (.sem (.block 0 (.loop (.seq (.reg [Qn 12 11 10])
 (.seq (.cond (.t 12)
 .skip
 (.exit 0))
 (.seq (.block 1 (.seq (.reg [Qp 13 23 9 11,
Qc 14 23 13,
sq 7 (.zbox [dS ⟨#[]⟩,dS ⟨#[]⟩,dS ⟨#[]⟩,dI 0,dI 0,dI 0,dI 0,dB false,dI 0,dN,dN,dN,dN,dI 0,dI 0,dS ⟨#[]⟩,dN,dN,dI 0,dI 0,dS ⟨#[]⟩,dN,dN]),
su (.store 23 (.t 7) (.t 14))])
 (.seq (.reg [Qb 15 0 7,
Qc 16 13 15,
Qk 17 33 16,
Qa 18 1,
sq 19 (.bin .eql (.t 17) (.t 18))])
 (.cond (.t 19)
 (.seq (.reg [Qc 20 23 7,
Qk 21 37 20,
su (.store 23 (.t 4) (.t 21)),
Qf 5 true])
 .ret)
 .skip))))
 (.reg [Qm 22 11 1,
Qa 11 22]))))))))
 (.seq (.reg [sq 23 (.build [dS ⟨#[]⟩,dS ⟨#[]⟩,dS ⟨#[]⟩,dI 0,dI 0,dI 0,dI 0,dB false,dI 0,dN,dN,dN,dN,dI 0,dI 0,dS ⟨#[]⟩,dN,dN,dI 0,dI 0,dS ⟨#[]⟩,dN,dN] []),
su (.store 23 (.t 4) (.t 23)),
Qf 5 false])
 .ret)))⟩
theorem F13_ok{x0 x1 r}(h:F13 x0 x1=some r):An Tryz.prog 13 [.agg (Ch x0),.c (dS x1)] [] (AL [.agg [dS r.1,dS r.2.1,dS r.2.2.1,dI r.2.2.2.1,dI r.2.2.2.2.1,dI r.2.2.2.2.2.1,dI r.2.2.2.2.2.2.1,dB r.2.2.2.2.2.2.2.1,dI r.2.2.2.2.2.2.2.2.1,.own 0 0 0 (r.2.2.2.2.2.2.2.2.2.1.length) none,.own 1 0 0 (r.2.2.2.2.2.2.2.2.2.2.1.length) none,.own 2 0 0 (r.2.2.2.2.2.2.2.2.2.2.2.1.length) none,.own 3 0 0 (r.2.2.2.2.2.2.2.2.2.2.2.2.1.length) none,dI r.2.2.2.2.2.2.2.2.2.2.2.2.2.1,dI r.2.2.2.2.2.2.2.2.2.2.2.2.2.2.1,dS r.2.2.2.2.2.2.2.2.2.2.2.2.2.2.2.1,.own 4 0 0 (r.2.2.2.2.2.2.2.2.2.2.2.2.2.2.2.2.1.length) none,.own 5 0 0 (r.2.2.2.2.2.2.2.2.2.2.2.2.2.2.2.2.2.1.length) none,dI r.2.2.2.2.2.2.2.2.2.2.2.2.2.2.2.2.2.2.1,dI r.2.2.2.2.2.2.2.2.2.2.2.2.2.2.2.2.2.2.2.1,dS r.2.2.2.2.2.2.2.2.2.2.2.2.2.2.2.2.2.2.2.2.1,.own 6 0 0 (r.2.2.2.2.2.2.2.2.2.2.2.2.2.2.2.2.2.2.2.2.2.1.length) none,.own 7 0 0 (r.2.2.2.2.2.2.2.2.2.2.2.2.2.2.2.2.2.2.2.2.2.2.1.length) none],.c (dB r.2.2.2.2.2.2.2.2.2.2.2.2.2.2.2.2.2.2.2.2.2.2.2)]) [some (.arr 0 2 (r.2.2.2.2.2.2.2.2.2.1.map AY)),some (.arr 0 5 (r.2.2.2.2.2.2.2.2.2.2.1.map A3)),some (.arr 0 1 (r.2.2.2.2.2.2.2.2.2.2.2.1.map eS)),some (.arr 0 2 (r.2.2.2.2.2.2.2.2.2.2.2.2.1.map AG)),some (.arr 0 5 (r.2.2.2.2.2.2.2.2.2.2.2.2.2.2.2.2.1.map Ap)),some (.arr 0 6 (r.2.2.2.2.2.2.2.2.2.2.2.2.2.2.2.2.2.1.map Ao)),some (.arr 0 5 (r.2.2.2.2.2.2.2.2.2.2.2.2.2.2.2.2.2.2.2.2.2.1.map Ap)),some (.arr 0 6 (r.2.2.2.2.2.2.2.2.2.2.2.2.2.2.2.2.2.2.2.2.2.2.1.map Ao))]:=by
 rw[F13]at h
 refine zc a13 (by kernel_rfl) rfl (ww ?_)
 obtain⟨o1,ho,h⟩:=bi h
 refine AB (fun s=>∃po1,o1=Sum.inr po1∧s=⟨[(4,Pz 0)],[xb [dS ((⟨#[]⟩:ByteArray)),dS ((⟨#[]⟩:ByteArray)),dS ((⟨#[]⟩:ByteArray)),dI 0,dI 0,dI 0,dI 0,dB false,dI 0,dN,dN,dN,dN,dI 0,dI 0,dS ((⟨#[]⟩:ByteArray)),dN,dN,dI 0,dI 0,dS ((⟨#[]⟩:ByteArray)),dN,dN]]⟩) ?_ ?_
 ·have h0o1:=h
  have h:=ho
  clear ho
  obtain⟨_,hk,h⟩:=bi h
  have hk:=AS hk
  refine ww ?_
  refine bL (fun j s=>∃(o1_0:Nat),(o1_0≤x0.Aa.length∧j=x0.Aa.length-o1_0)∧s=⟨[(1,oc (dS x1)),(4,Pz 0),(9,oc (dM (x0.Aa.map Ad))),(10,oc (dI ((x0.Aa.length:Int)))),(11,oc (dI ((o1_0:Int))))],[xb [dS ((⟨#[]⟩:ByteArray)),dS ((⟨#[]⟩:ByteArray)),dS ((⟨#[]⟩:ByteArray)),dI 0,dI 0,dI 0,dI 0,dB false,dI 0,dN,dN,dN,dN,dI 0,dI 0,dS ((⟨#[]⟩:ByteArray)),dN,dN,dI 0,dI 0,dS ((⟨#[]⟩:ByteArray)),dN,dN]]⟩∧F13_l1 x1 (x0.Aa.drop o1_0) o1_0=some o1) (x0.Aa.length-0) [some 1] ⟨0,⟨hk.1,rfl⟩,rfl,h⟩ ?_
  rintro _ _ ⟨o1_0,⟨hi,rfl⟩,rfl,h⟩
  refine ww ?_
  refine Bg (fun c2=>?_) (fun c2=>?_)
  ·obtain⟨xo1,hxo1,hd⟩:=A5 (show(o1_0:Int)<(x0.Aa.length:Int)from c2)
   rw[hd,F13_l1]at h
   refine ww ?_
   refine Az (enc:=Ad) (xs:=x0.Aa) rfl rfl hxo1 rfl (ww ?_)
   obtain⟨t3,ht3,h⟩:=bi h
   refine cN [] (F33_ok ht3) trivial (ww ?_)
   refine AH h (fun c4 h=>ww ?_) (fun c4 h=>ww ?_)
   ·obtain⟨t5,ht5,h⟩:=bi h
    refine cN [] (F37_ok ht5) trivial (ww ?_)
    obtain⟨fh0o1,hfh0o1,rfl⟩:=Option.map_eq_some_iff.1 h
    have h:=hfh0o1.trans h0o1
    cases h
    exact eF [some 2,some 3,some 4,some 5,some 6,some 7,some 8,some 9]
   rw[AW (by omega)]
   exact eL' (x0.Aa.length-(o1_0+1)) [some 0] ⟨o1_0+1,⟨by omega,rfl⟩,rfl,h⟩ (by omega)
  rw[A6 (show¬((o1_0:Int)<(x0.Aa.length:Int))from c2),F13_l1]at h
  refine ww ?_
  cases h
  exact eM [some 0] ⟨_,rfl,rfl⟩
 rintro _ ⟨po1,rfl,rfl⟩
 clear ho
 dsimp only at h
 refine ww ?_
 cases h
 exact eF [none,none,none,none,none,none,none,none]
def F28(x0:Filter)(x1:Object):Option (Bool):=(((if x0.Kind=(⟨#[]⟩:ByteArray)then(if x0.Namespace=(⟨#[]⟩:ByteArray)then(F53 x0.Selector x1.Meta.Ax).bind fun t4=>some t4 else(if x0.Namespace=x1.Meta.Namespace then(F53 x0.Selector x1.Meta.Ax).bind fun t6=>some t6 else some false))else(if x0.Kind=x1.Meta.Kind then(if x0.Namespace=(⟨#[]⟩:ByteArray)then(F53 x0.Selector x1.Meta.Ax).bind fun t9=>some t9 else(if x0.Namespace=x1.Meta.Namespace then(F53 x0.Selector x1.Meta.Ax).bind fun t11=>some t11 else some false))else some false))).bind fun o1=>some o1)
def a28:AFn:=⟨37,[(.tmp 4)],
 (.seq (.reg [Qg 2 0,
Qg 3 1,
Qf 4 false])
 (.seq (.sem (.reg [Qb 5 0 2,
Qd 6 5,
sq 7 (.bin .eql (.t 6) (kS ⟨#[]⟩)),
Qa 8 7,
Qs 9 8 false 0 2,
Qt 10 8 false 9,
Qs 11 8 false 0 3,
Qs 12 8 false 0 11,
Qt 13 8 false 12,
zg 14 8 false (.bin .eql (.t 10) (.t 13)),
Qj 15 8 14,
Qa 16 15,
Qs 17 16 true 1 2,
Qt 18 16 true 17,
zg 19 16 true (.bin .eql (.t 18) (kS ⟨#[]⟩)),
Qv 20 16 true 19,
Qs 21 20 false 1 2,
Qt 22 20 false 21,
Qs 23 20 false 0 3,
Qs 24 20 false 1 23,
Qt 25 20 false 24,
zg 26 20 false (.bin .eql (.t 22) (.t 25)),
zg 27 16 true (.pick (.t 20) (kB true) (.t 26)),
Qi 28 16 27,
Qa 29 28,
Qs 30 29 true 2 2,
Qt 31 29 true 30,
Qs 32 29 true 0 3,
Qs 33 29 true 9 32,
Qt 34 29 true 33,
zg 35 29 true (.call 53 [(.t 31),(.t 34)]),
Qi 36 29 35,
Qa 4 36]))
 .ret))⟩
theorem F28_ok{x0 x1 r}(h:F28 x0 x1=some r):An Tryz.prog 28 [.agg (Bj x0),.agg (Bc x1)] [] (AL [.c (dB r)]) []:=by
 rw[F28]at h
 refine zc a28 (by kernel_rfl) rfl (ww ?_)
 obtain⟨o1,ho,h⟩:=bi h
 refine AB (fun s=>s=⟨[(4,oc (dB o1))],[]⟩) ?_ ?_
 ·have h:=ho
  clear ho
  refine ww ?_
  refine Af h (fun g2 h=>ww ?_) (fun g2 h=>ww ?_)
  ·refine Af h (fun g3 h=>ww ?_) (fun g3 h=>ww ?_)
   ·obtain⟨t4,ht4,h⟩:=bi h
    refine cN [] (F53_ok ht4) trivial (ww ?_)
    cases h
    exact eM [] rfl
   refine Af h (fun g5 h=>ww ?_) (fun g5 h=>ww ?_)
   ·obtain⟨t6,ht6,h⟩:=bi h
    refine cN [] (F53_ok ht6) trivial (ww ?_)
    cases h
    exact eM [] rfl
   cases h
   exact eM [] rfl
  refine Af h (fun g7 h=>ww ?_) (fun g7 h=>ww ?_)
  ·refine Af h (fun g8 h=>ww ?_) (fun g8 h=>ww ?_)
   ·obtain⟨t9,ht9,h⟩:=bi h
    refine cN [] (F53_ok ht9) trivial (ww ?_)
    cases h
    exact eM [] rfl
   refine Af h (fun g10 h=>ww ?_) (fun g10 h=>ww ?_)
   ·obtain⟨t11,ht11,h⟩:=bi h
    refine cN [] (F53_ok ht11) trivial (ww ?_)
    cases h
    exact eM [] rfl
   cases h
   exact eM [] rfl
  cases h
  exact eM [] rfl
 rintro _ rfl
 clear ho
 refine ww ?_
 cases h
 exact eF []
end Go.Proofs.YtdkmamiedcanfaaGreat
