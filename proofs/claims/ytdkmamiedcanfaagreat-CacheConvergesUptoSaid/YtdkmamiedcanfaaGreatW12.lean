/- Each Go function as a function over typed data, and its walk. -/
import Derived.Test.YtdkmamiedcanfaaGreatW0
import Derived.Test.YtdkmamiedcanfaaGreatW2
import Derived.Test.YtdkmamiedcanfaaGreatW3
import Derived.Test.YtdkmamiedcanfaaGreatW6
import Derived.Test.YtdkmamiedcanfaaGreatW7
import Derived.Test.YtdkmamiedcanfaaGreatW8
import Derived.Test.YtdkmamiedcanfaaGreatW9
import Derived.Test.YtdkmamiedcanfaaGreatW10
namespace Go.Proofs.YtdkmamiedcanfaaGreat
open Go Go.Fw Go.Shelf
set_option maxRecDepth 100000
set_option maxHeartbeats 4000000
set_option linter.unusedSimpArgs false
set_option linter.unusedVariables false
def F31:Option (Ag):=(F56).bind fun t1=>(F57 ((⟨#[97]⟩:ByteArray))).bind fun t2=>(F55 ((⟨0,0,1,[],[],[]⟩:Ag)) ((⟨(⟨(⟨#[80,111,100]⟩:ByteArray),(⟨#[110]⟩:ByteArray),((⟨#[97]⟩:ByteArray)),0,0,0,0,false,0,[],[],[],[]⟩:Meta),(⟨0,0,(⟨#[]⟩:ByteArray),[],[]⟩:Ab),(⟨0,0,(⟨#[]⟩:ByteArray),[],[]⟩:Ab)⟩:Object)) 1).bind fun t3=>(F55 ((⟨(t3.1).Rev,(t3.1).As,(t3.1).Am,(t3.1).Bt,(t3.1).Aa,(t3.1).Ac⟩:Ag)) ((⟨(⟨(⟨#[78,111,100,101]⟩:ByteArray),(⟨#[]⟩:ByteArray),(⟨#[109]⟩:ByteArray),0,0,0,0,false,0,[],[],[],[]⟩:Meta),(⟨0,0,(⟨#[]⟩:ByteArray),[],[]⟩:Ab),(⟨0,0,(⟨#[]⟩:ByteArray),[],[]⟩:Ab)⟩:Object)) 1).bind fun t4=>some ((⟨(t4.1).Rev,(t4.1).As,(t4.1).Am,(t4.1).Bt,(t4.1).Aa,(t4.1).Ac⟩:Ag))
def a31:AFn:=⟨20,[(.cell 0 (some 6))],
 (.seq (.reg [zl 0 (.zbox [dI 0,dI 0,dI 0,dN,dN,dN]) [] []])
 (.seq (.reg [sq 5 (.call 56 []),
sq 6 (.call 57 [(kS ⟨#[97]⟩)]),
sq 7 (.call 55 [(.t 5),(.t 6),(kI 1)]),
Qa 4 7,
Qo 8 4 0,
Qo 9 4 1,
Qo 10 4 2,
sq 1 (.zbox [dI 0,dI 0,dI 0,dN,dN,dN]),
sq 2 (.zbox [dS ⟨#[]⟩,dS ⟨#[]⟩,dS ⟨#[]⟩,dI 0,dI 0,dI 0,dI 0,dB false,dI 0,dN,dN,dN,dN,dI 0,dI 0,dS ⟨#[]⟩,dN,dN,dI 0,dI 0,dS ⟨#[]⟩,dN,dN]),
su (.store 6 (.t 1) (.t 8)),
su (.store 23 (.t 2) (.t 9)),
Qa 3 10])
 (.seq (.reg [Qc 12 6 1,
sq 13 (.build [dS ⟨#[]⟩,dS ⟨#[]⟩,dS ⟨#[]⟩,dI 0,dI 0,dI 0,dI 0,dB false,dI 0,dN,dN,dN,dN] [(0,1,(kS ⟨#[78,111,100,101]⟩)),(2,1,(kS ⟨#[109]⟩))]),
sq 14 (.build [dS ⟨#[]⟩,dS ⟨#[]⟩,dS ⟨#[]⟩,dI 0,dI 0,dI 0,dI 0,dB false,dI 0,dN,dN,dN,dN,dI 0,dI 0,dS ⟨#[]⟩,dN,dN,dI 0,dI 0,dS ⟨#[]⟩,dN,dN] [(0,13,(.t 13))]),
sq 15 (.call 55 [(.t 12),(.t 14),(kI 1)]),
Qa 11 15,
Qo 16 11 0,
Qo 17 11 1,
Qo 18 11 2,
su (.store 6 (.t 1) (.t 16))])
 (.seq (.reg [Qc 19 6 1,
⟨none,none,.store 6 (.t 0) (.t 19),[],(.lone [1])⟩])
 .ret))))⟩
theorem F31_ok{r}(h:F31=some r):An Tryz.prog 31 [] [] (AL [.agg (AO (r))]) []:=by
 rw[F31]at h
 refine zc a31 (by kernel_rfl) rfl (ww ?_)
 obtain⟨t1,ht1,h⟩:=bi h
 refine cN [] (F56_ok ht1) trivial (ww ?_)
 obtain⟨t2,ht2,h⟩:=bi h
 refine cN [] (F57_ok ht2) trivial (ww ?_)
 obtain⟨t3,ht3,h⟩:=bi h
 refine cN [] (F55_ok ht3) trivial (ww ?_)
 obtain⟨t4,ht4,h⟩:=bi h
 refine cN [] (F55_ok ht4) trivial (ww ?_)
 cases h
 exact eF []
def F46_l5(t4:(List Object)×Int)(x1:Ck):List Object→Nat→(List (ByteArray×Bool))→Option ((List (ByteArray×Bool)))
 |[],o5_1,o5_0=>some o5_0
 |xo5::xs,o5_1,o5_0=>(rdI t4.1 ((o5_1:Int))).bind fun y7=>(F33 y7.Meta).bind fun t8=>(F84 x1.Filter y7).bind fun t9=>F46_l5 t4 x1 xs (o5_1+1) ((B2 t8 t9 o5_0))
def F46_l11(t1:(List Ah))(x1:Ck)(x2:Int):List Change→Nat→Int→(List (ByteArray×Bool))→(List Event)→Option (((List Ah)×Int×(List Event)×Int) ⊕ (Int×(List Event)))
 |[],o11_3,o11_0,o11_1,o11_2=>some (Sum.inr ((o11_0,o11_2)))
 |xo11::xs,o11_3,o11_0,o11_1,o11_2=>(((if xo11.Rev≤x1.Rev then some (Sum.inr ((o11_0,o11_1,o11_2)))else(F33 xo11.Object.Meta).bind fun t15=>(F85 x1.Filter xo11 (((getM t15 o11_1).getD false))).bind fun t16=>(((if t16=1 then some ((B2 t15 true o11_1))else some ((B2 t15 (decide (t16=2)) o11_1)))).bind fun o17=>(if t16=0 then some (Sum.inr ((o11_0,o17,o11_2)))else(F86 xo11.Object).bind fun t20=>(apI o11_2 ([(⟨t16,xo11.Rev,(⟨(⟨xo11.Object.Meta.Kind,xo11.Object.Meta.Namespace,xo11.Object.Meta.Name,xo11.Object.Meta.Uid,xo11.Object.Meta.Version,xo11.Object.Meta.Ai,xo11.Object.Meta.Created,xo11.Object.Meta.Av,xo11.Object.Meta.Ar,t20.1,t20.2.1,t20.2.2.1,t20.2.2.2.1⟩:Meta),(⟨t20.2.2.2.2.1,t20.2.2.2.2.2.1,t20.2.2.2.2.2.2.1,t20.2.2.2.2.2.2.2.1,t20.2.2.2.2.2.2.2.2.1⟩:Ab),(⟨t20.2.2.2.2.2.2.2.2.2.1,t20.2.2.2.2.2.2.2.2.2.2.1,t20.2.2.2.2.2.2.2.2.2.2.2.1,t20.2.2.2.2.2.2.2.2.2.2.2.2.1,t20.2.2.2.2.2.2.2.2.2.2.2.2.2⟩:Ab)⟩:Object)⟩:Event)])).bind fun a21=>(if(a21.length:Int)=(if x2<1 then 1 else x2)then((some ((t1,xo11.Rev,a21,0))).map Sum.inl).map Sum.inl else some (Sum.inr ((xo11.Rev,o17,a21))))))):Option ((((List Ah)×Int×(List Event)×Int) ⊕ (Int×(List Event))) ⊕ (Int×(List (ByteArray×Bool))×(List Event)))).bind fun o13=>match o13 with|Sum.inl f=>some f|Sum.inr po13=>F46_l11 t1 x1 x2 xs (o11_3+1) po13.1 po13.2.1 po13.2.2)
def F46(x0:Ag)(x1:Ck)(x2:Int):Option ((List Ah)×Int×(List Event)×Int):=(F81 x1.Filter).bind fun t1=>(F82 x0 x1.Filter x1.Rev).bind fun t2=>(if¬(t2=0)then some ((t1,x1.Rev,[],t2))else(F83 x0 x1.Rev).bind fun t4=>(((ck (0≤t4.1.length∧t4.1.length≤4294967290)).bind fun u10=>F46_l5 t4 x1 t4.1 0 ([])).bind fun o5=>(((ck (0≤x0.Ac.length∧x0.Ac.length≤4294967290)).bind fun u23=>F46_l11 t1 x1 x2 x0.Ac 0 x1.Rev o5 ([]):Option (((List Ah)×Int×(List Event)×Int) ⊕ (Int×(List Event)))).bind fun o11=>match o11 with|Sum.inl f=>some f|Sum.inr po11=>(((if po11.1<x0.Rev then(apI po11.2 ([(⟨4,x0.Rev,(⟨(⟨(⟨#[]⟩:ByteArray),(⟨#[]⟩:ByteArray),(⟨#[]⟩:ByteArray),0,0,0,0,false,0,[],[],[],[]⟩:Meta),(⟨0,0,(⟨#[]⟩:ByteArray),[],[]⟩:Ab),(⟨0,0,(⟨#[]⟩:ByteArray),[],[]⟩:Ab)⟩:Object)⟩:Event)])).bind fun a26=>some ((x0.Rev,a26))else some ((po11.1,po11.2)))).bind fun o24=>some ((t1,o24.1,o24.2,0))))))
def a46:AFn:=⟨131,[(.cell 6 (some 4)),(.tmp 7),(.tmp 8)],
 (.seq (.reg [Qg 3 0,
Qg 4 1,
sq 6 (.zbox [dS ⟨#[]⟩,dS ⟨#[]⟩,dN,dI 0]),
sq 7 (.mv kN),
Qe 8 0])
 (.seq (.regd [Qb 21 0 4,
sd 22 (.load (some 3) (.t 21)) [0],
zn 23 (.call 81 [(.t 22)]) [0,1] [0,1],
Qb 24 3 4,
sd 25 (.load none (.t 24)) [3],
sd 26 (.build [dS ⟨#[]⟩,dS ⟨#[]⟩,dN,dI 0] [(0,3,(.t 23)),(3,1,(.t 25))]) [0,1,2,3,4],
sq 9 (.zbox [dS ⟨#[]⟩,dS ⟨#[]⟩,dN,dI 0]),
⟨none,none,.store 4 (.t 9) (.t 26),[0,1,2,3,4,5,6],(.lone [])⟩])
 (.seq (.seq (.reg [Qc 27 6 3,
Qb 28 0 4,
Qc 29 3 28,
Qb 30 3 4,
Qd 31 30,
sq 32 (.call 82 [(.t 27),(.t 29),(.t 31)]),
Qa 10 32])
 (.seq (.reg [Qa 33 10,
sq 34 (.bin .neq (.t 33) (kI 0))])
 (.cond (.t 34)
 (.seq (.reg [Qc 35 4 9,
Qa 36 10,
su (.store 4 (.t 6) (.t 35)),
sq 7 (.mv kN),
Qa 8 36])
 .ret)
 .skip)))
 (.seq (.reg [Qa 37 2,
sq 38 (.max (.t 37) (kI 1)),
Qa 2 38])
 (.seq (.reg [sq 39 (.mkmap),
Qa 11 39])
 (.seq (.reg [Qc 41 6 3,
Qb 42 3 4,
Qd 43 42,
Ql 44 83 41 43,
Qa 40 44,
Qo 45 40 0,
Qo 46 40 1,
Qa 12 45,
Qa 13 46])
 (.seq (.seq (.reg [Qa 47 12,
Qh 48 47,
Qe 49 0])
 (.sem (.block 0 (.loop (.seq (.reg [Qn 50 49 48])
 (.seq (.cond (.t 50)
 .skip
 (.exit 0))
 (.seq (.block 1 (.seq (.reg [Qp 51 23 47 49,
Qc 52 23 51,
sq 15 (.zbox [dS ⟨#[]⟩,dS ⟨#[]⟩,dS ⟨#[]⟩,dI 0,dI 0,dI 0,dI 0,dB false,dI 0,dN,dN,dN,dN,dI 0,dI 0,dS ⟨#[]⟩,dN,dN,dI 0,dI 0,dS ⟨#[]⟩,dN,dN]),
su (.store 23 (.t 15) (.t 52))])
 (.regd [Qa 53 11,
Qb 54 0 15,
sd 55 (.load (some 13) (.t 54)) [1],
zn 56 (.call 33 [(.t 55)]) [1,2] [1,2],
Qb 57 0 4,
sd 58 (.load (some 3) (.t 57)) [4],
Qc 59 23 15,
zl 60 (.call 84 [(.t 58),(.t 59)]) [1,2,3,4,5,6] [],
⟨none,none,.mset 1 (.t 53) (.t 56) (.t 60),[0,1,2,3,4,5,6,7],(.lone [])⟩])))
 (.reg [Qm 61 49 1,
Qa 49 61]))))))))
 (.seq (.reg [sq 16 (.mv kN)])
 (.seq (.seq (.reg [Qb 62 5 3,
Qd 63 62,
Qh 64 63,
Qe 65 0])
 (.sem (.block 2 (.loop (.seq (.reg [Qn 66 65 64])
 (.seq (.cond (.t 66)
 .skip
 (.exit 2))
 (.seq (.sem (.block 3 (.seq (.reg [Qp 67 25 63 65,
Qc 68 25 67,
sq 18 (.zbox [dI 0,dI 0,dS ⟨#[]⟩,dS ⟨#[]⟩,dS ⟨#[]⟩,dI 0,dI 0,dI 0,dI 0,dB false,dI 0,dN,dN,dN,dN,dI 0,dI 0,dS ⟨#[]⟩,dN,dN,dI 0,dI 0,dS ⟨#[]⟩,dN,dN]),
su (.store 25 (.t 18) (.t 68))])
 (.seq (.seq (.reg [Qb 69 0 18,
Qd 70 69,
Qb 71 3 4,
Qd 72 71,
sq 73 (.bin .leq (.t 70) (.t 72))])
 (.cond (.t 73)
 (.exit 3)
 .skip))
 (.seq (.reg [Qb 74 2 18,
Qb 75 0 74,
Qc 76 13 75,
Qk 77 33 76,
Qa 19 77])
 (.seq (.reg [Qb 78 0 4,
Qc 79 3 78,
Qc 80 25 18,
Qa 81 11,
Qa 82 19,
sq 83 (.mget 1 false (.c (dB false)) (.t 81) (.t 82)),
sq 84 (.call 85 [(.t 79),(.t 80),(.t 83)]),
Qa 20 84])
 (.seq (.sem (.reg [Qa 85 11,
Qa 86 19,
Qa 87 20,
Qr 88 87 1,
Qa 89 88,
Qv 90 89 false 20,
zg 91 89 false (.bin .eql (.t 90) (kI 2)),
Qj 92 89 91,
su (.mset 1 (.t 85) (.t 86) (.t 92))]))
 (.seq (.seq (.reg [Qa 93 20,
Qr 94 93 0])
 (.cond (.t 94)
 (.exit 3)
 .skip))
 (.seq (.regd [Qa 95 16,
Qa 96 20,
Qb 97 0 18,
sd 98 (.load none (.t 97)) [2],
Qb 99 2 18,
sd 100 (.load (some 23) (.t 99)) [4],
zl 101 (.call 86 [(.t 100)]) [4,5] [18,97],
zl 102 (.build [dI 0,dI 0,dS ⟨#[]⟩,dS ⟨#[]⟩,dS ⟨#[]⟩,dI 0,dI 0,dI 0,dI 0,dB false,dI 0,dN,dN,dN,dN,dI 0,dI 0,dS ⟨#[]⟩,dN,dN,dI 0,dI 0,dS ⟨#[]⟩,dN,dN] [(0,1,(.t 96)),(1,1,(.t 98)),(2,23,(.t 101))]) [1,2,3,4,5,6] [],
zl 103 (.bslice 25 [(.t 102)]) [1,2,3,4,5,6,7] [],
zl 104 (.app 25 368 (.t 95) (.t 103)) [0,1,2,3,4,5,6,7,8] [],
sd 16 (.mv (.t 104)) [0,1,2,3,4,5,6,7,8,9]])
 (.seq (.reg [Qb 105 0 18,
Qd 106 105,
Qb 107 3 9,
⟨none,none,.store 1 (.t 107) (.t 106),[],(.lone [18,105,9])⟩])
 (.seq (.reg [Qa 108 16,
Qh 109 108,
Qa 110 2,
sq 111 (.bin .eql (.t 109) (.t 110))])
 (.cond (.t 111)
 (.seq (.reg [Qc 112 4 9,
Qa 113 16,
su (.store 4 (.t 6) (.t 112)),
Qa 7 113,
Qe 8 0])
 .ret)
 .skip))))))))))))
 (.reg [Qm 114 65 1,
Qa 65 114]))))))))
 (.seq (.sem (.seq (.reg [Qb 115 0 3,
Qd 116 115,
Qb 117 3 9,
Qd 118 117,
sq 119 (.bin .gtr (.t 116) (.t 118))])
 (.cond (.t 119)
 (.seq (.reg [Qa 120 16,
Qb 121 0 3,
Qd 122 121,
sq 123 (.build [dI 0,dI 0,dS ⟨#[]⟩,dS ⟨#[]⟩,dS ⟨#[]⟩,dI 0,dI 0,dI 0,dI 0,dB false,dI 0,dN,dN,dN,dN,dI 0,dI 0,dS ⟨#[]⟩,dN,dN,dI 0,dI 0,dS ⟨#[]⟩,dN,dN] [(0,1,(kI 4)),(1,1,(.t 122))]),
sq 124 (.bslice 25 [(.t 123)]),
sq 125 (.app 25 368 (.t 120) (.t 124)),
Qa 16 125])
 (.reg [Qb 126 0 3,
Qd 127 126,
Qb 128 3 9,
⟨none,none,.store 1 (.t 128) (.t 127),[],(.lone [3,126,9])⟩]))
 .skip)))
 (.seq (.reg [Qc 129 4 9,
Qa 130 16,
su (.store 4 (.t 6) (.t 129)),
Qa 7 130,
Qe 8 0])
 .ret)))))))))))⟩
theorem F46_ok{x0 x1 x2 r}(h:F46 x0 x1 x2=some r):An Tryz.prog 46 [.agg (AO x0),.agg (DE x1),.c (dI x2)] [] (AL [.agg [dS x1.Filter.Kind,dS x1.Filter.Namespace,.own 0 0 0 (r.1.length) none,dI r.2.1],.c (.own 1 0 0 (r.2.2.1.length) none),.c (dI r.2.2.2)]) [some (.arr 0 3 (r.1.map Al)),some (.arr 0 25 (r.2.2.1.map Bp))]:=by
 rw[F46]at h
 refine zc a46 (by kernel_rfl) rfl (ww ?_)
 obtain⟨t1,ht1,h⟩:=bi h
 refine cN [] (F81_ok ht1) trivial (ww ?_)
 refine B3 (by simp[wrs,B8,BV]) (ww ?_)
 refine B3 (by simp[wrs,B8,BV]) (ww ?_)
 obtain⟨t2,ht2,h⟩:=bi h
 refine cN [] (F82_ok ht2) trivial (ww ?_)
 refine AH h (fun c3 h=>ww ?_) (fun c3 h=>ww ?_)
 ·cases h
  exact eF [some 3,none]
 refine Ln (κ:=ByteArray) (α:=Bool) (enc:=(fun x=> .v (.bool x))) Value.string (ww ?_)
 obtain⟨t4,ht4,h⟩:=bi h
 refine cN [] (F83_ok ht4) trivial (ww ?_)
 obtain⟨o5,ho,h⟩:=bi h
 refine AB (fun s=>s=⟨[(2,oc (dI ((if x2<1 then 1 else x2)))),(3,Pz 0),(4,Pz 1),(6,Pz 2),(9,Pz 3),(11,oc (.mref 5))],[xb (AO x0),xb (DE x1),xb [dS ((⟨#[]⟩:ByteArray)),dS ((⟨#[]⟩:ByteArray)),dN,dI 0],xb [dS x1.Filter.Kind,dS x1.Filter.Namespace,.own 4 0 0 (t1.length) none,dI x1.Rev],some (.arr 0 3 (t1.map Al)),some (.map (eM1 Value.string (fun x=> .v (.bool x)) o5))]⟩) ?_ ?_
 ·have h:=ho
  clear ho
  obtain⟨_,hk,h⟩:=bi h
  have hk:=AS hk
  refine ww ?_
  refine bL (fun j s=>∃(o5_1:Nat) (o5_0:List (ByteArray×Bool)),(o5_1≤t4.1.length∧j=t4.1.length-o5_1)∧s=⟨[(2,oc (dI ((if x2<1 then 1 else x2)))),(3,Pz 0),(4,Pz 1),(6,Pz 2),(9,Pz 3),(11,oc (.mref 5)),(47,oc (.own 6 0 0 (t4.1.length) none)),(48,oc (dI ((t4.1.length:Int)))),(49,oc (dI ((o5_1:Int))))],[xb (AO x0),xb (DE x1),xb [dS ((⟨#[]⟩:ByteArray)),dS ((⟨#[]⟩:ByteArray)),dN,dI 0],xb [dS x1.Filter.Kind,dS x1.Filter.Namespace,.own 4 0 0 (t1.length) none,dI x1.Rev],some (.arr 0 3 (t1.map Al)),some (.map (eM1 Value.string (fun x=> .v (.bool x)) o5_0)),some (.arr 0 23 (t4.1.map Ad))]⟩∧F46_l5 t4 x1 (t4.1.drop o5_1) o5_1 o5_0=some o5) (t4.1.length-0) [some 0,some 1,some 2,some 4,some 3,some 5,some 6] ⟨0,[],⟨hk.1,rfl⟩,rfl,h⟩ ?_
  rintro _ _ ⟨o5_1,o5_0,⟨hi,rfl⟩,rfl,h⟩
  refine ww ?_
  refine Bg (fun c6=>?_) (fun c6=>?_)
  ·obtain⟨xo5,hxo5,hd⟩:=A5 (show(o5_1:Int)<(t4.1.length:Int)from c6)
   rw[hd,F46_l5]at h
   refine ww ?_
   obtain⟨y7,hy7,h⟩:=bi h
   refine Cx (enc:=Ad) (xs:=t4.1) rfl rfl rfl (by first|rfl|simp only[List.length_set]|exact(AN (AX (by assumption))).symm) hy7 (ww ?_)
   refine Es.rd (Bk hy7).2.1 (ww ?_)
   obtain⟨t8,ht8,h⟩:=bi h
   refine cN [] (F33_ok ht8) trivial (ww ?_)
   obtain⟨t9,ht9,h⟩:=bi h
   refine cN [] (F84_ok ht9) trivial (ww ?_)
   refine I8 (enc:=(fun x=> .v (.bool x))) (l:=o5_0) (x:=t9) kkS rfl rfl rfl rfl (ww ?_)
   rw[AW (by omega)]
   exact eL' (t4.1.length-(o5_1+1)) [some 0,some 1,some 2,some 3,some 4,some 5,some 6] ⟨o5_1+1,(B2 t8 t9 o5_0),⟨by omega,rfl⟩,rfl,h⟩ (by omega)
  rw[A6 (show¬((o5_1:Int)<(t4.1.length:Int))from c6),F46_l5]at h
  refine ww ?_
  cases h
  exact eM [some 0,some 1,some 2,some 3,some 4,some 5] rfl
 rintro _ rfl
 clear ho
 refine ww ?_
 obtain⟨o11,ho,h⟩:=bi h
 refine AB (fun s=>∃po11,o11=Sum.inr po11∧s=⟨[(3,Pz 0),(6,Pz 1),(9,Pz 2),(16,oc (.own 4 0 0 (po11.2.length) none))],[xb (AO x0),xb [dS ((⟨#[]⟩:ByteArray)),dS ((⟨#[]⟩:ByteArray)),dN,dI 0],xb [dS x1.Filter.Kind,dS x1.Filter.Namespace,.own 3 0 0 (t1.length) none,dI po11.1],some (.arr 0 3 (t1.map Al)),some (.arr 0 25 (po11.2.map Bp))]⟩) ?_ ?_
 ·have h0o11:=h
  have h:=ho
  clear ho
  obtain⟨_,hk,h⟩:=bi h
  have hk:=AS hk
  refine ww ?_
  refine bL (fun j s=>∃(o11_3:Nat) (o11_0:Int) (o11_1:List (ByteArray×Bool)) (o11_2:List Event),(o11_3≤x0.Ac.length∧j=x0.Ac.length-o11_3)∧s=⟨[(2,oc (dI ((if x2<1 then 1 else x2)))),(3,Pz 0),(4,Pz 1),(6,Pz 2),(9,Pz 3),(11,oc (.mref 5)),(16,oc (.own 6 0 0 (o11_2.length) none)),(63,oc (dM (x0.Ac.map A9))),(64,oc (dI ((x0.Ac.length:Int)))),(65,oc (dI ((o11_3:Int))))],[xb (AO x0),xb (DE x1),xb [dS ((⟨#[]⟩:ByteArray)),dS ((⟨#[]⟩:ByteArray)),dN,dI 0],xb [dS x1.Filter.Kind,dS x1.Filter.Namespace,.own 4 0 0 (t1.length) none,dI o11_0],some (.arr 0 3 (t1.map Al)),some (.map (eM1 Value.string (fun x=> .v (.bool x)) o11_1)),some (.arr 0 25 (o11_2.map Bp))]⟩∧F46_l11 t1 x1 x2 (x0.Ac.drop o11_3) o11_3 o11_0 o11_1 o11_2=some o11) (x0.Ac.length-0) [some 0,some 1,some 2,some 3,some 4,some 5,none] ⟨0,x1.Rev,o5,[],⟨hk.1,rfl⟩,rfl,h⟩ ?_
  rintro _ _ ⟨o11_3,o11_0,o11_1,o11_2,⟨hi,rfl⟩,rfl,h⟩
  refine ww ?_
  refine Bg (fun c12=>?_) (fun c12=>?_)
  ·obtain⟨xo11,hxo11,hd⟩:=A5 (show(o11_3:Int)<(x0.Ac.length:Int)from c12)
   rw[hd,F46_l11]at h
   refine ww ?_
   obtain⟨o13,ho,h⟩:=bi h
   refine AB (fun s=>∃po13,o13=Sum.inr po13∧s=⟨[(2,oc (dI ((if x2<1 then 1 else x2)))),(3,Pz 0),(4,Pz 1),(6,Pz 2),(9,Pz 3),(11,oc (.mref 5)),(16,oc (.own 6 0 0 (po13.2.2.length) none)),(63,oc (dM (x0.Ac.map A9))),(64,oc (dI ((x0.Ac.length:Int)))),(65,oc (dI ((o11_3:Int))))],[xb (AO x0),xb (DE x1),xb [dS ((⟨#[]⟩:ByteArray)),dS ((⟨#[]⟩:ByteArray)),dN,dI 0],xb [dS x1.Filter.Kind,dS x1.Filter.Namespace,.own 4 0 0 (t1.length) none,dI po13.1],some (.arr 0 3 (t1.map Al)),some (.map (eM1 Value.string (fun x=> .v (.bool x)) po13.2.1)),some (.arr 0 25 (po13.2.2.map Bp))]⟩) ?_ ?_
   ·have h0o13:=h
    have h:=ho
    clear ho
    refine ww ?_
    refine Az (enc:=A9) (xs:=x0.Ac) rfl rfl hxo11 rfl (ww ?_)
    refine AH h (fun c14 h=>ww ?_) (fun c14 h=>ww ?_)
    ·cases h
     exact eM [some 0,some 1,some 2,some 3,some 4,some 5,some 6] ⟨_,rfl,rfl⟩
    obtain⟨t15,ht15,h⟩:=bi h
    refine cN [] (F33_ok ht15) trivial (ww ?_)
    refine NF (enc:=(fun x=> .v (.bool x))) (l:=o11_1) (z:=false) kkS rfl rfl rfl rfl (ww ?_)
    obtain⟨t16,ht16,h⟩:=bi h
    refine cN [] (F85_ok ht16) trivial (ww ?_)
    obtain⟨o17,ho,h⟩:=bi h
    refine AB (fun s=>s=⟨[(2,oc (dI ((if x2<1 then 1 else x2)))),(3,Pz 0),(4,Pz 1),(6,Pz 2),(9,Pz 3),(11,oc (.mref 5)),(16,oc (.own 6 0 0 (o11_2.length) none)),(18,Pz 7),(20,oc (dI t16)),(63,oc (dM (x0.Ac.map A9))),(64,oc (dI ((x0.Ac.length:Int)))),(65,oc (dI ((o11_3:Int))))],[xb (AO x0),xb (DE x1),xb [dS ((⟨#[]⟩:ByteArray)),dS ((⟨#[]⟩:ByteArray)),dN,dI 0],xb [dS x1.Filter.Kind,dS x1.Filter.Namespace,.own 4 0 0 (t1.length) none,dI o11_0],some (.arr 0 3 (t1.map Al)),some (.map (eM1 Value.string (fun x=> .v (.bool x)) o17)),some (.arr 0 25 (o11_2.map Bp)),xb (EY xo11)]⟩) ?_ ?_
    ·have h:=ho
     clear ho
     refine ww ?_
     refine Af h (fun g18 h=>ww ?_) (fun g18 h=>ww ?_)
     ·refine I8 (enc:=(fun x=> .v (.bool x))) (l:=o11_1) (x:=true) kkS rfl rfl rfl rfl (ww ?_)
      cases h
      exact eM [some 0,some 1,some 2,some 3,some 4,some 5,some 6,some 7] rfl
     refine I8 (enc:=(fun x=> .v (.bool x))) (l:=o11_1) (x:=decide (t16=2)) kkS rfl rfl rfl rfl (ww ?_)
     cases h
     exact eM [some 0,some 1,some 2,some 3,some 4,some 5,some 6,some 7] rfl
    rintro _ rfl
    clear ho
    refine ww ?_
    refine AH h (fun c19 h=>ww ?_) (fun c19 h=>ww ?_)
    ·cases h
     exact eM [some 0,some 1,some 2,some 3,some 4,some 5,some 6] ⟨_,rfl,rfl⟩
    obtain⟨t20,ht20,h⟩:=bi h
    refine cN [] (F86_ok ht20) trivial (ww ?_)
    refine BE (enc:=Bp) (ys:=[(⟨t16,xo11.Rev,(⟨(⟨xo11.Object.Meta.Kind,xo11.Object.Meta.Namespace,xo11.Object.Meta.Name,xo11.Object.Meta.Uid,xo11.Object.Meta.Version,xo11.Object.Meta.Ai,xo11.Object.Meta.Created,xo11.Object.Meta.Av,xo11.Object.Meta.Ar,t20.1,t20.2.1,t20.2.2.1,t20.2.2.2.1⟩:Meta),(⟨t20.2.2.2.2.1,t20.2.2.2.2.2.1,t20.2.2.2.2.2.2.1,t20.2.2.2.2.2.2.2.1,t20.2.2.2.2.2.2.2.2.1⟩:Ab),(⟨t20.2.2.2.2.2.2.2.2.2.1,t20.2.2.2.2.2.2.2.2.2.2.1,t20.2.2.2.2.2.2.2.2.2.2.2.1,t20.2.2.2.2.2.2.2.2.2.2.2.2.1,t20.2.2.2.2.2.2.2.2.2.2.2.2.2⟩:Ab)⟩:Object)⟩:Event)]) rfl rfl (by simp[A1.cells]) (by first|rfl|(simp only[List.drop_zero,Aw];rfl)|(simp only[lit,List.map_cons,List.map_nil,List.drop_zero,Aw,EE.down];done)|(simp only[lit,List.map_cons,List.map_nil,List.drop_zero,Aw,EE.down];rfl)) (ww ?_)
    obtain⟨a21,ha21,h⟩:=bi h
    refine D6 (enc:=Bp) (xs:=o11_2) rfl rfl (by first|rfl|simp only[List.length_set]|exact(AN (AX (by assumption))).symm) rfl (Co (enc:=Bp) (by first|rfl|simp only[List.length_set]|exact(AN (AX (by assumption))).symm) rfl) ha21 (ww ?_)
    refine AH h (fun c22 h=>ww ?_) (fun c22 h=>ww ?_)
    ·obtain⟨fh0o13,hfh0o13,rfl⟩:=Option.map_eq_some_iff.1 h
     have h:=hfh0o13.trans h0o13
     obtain⟨fh0o11,hfh0o11,rfl⟩:=Option.map_eq_some_iff.1 h
     have h:=hfh0o11.trans h0o11
     cases h
     exact eF [some 4,some 6]
    cases h
    exact eM [some 0,some 1,some 2,some 3,some 4,some 5,some 6] ⟨_,rfl,rfl⟩
   rintro _ ⟨po13,rfl,rfl⟩
   clear ho
   dsimp only at h
   refine ww ?_
   rw[AW (by omega)]
   exact eL' (x0.Ac.length-(o11_3+1)) [some 0,some 1,some 2,some 3,some 4,some 5,some 6] ⟨o11_3+1,po13.1,po13.2.1,po13.2.2,⟨by omega,rfl⟩,rfl,h⟩ (by omega)
  rw[A6 (show¬((o11_3:Int)<(x0.Ac.length:Int))from c12),F46_l11]at h
  refine ww ?_
  cases h
  exact eM [some 0,some 2,some 3,some 4,some 6] ⟨_,rfl,rfl⟩
 rintro _ ⟨po11,rfl,rfl⟩
 clear ho
 dsimp only at h
 refine ww ?_
 obtain⟨o24,ho,h⟩:=bi h
 refine AB (fun s=>s=⟨[(6,Pz 0),(9,Pz 1),(16,oc (.own 3 0 0 (o24.2.length) none))],[xb [dS ((⟨#[]⟩:ByteArray)),dS ((⟨#[]⟩:ByteArray)),dN,dI 0],xb [dS x1.Filter.Kind,dS x1.Filter.Namespace,.own 2 0 0 (t1.length) none,dI o24.1],some (.arr 0 3 (t1.map Al)),some (.arr 0 25 (o24.2.map Bp))]⟩) ?_ ?_
 ·have h:=ho
  clear ho
  refine ww ?_
  refine AH h (fun c25 h=>ww ?_) (fun c25 h=>ww ?_)
  ·refine BE (enc:=Bp) (ys:=[(⟨4,x0.Rev,(⟨(⟨(⟨#[]⟩:ByteArray),(⟨#[]⟩:ByteArray),(⟨#[]⟩:ByteArray),0,0,0,0,false,0,[],[],[],[]⟩:Meta),(⟨0,0,(⟨#[]⟩:ByteArray),[],[]⟩:Ab),(⟨0,0,(⟨#[]⟩:ByteArray),[],[]⟩:Ab)⟩:Object)⟩:Event)]) rfl rfl (by simp[A1.cells]) (by first|rfl|(simp only[List.drop_zero,Aw];rfl)|(simp only[lit,List.map_cons,List.map_nil,List.drop_zero,Aw,EE.down];done)|(simp only[lit,List.map_cons,List.map_nil,List.drop_zero,Aw,EE.down];rfl)) (ww ?_)
   obtain⟨a26,ha26,h⟩:=bi h
   refine D6 (enc:=Bp) (xs:=po11.2) rfl rfl (by first|rfl|simp only[List.length_set]|exact(AN (AX (by assumption))).symm) rfl (Co (enc:=Bp) (by first|rfl|simp only[List.length_set]|exact(AN (AX (by assumption))).symm) rfl) ha26 (ww ?_)
   cases h
   exact eM [some 1,some 2,some 3,some 4] rfl
  cases h
  exact eM [some 1,some 2,some 3,some 4] rfl
 rintro _ rfl
 clear ho
 refine ww ?_
 cases h
 exact eF [some 2,some 3]
def F21(x0:Ag)(x1:Cache)(x2:Int):Option ((List Ah)×Int×Bool×(List Object)×Bool):=(F45 x1.Filter.Selector).bind fun t1=>(if(nb t1)=true then(F11 x1 ([])).bind fun t3=>some ((t3.1,t3.2.1,x1.Bq,t3.2.2,false))else(F46 x0 ((⟨x1.Filter,x1.Rev⟩:Ck)) x2).bind fun t4=>(((((if(nb x1.Bq)=true then some true else some (decide (¬(t4.2.2.2=0))))).bind fun o6=>(if o6=true then(F47 x0 x1).bind fun t9=>some ((t9.1,x0.Rev,true,t9.2))else(F11 x1 t4.2.2.1).bind fun t10=>some ((t10.1,t10.2.1,x1.Bq,t10.2.2))))).bind fun o5=>some ((o5.1,o5.2.1,o5.2.2.1,o5.2.2.2,decide (o5.2.1=x0.Rev)))))
def a21:AFn:=⟨51,[(.cell 6 (some 6)),(.tmp 7)],
 (.seq (.reg [Qg 3 0,
Qg 4 1,
sq 6 (.zbox [dS ⟨#[]⟩,dS ⟨#[]⟩,dN,dI 0,dB false,dN]),
Qf 7 false])
 (.seq (.seq (.reg [Qb 12 0 4,
Qb 13 2 12,
Qd 14 13,
Qk 15 45 14,
Qq 16 15])
 (.cond (.t 16)
 (.seq (.reg [Qc 17 6 4,
sq 18 (.call 11 [(.t 17),kN]),
su (.store 6 (.t 6) (.t 18)),
Qf 7 false])
 .ret)
 .skip))
 (.seq (.reg [Qc 19 6 4,
sq 8 (.zbox [dS ⟨#[]⟩,dS ⟨#[]⟩,dN,dI 0,dB false,dN]),
su (.store 6 (.t 8) (.t 19))])
 (.seq (.reg [Qc 21 6 3,
Qb 22 0 4,
Qc 23 3 22,
Qb 24 3 4,
Qd 25 24,
sq 26 (.build [dS ⟨#[]⟩,dS ⟨#[]⟩,dN,dI 0] [(0,3,(.t 23)),(3,1,(.t 25))]),
Qa 27 2,
sq 28 (.call 46 [(.t 21),(.t 26),(.t 27)]),
Qa 20 28,
Qo 29 20 0,
Qo 30 20 1,
Qo 31 20 2,
sq 9 (.zbox [dS ⟨#[]⟩,dS ⟨#[]⟩,dN,dI 0]),
su (.store 4 (.t 9) (.t 29)),
Qa 10 30,
Qa 11 31])
 (.seq (.sem (.seq (.sem (.reg [Qb 32 4 4,
Qd 33 32,
Qq 34 33,
Qa 35 34,
Qv 36 35 false 11,
zg 37 35 false (.bin .neq (.t 36) (kI 0)),
zl 38 (.pick (.t 35) (kB true) (.t 37)) [] [4,32]]))
 (.cond (.t 38)
 (.reg [Qc 39 6 3,
Qc 40 6 4,
Ql 41 47 39 40,
su (.store 6 (.t 8) (.t 41))])
 (.reg [Qc 42 6 4,
Qa 43 10,
Ql 44 11 42 43,
su (.store 6 (.t 8) (.t 44))]))))
 (.seq (.regd [Qc 45 6 8,
Qb 46 3 8,
sd 47 (.load none (.t 46)) [1],
Qb 48 0 3,
sd 49 (.load none (.t 48)) [3],
sd 50 (.bin .eql (.t 47) (.t 49)) [1,2,3,4],
⟨none,none,.store 6 (.t 6) (.t 45),[0],(.lone [8,46,3,48])⟩,
sd 7 (.mv (.t 50)) [0,1,2,3,4,5,6]])
 .ret))))))⟩
theorem F21_ok{x0 x1 x2 r}(h:F21 x0 x1 x2=some r):An Tryz.prog 21 [.agg (AO x0),.agg (Ch x1),.c (dI x2)] [] (AL [.agg [dS x1.Filter.Kind,dS x1.Filter.Namespace,.own 0 0 0 (r.1.length) none,dI r.2.1,dB r.2.2.1,.own 1 0 0 (r.2.2.2.1.length) none],.c (dB r.2.2.2.2)]) [some (.arr 0 3 (r.1.map Al)),some (.arr 0 23 (r.2.2.2.1.map Ad))]:=by
 rw[F21]at h
 refine zc a21 (by kernel_rfl) rfl (ww ?_)
 obtain⟨t1,ht1,h⟩:=bi h
 refine cN [] (F45_ok ht1) trivial (ww ?_)
 refine AE h (fun c2 h=>ww ?_) (fun c2 h=>ww ?_)
 ·obtain⟨t3,ht3,h⟩:=bi h
  refine cN [] (F11_ok ht3) trivial (ww ?_)
  cases h
  exact eF [some 3,some 4]
 obtain⟨t4,ht4,h⟩:=bi h
 refine cN [] (F46_ok ht4) trivial (ww ?_)
 obtain⟨o5,ho,h⟩:=bi h
 refine AB (fun s=>s=⟨[(3,Pz 0),(6,Pz 1),(8,Pz 2)],[xb (AO x0),xb [dS ((⟨#[]⟩:ByteArray)),dS ((⟨#[]⟩:ByteArray)),dN,dI 0,dB false,dN],xb [dS x1.Filter.Kind,dS x1.Filter.Namespace,.own 3 0 0 (o5.1.length) none,dI o5.2.1,dB o5.2.2.1,.own 4 0 0 (o5.2.2.2.length) none],some (.arr 0 3 (o5.1.map Al)),some (.arr 0 23 (o5.2.2.2.map Ad))]⟩) ?_ ?_
 ·have h:=ho
  clear ho
  refine ww ?_
  obtain⟨o6,ho,h⟩:=bi h
  refine AB (fun s=>s=⟨[(3,Pz 0),(4,Pz 1),(6,Pz 2),(8,Pz 3),(10,oc (.own 4 0 0 (t4.2.2.1.length) none)),(38,oc (dB o6))],[xb (AO x0),xb (Ch x1),xb [dS ((⟨#[]⟩:ByteArray)),dS ((⟨#[]⟩:ByteArray)),dN,dI 0,dB false,dN],xb (Ch x1),some (.arr 0 25 (t4.2.2.1.map Bp))]⟩) ?_ ?_
  ·have h:=ho
   clear ho
   refine ww ?_
   refine AM h (fun g7 h=>ww ?_) (fun g7 h=>ww ?_)
   ·cases h
    exact eM [some 0,some 1,some 2,some 3,some 5] rfl
   cases h
   exact eM [some 0,some 1,some 2,some 3,some 5] rfl
  rintro _ rfl
  clear ho
  refine ww ?_
  refine AE h (fun c8 h=>ww ?_) (fun c8 h=>ww ?_)
  ·obtain⟨t9,ht9,h⟩:=bi h
   refine cN [] (F47_ok ht9) trivial (ww ?_)
   cases h
   exact eM [some 0,some 2,some 3,some 5,some 6] rfl
  obtain⟨t10,ht10,h⟩:=bi h
  refine Ce (as1:=[.agg (Ch x1),.c (dM (t4.2.2.1.map Bp))]) [(4,.arr 1 25 [])] [some 0,some 1,some 2,some 3,none] [] (F11_ok ht10) ⟨?_,rfl,?_⟩ ?_ ?_ ?_ ?_ ?_ ?_ ?_ ?_
  ·simp only[ZZ.down,Nat.reduceEqDiff,reduceCtorEq,Nat.reduceAdd,Nat.reduceLeDiff,Nat.reduceLT,Nat.reduceBNe,EE.down]
  ·simp only[ZZ.down,Nat.reduceEqDiff,reduceCtorEq,Nat.reduceAdd,Nat.reduceLeDiff,Nat.reduceLT,Nat.reduceBNe,EE.down]
  ·simp only[ZZ.down,Nat.reduceEqDiff,reduceCtorEq,Nat.reduceAdd,Nat.reduceLeDiff,Nat.reduceLT,Nat.reduceBNe,EE.down]
  ·rfl
  ·rfl
  ·simp[Cj,A1.live,C.live]
  ·rfl
  ·decide
  ·exact trivial
  refine ww ?_
  cases h
  exact eM [some 0,some 2,some 3,some 5,some 6] rfl
 rintro _ rfl
 clear ho
 refine ww ?_
 cases h
 exact eF [some 3,some 4]
def F10:Option (Bool):=(F31).bind fun t1=>(((F17 ((⟨(⟨#[80,111,100]⟩:ByteArray),(⟨#[]⟩:ByteArray),[]⟩:Filter))).bind fun t3=>(F21 ((⟨(t1).Rev,(t1).As,(t1).Am,(t1).Bt,(t1).Aa,(t1).Ac⟩:Ag)) ((⟨(⟨((⟨#[80,111,100]⟩:ByteArray)),((⟨#[]⟩:ByteArray)),t3⟩:Filter),0,false,[]⟩:Cache)) 10).bind fun t4=>some ((t4.1,t4.2.1,t4.2.2.1,t4.2.2.2.1,t4.2.2.2.2))).bind fun o2=>(F13 ((⟨(⟨(((⟨#[80,111,100]⟩:ByteArray))),(((⟨#[]⟩:ByteArray))),o2.1⟩:Filter),o2.2.1,o2.2.2.1,o2.2.2.2.1⟩:Cache)) ((⟨#[80,111,100,47,110,47,97]⟩:ByteArray))).bind fun t5=>(F32 ((⟨(t1).Rev,(t1).As,(t1).Am,(t1).Bt,(t1).Aa,(t1).Ac⟩:Ag)) ((⟨#[80,111,100,47,110,47,97]⟩:ByteArray)) 0).bind fun t6=>(F21 ((⟨(t6.1).Rev,(t6.1).As,(t6.1).Am,(t6.1).Bt,(t6.1).Aa,(t6.1).Ac⟩:Ag)) ((⟨(⟨(((⟨#[80,111,100]⟩:ByteArray))),(((⟨#[]⟩:ByteArray))),o2.1⟩:Filter),o2.2.1,o2.2.2.1,o2.2.2.2.1⟩:Cache)) 10).bind fun t7=>(((if o2.2.2.2.2=true then(if t5.2.2.2.2.2.2.2.2.2.2.2.2.2.2.2.2.2.2.2.2.2.2.2=true then(if t5.2.2.1=(⟨#[97]⟩:ByteArray)then(if o2.2.1=2 then(if o2.2.2.1=true then(if(o2.2.2.2.1.length:Int)=1 then(if t7.2.2.2.2=true then(if t7.2.1=3 then some (decide ((t7.2.2.2.1.length:Int)=0))else some false)else some false)else some false)else some false)else some false)else some false)else some false)else some false)).bind fun o8=>some o8))
def a10:AFn:=⟨72,[(.tmp 0)],
 (.seq (.reg [Qf 0 false])
 (.seq (.reg [sq 8 (.call 31 []),
sq 1 (.zbox [dI 0,dI 0,dI 0,dN,dN,dN]),
su (.store 6 (.t 1) (.t 8))])
 (.seq (.sem (.regd [Qc 10 6 1,
sq 11 (.build [dS ⟨#[]⟩,dS ⟨#[]⟩,dN] [(0,1,(kS ⟨#[80,111,100]⟩))]),
zn 12 (.call 17 [(.t 11)]) [1] [1],
zn 13 (.call 21 [(.t 10),(.t 12),(kI 10)]) [0,1,2] [0,1,2],
sd 9 (.mv (.t 13)) [0,1,2,3],
sd 14 (.ext (.t 9) 0) [0,1,2,3,4],
sd 15 (.ext (.t 9) 1) [0,1,2,3,4],
sq 2 (.zbox [dS ⟨#[]⟩,dS ⟨#[]⟩,dN,dI 0,dB false,dN]),
⟨none,none,.store 6 (.t 2) (.t 14),[0,1,2,3,4,5,7],(.lone [])⟩,
sd 3 (.mv (.t 15)) [0,1,2,3,4,5,6,7,8]]))
 (.seq (.reg [Qc 17 6 2,
sq 18 (.call 13 [(.t 17),(kS ⟨#[80,111,100,47,110,47,97]⟩)]),
Qa 16 18,
Qo 19 16 0,
Qo 20 16 1,
sq 4 (.zbox [dS ⟨#[]⟩,dS ⟨#[]⟩,dS ⟨#[]⟩,dI 0,dI 0,dI 0,dI 0,dB false,dI 0,dN,dN,dN,dN,dI 0,dI 0,dS ⟨#[]⟩,dN,dN,dI 0,dI 0,dS ⟨#[]⟩,dN,dN]),
su (.store 23 (.t 4) (.t 19)),
Qa 5 20])
 (.seq (.reg [Qc 22 6 1,
sq 23 (.call 32 [(.t 22),(kS ⟨#[80,111,100,47,110,47,97]⟩),(kI 0)]),
Qa 21 23,
Qo 24 21 0,
Qo 25 21 1,
Qo 26 21 2,
su (.store 6 (.t 1) (.t 24))])
 (.seq (.reg [Qc 28 6 1,
Qc 29 6 2,
sq 30 (.call 21 [(.t 28),(.t 29),(kI 10)]),
Qa 27 30,
Qo 31 27 0,
Qo 32 27 1,
sq 6 (.zbox [dS ⟨#[]⟩,dS ⟨#[]⟩,dN,dI 0,dB false,dN]),
su (.store 6 (.t 6) (.t 31)),
Qa 7 32])
 (.seq (.sem (.reg [Qa 33 3,
Qa 34 33,
Qv 35 34 true 5,
Qi 36 34 35,
Qa 37 36,
Qs 38 37 true 0 4,
Qs 39 37 true 2 38,
Qt 40 37 true 39,
zg 41 37 true (.bin .eql (.t 40) (kS ⟨#[97]⟩)),
Qi 42 37 41,
Qa 43 42,
Qs 44 43 true 3 2,
Qt 45 43 true 44,
zg 46 43 true (.bin .eql (.t 45) (kI 2)),
Qi 47 43 46,
Qa 48 47,
Qs 49 48 true 4 2,
Qt 50 48 true 49,
Qi 51 48 50,
Qa 52 51,
Qs 53 52 true 5 2,
Qt 54 52 true 53,
zg 55 52 true (.len (.t 54)),
zg 56 52 true (.bin .eql (.t 55) (kI 1)),
Qi 57 52 56,
Qa 58 57,
Qv 59 58 true 7,
Qi 60 58 59,
Qa 61 60,
Qs 62 61 true 3 6,
Qt 63 61 true 62,
zg 64 61 true (.bin .eql (.t 63) (kI 3)),
Qi 65 61 64,
Qa 66 65,
Qs 67 66 true 5 6,
Qt 68 66 true 67,
zg 69 66 true (.len (.t 68)),
zg 70 66 true (.bin .eql (.t 69) (kI 0)),
Qi 71 66 70,
Qa 0 71]))
 .ret)))))))⟩
theorem F10_ok{r}(h:F10=some r):An Tryz.prog 10 [] [] (AL [.c (dB r)]) []:=by
 rw[F10]at h
 refine zc a10 (by kernel_rfl) rfl (ww ?_)
 obtain⟨t1,ht1,h⟩:=bi h
 refine cN [] (F31_ok ht1) trivial (ww ?_)
 obtain⟨o2,ho,h⟩:=bi h
 refine AB (fun s=>s=⟨[(1,Pz 0),(2,Pz 1),(3,oc (dB o2.2.2.2.2))],[xb (AO (t1)),xb [dS ((((⟨#[80,111,100]⟩:ByteArray)))),dS ((((⟨#[]⟩:ByteArray)))),dM (o2.1.map Al),dI o2.2.1,dB o2.2.2.1,dM (o2.2.2.2.1.map Ad)]]⟩) ?_ ?_
 ·have h:=ho
  clear ho
  refine ww ?_
  obtain⟨t3,ht3,h⟩:=bi h
  refine cN [] (F17_ok ht3) trivial (ww ?_)
  refine B3 (by simp[wrs,B8,BV]) (ww ?_)
  obtain⟨t4,ht4,h⟩:=bi h
  refine Ce (as1:=[.agg (AO (t1)),.agg [dS (((⟨#[80,111,100]⟩:ByteArray))),dS (((⟨#[]⟩:ByteArray))),dM (t3.map Al),dI 0,dB false,dM (([]:List Object).map Ad)],.c (dI 10)]) [(1,.arr 1 3 [])] [some 0,none] [] (F21_ok ht4) ⟨?_,rfl,?_⟩ ?_ ?_ ?_ ?_ ?_ ?_ ?_ ?_
  ·simp only[ZZ.down,Nat.reduceEqDiff,reduceCtorEq,Nat.reduceAdd,Nat.reduceLeDiff,Nat.reduceLT,Nat.reduceBNe,EE.down]
  ·simp only[ZZ.down,Nat.reduceEqDiff,reduceCtorEq,Nat.reduceAdd,Nat.reduceLeDiff,Nat.reduceLT,Nat.reduceBNe,EE.down]
  ·simp only[ZZ.down,Nat.reduceEqDiff,reduceCtorEq,Nat.reduceAdd,Nat.reduceLeDiff,Nat.reduceLT,Nat.reduceBNe,EE.down]
  ·rfl
  ·rfl
  ·simp[Cj,A1.live,C.live]
  ·rfl
  ·decide
  ·exact trivial
  refine ww ?_
  refine Rh (by simp[wrs,B8,BV,Td]) (ww ?_)
  refine B3 (by simp[wrs,B8,BV]) (ww ?_)
  cases h
  exact eM [some 0,some 4] rfl
 rintro _ rfl
 clear ho
 refine ww ?_
 obtain⟨t5,ht5,h⟩:=bi h
 refine cN [] (F13_ok ht5) trivial (ww ?_)
 obtain⟨t6,ht6,h⟩:=bi h
 refine cN [] (F32_ok ht6) trivial (ww ?_)
 obtain⟨t7,ht7,h⟩:=bi h
 refine cN [] (F21_ok ht7) trivial (ww ?_)
 obtain⟨o8,ho,h⟩:=bi h
 refine AB (fun s=>s=⟨[(0,oc (dB o8))],[]⟩) ?_ ?_
 ·have h:=ho
  clear ho
  refine ww ?_
  refine AM h (fun g9 h=>ww ?_) (fun g9 h=>ww ?_)
  ·refine AM h (fun g10 h=>ww ?_) (fun g10 h=>ww ?_)
   ·refine Af h (fun g11 h=>ww ?_) (fun g11 h=>ww ?_)
    ·refine Af h (fun g12 h=>ww ?_) (fun g12 h=>ww ?_)
     ·refine AM h (fun g13 h=>ww ?_) (fun g13 h=>ww ?_)
      ·refine Af h (fun g14 h=>ww ?_) (fun g14 h=>ww ?_)
       ·refine AM h (fun g15 h=>ww ?_) (fun g15 h=>ww ?_)
        ·refine Af h (fun g16 h=>ww ?_) (fun g16 h=>ww ?_)
         ·cases h
          exact eM [] rfl
         cases h
         exact eM [] rfl
        cases h
        exact eM [] rfl
       cases h
       exact eM [] rfl
      cases h
      exact eM [] rfl
     cases h
     exact eM [] rfl
    cases h
    exact eM [] rfl
   cases h
   exact eM [] rfl
  cases h
  exact eM [] rfl
 rintro _ rfl
 clear ho
 refine ww ?_
 cases h
 exact eF []
end Go.Proofs.YtdkmamiedcanfaaGreat
