/- Each Go function as a function over typed data, and its walk. -/
import Derived.Test.YtondgcmdhkhkkaaGreatW0
import Derived.Test.YtondgcmdhkhkkaaGreatW1
import Derived.Test.YtondgcmdhkhkkaaGreatW6
import Derived.Test.YtondgcmdhkhkkaaGreatW12
import Derived.Test.YtondgcmdhkhkkaaGreatW13
import Derived.Test.YtondgcmdhkhkkaaGreatW15
namespace Go.Proofs.YtondgcmdhkhkkaaGreat
open Go Go.Fw Go.Shelf
set_option maxRecDepth 100000
set_option maxHeartbeats 4000000
set_option linter.unusedSimpArgs false
set_option linter.unusedVariables false
def F4_l29(o14:Int)(o19_1:Int)(t12:(List Requirement)×Int×(List Event)×Int)(t24:(List Requirement)×Int×(List Event)×Int):List Event→Nat→Int→Option (((Bool) ⊕ (Watcher×Int)) ⊕ (Int))
 |[],o29_1,o29_0=>some (Sum.inr o29_0)
 |xo29::xs,o29_1,o29_0=>(((((rdI t24.2.2.1 ((o29_1:Int))).bind fun y33=>(if y33.Rev≤o19_1 then some true else(if 0<(o29_1:Int)then(rdI t24.2.2.1 ((o29_1:Int))).bind fun y36=>(rdI t24.2.2.1 ((IntKind.i64.wrap (((o29_1:Int))-1)))).bind fun y37=>some (decide (y36.Rev≤y37.Rev))else some false))).bind fun o32=>(if o32=true then(((some false).map Sum.inl).map Sum.inl).map Sum.inl else(rdI t24.2.2.1 ((o29_1:Int))).bind fun y39=>(if y39.Type_=4 then some (Sum.inr o29_0)else(((if o14≤o29_0 then some true else(rdI t24.2.2.1 ((o29_1:Int))).bind fun y43=>(rdI t12.2.2.1 o29_0).bind fun y44=>(if¬(y43.Type_=y44.Type_)then some true else(rdI t24.2.2.1 ((o29_1:Int))).bind fun y46=>(rdI t12.2.2.1 o29_0).bind fun y47=>(if¬(y46.Rev=y47.Rev)then some true else(rdI t24.2.2.1 ((o29_1:Int))).bind fun y49=>(rdI t12.2.2.1 o29_0).bind fun y50=>(F20 y49.Object y50.Object).bind fun t51=>some (nb t51))))).bind fun o41=>(if o41=true then(((some false).map Sum.inl).map Sum.inl).map Sum.inl else some (Sum.inr ((IntKind.i64.wrap (o29_0+1))))))))):Option ((((Bool) ⊕ (Watcher×Int)) ⊕ (Int)) ⊕ (Int))).bind fun o31=>match o31 with|Sum.inl f=>some f|Sum.inr po31=>F4_l29 o14 o19_1 t12 t24 xs (o29_1+1) po31)
def F4_l19(o14:Int)(t12:(List Requirement)×Int×(List Event)×Int)(t7:TStore)(t8:ByteArray×ByteArray×(List Requirement)×Int×Int)(x3:(List Int)):Nat→(List Requirement)→Int→Int→Int→Option ((Bool) ⊕ (Watcher×Int))
 |0,_,_,_,_=>none
 |k+1,o19_0,o19_1,o19_2,o19_3=>(if o19_3≤(IntKind.i64.wrap (((((t7).History).length:Int))+1))then(((if o19_3<(x3.length:Int)then(rdI x3 o19_3).bind fun y23=>some y23 else some 1)).bind fun o21=>(F14 ((⟨(t7).Rev,(t7).Floor,(t7).NextUid,(t7).Base,(t7).Objects,(t7).History⟩:TStore)) ((⟨(⟨t8.1,t8.2.1,o19_0⟩:Filter),o19_1⟩:Watcher)) o21).bind fun t24=>(((if¬(t24.2.2.2=0)then some true else(if t24.2.1<o19_1 then some true else some (decide ((if o21<1 then 1 else o21)<(t24.2.2.1.length:Int)))))).bind fun o25=>(if o25=true then(some false).map Sum.inl else(((ck (0≤t24.2.2.1.length∧t24.2.2.1.length≤4294967290)).bind fun u53=>F4_l29 o14 o19_1 t12 t24 t24.2.2.1 0 o19_2:Option (((Bool) ⊕ (Watcher×Int)) ⊕ (Int))).bind fun o29=>match o29 with|Sum.inl f=>some f|Sum.inr po29=>F4_l19 o14 t12 t7 t8 x3 k t24.1 t24.2.1 po29 ((IntKind.i64.wrap (o19_3+1)))))))else some (Sum.inr (((⟨(⟨t8.1,t8.2.1,o19_0⟩:Filter),o19_1⟩:Watcher),o19_2))))
def F4(x0:(List TOp))(x1:Filter)(x2:Int)(x3:(List Int)):Option (Bool):=(((F8 x0).bind fun t2=>(if(nb t2)=true then some true else(F9 x1).bind fun t4=>some (nb t4))).bind fun o1=>(if o1=true then(F10).bind fun t6=>some t6 else(F11 x0).bind fun t7=>(F12 ((⟨(t7).Rev,(t7).Floor,(t7).NextUid,(t7).Base,(t7).Objects,(t7).History⟩:TStore)) x1 x2).bind fun t8=>((some (())).bind fun o9=>(if¬(t8.2.2.2.2=0)then(F10).bind fun t11=>some t11 else(F14 ((⟨(t7).Rev,(t7).Floor,(t7).NextUid,(t7).Base,(t7).Objects,(t7).History⟩:TStore)) ((⟨(⟨t8.1,t8.2.1,t8.2.2.1⟩:Filter),t8.2.2.2.1⟩:Watcher)) 1000).bind fun t12=>(if¬(t12.2.2.2=0)then some false else(((((if 0<(t12.2.2.1.length:Int)then(rdI t12.2.2.1 ((IntKind.i64.wrap (((t12.2.2.1.length:Int))-1)))).bind fun y17=>some (decide (y17.Type_=4))else some false)).bind fun o15=>(if o15=true then some ((IntKind.i64.wrap (((t12.2.2.1.length:Int))-1)))else some ((t12.2.2.1.length:Int))))).bind fun o14=>((F4_l19 o14 t12 t7 t8 x3 1099511627776 t8.2.2.1 t8.2.2.2.1 0 0:Option ((Bool) ⊕ (Watcher×Int))).bind fun o19=>match o19 with|Sum.inl f=>some f|Sum.inr po19=>(F14 ((⟨(t7).Rev,(t7).Floor,(t7).NextUid,(t7).Base,(t7).Objects,(t7).History⟩:TStore)) ((⟨(⟨(po19.1).Filter.Kind,(po19.1).Filter.Namespace,(po19.1).Filter.Selector⟩:Filter),(po19.1).Rev⟩:Watcher)) 5).bind fun t54=>(((F10).bind fun t56=>(if t56=true then(if po19.2=o14 then(if(po19.1).Rev=(t7).Rev then(if t54.2.2.2=0 then some (decide ((t54.2.2.1.length:Int)=0))else some false)else some false)else some false)else some false)).bind fun o55=>some o55))))))))
def a4:AFn:=⟨224,[(.tmp 8)],
 (.seq (.reg [sq 5 (.box (.t 1)),
sq 8 (.mv (kB false))])
 (.seq (.seq (.sem (.reg [sq 26 (.mv (.t 0)),
sq 27 (.call 8 [(.t 26)]),
sq 28 (.not (.t 27)),
sq 29 (.mv (.t 28)),
zg 30 29 false (.load (some 3) (.t 5)),
zg 31 29 false (.call 9 [(.t 30)]),
zg 32 29 false (.not (.t 31)),
sq 33 (.pick (.t 29) (kB true) (.t 32))]))
 (.cond (.t 33)
 (.seq (.reg [sq 34 (.call 10 []),
sq 8 (.mv (.t 34))])
 .ret)
 .skip))
 (.seq (.reg [sq 35 (.mv (.t 0)),
sq 36 (.call 11 [(.t 35)]),
sq 9 (.zbox [dI 0,dI 0,dI 0,dN,dN,dN]),
su (.store 6 (.t 9) (.t 36))])
 (.seq (.reg [sq 38 (.load (some 6) (.t 9)),
sq 39 (.load (some 3) (.t 5)),
sq 40 (.mv (.t 2)),
sq 41 (.call 12 [(.t 38),(.t 39),(.t 40)]),
sq 37 (.mv (.t 41)),
sq 42 (.ext (.t 37) 0),
sq 43 (.ext (.t 37) 1),
sq 10 (.zbox [dS ⟨#[]⟩,dS ⟨#[]⟩,dN,dI 0]),
su (.store 4 (.t 10) (.t 42)),
sq 11 (.mv (.t 43))])
 (.seq (.seq (.sem (.reg [sq 44 (.mv (.t 11)),
sq 45 (.bin .neq (.t 44) (kI 0))]))
 (.cond (.t 45)
 (.seq (.reg [sq 46 (.call 10 []),
sq 8 (.mv (.t 46))])
 .ret)
 .skip))
 (.seq (.reg [sq 48 (.load (some 6) (.t 9)),
sq 49 (.load (some 4) (.t 10)),
sq 50 (.call 14 [(.t 48),(.t 49),(kI 1000)]),
sq 47 (.mv (.t 50)),
sq 51 (.ext (.t 47) 0),
sq 52 (.ext (.t 47) 1),
sq 53 (.ext (.t 47) 2),
sq 12 (.zbox [dS ⟨#[]⟩,dS ⟨#[]⟩,dN,dI 0]),
su (.store 4 (.t 12) (.t 51)),
sq 13 (.mv (.t 52)),
sq 14 (.mv (.t 53))])
 (.seq (.seq (.reg [sq 54 (.mv (.t 14)),
sq 55 (.bin .neq (.t 54) (kI 0))])
 (.cond (.t 55)
 (.seq (.reg [sq 8 (.mv (kB false))])
 .ret)
 .skip))
 (.seq (.reg [sq 56 (.mv (.t 13)),
sq 57 (.len (.t 56)),
sq 15 (.mv (.t 57))])
 (.seq (.sem (.seq (.sem (.reg [sq 58 (.mv (.t 15)),
sq 59 (.bin .gtr (.t 58) (kI 0)),
sq 60 (.mv (.t 59)),
zg 61 60 true (.mv (.t 13)),
zg 62 60 true (.mv (.t 15)),
zg 63 60 true (.bin .sub (.t 62) (kI 1)),
zg 64 60 true (.indexA 25 (.t 61) (.t 63)),
zg 65 60 true (.fieldA 0 (.t 64)),
zg 66 60 true (.load none (.t 65)),
zg 67 60 true (.bin .eql (.t 66) (kI 4)),
zl 68 (.pick (.t 60) (.t 67) (kB false)) [] [61,64,65]]))
 (.cond (.t 68)
 (.reg [sq 69 (.mv (.t 15)),
sq 70 (.bin .sub (.t 69) (kI 1)),
sq 15 (.mv (.t 70))])
 .skip)))
 (.seq (.reg [sq 16 (.mv (kI 0))])
 (.seq (.seq (.reg [sq 17 (.mv (kI 0))])
 (.sem (.block 0 (.loop (.seq (.seq (.reg [sq 71 (.mv (.t 17)),
sq 72 (.fieldA 5 (.t 9)),
sq 73 (.load none (.t 72)),
sq 74 (.len (.t 73)),
sq 75 (.bin .add (.t 74) (kI 1)),
sq 76 (.bin .leq (.t 71) (.t 75))])
 (.cond (.t 76)
 .skip
 (.exit 0)))
 (.seq (.block 1 (.seq (.reg [sq 18 (.mv (kI 1))])
 (.seq (.sem (.seq (.reg [sq 79 (.mv (.t 17)),
sq 80 (.mv (.t 3)),
sq 81 (.len (.t 80)),
sq 82 (.bin .lss (.t 79) (.t 81))])
 (.cond (.t 82)
 (.reg [sq 83 (.mv (.t 3)),
sq 84 (.mv (.t 17)),
sq 85 (.indexA 1 (.t 83) (.t 84)),
sq 86 (.load none (.t 85)),
sq 18 (.mv (.t 86))])
 .skip)))
 (.seq (.reg [sq 88 (.load (some 6) (.t 9)),
sq 89 (.load (some 4) (.t 10)),
sq 90 (.mv (.t 18)),
sq 91 (.call 14 [(.t 88),(.t 89),(.t 90)]),
sq 87 (.mv (.t 91)),
sq 92 (.ext (.t 87) 0),
sq 93 (.ext (.t 87) 1),
sq 94 (.ext (.t 87) 2),
sq 19 (.zbox [dS ⟨#[]⟩,dS ⟨#[]⟩,dN,dI 0]),
su (.store 4 (.t 19) (.t 92)),
sq 20 (.mv (.t 93)),
sq 21 (.mv (.t 94))])
 (.seq (.seq (.sem (.reg [sq 95 (.mv (.t 21)),
sq 96 (.bin .neq (.t 95) (kI 0)),
sq 97 (.mv (.t 96)),
zg 98 97 false (.fieldA 3 (.t 19)),
zg 99 97 false (.load none (.t 98)),
zg 100 97 false (.fieldA 3 (.t 10)),
zg 101 97 false (.load none (.t 100)),
zg 102 97 false (.bin .lss (.t 99) (.t 101)),
sq 103 (.pick (.t 97) (kB true) (.t 102)),
sq 104 (.mv (.t 103)),
zg 105 104 false (.mv (.t 20)),
zg 106 104 false (.len (.t 105)),
zg 107 104 false (.mv (.t 18)),
zg 108 104 false (.max (.t 107) (kI 1)),
zg 109 104 false (.bin .gtr (.t 106) (.t 108)),
sq 110 (.pick (.t 104) (kB true) (.t 109))]))
 (.cond (.t 110)
 (.seq (.reg [sq 8 (.mv (kB false))])
 .ret)
 .skip))
 (.seq (.seq (.reg [sq 22 (.mv (kI 0))])
 (.sem (.block 2 (.loop (.seq (.seq (.reg [sq 111 (.mv (.t 22)),
sq 112 (.mv (.t 20)),
sq 113 (.len (.t 112)),
sq 114 (.bin .lss (.t 111) (.t 113))])
 (.cond (.t 114)
 .skip
 (.exit 2)))
 (.seq (.sem (.block 3 (.seq (.seq (.sem (.regd [sq 117 (.mv (.t 20)),
sq 118 (.mv (.t 22)),
sd 119 (.indexA 25 (.t 117) (.t 118)) [0,1],
sd 120 (.fieldA 1 (.t 119)) [0,1,2],
sd 121 (.load none (.t 120)) [0,1,2,3],
sq 122 (.fieldA 3 (.t 10)),
sd 123 (.load none (.t 122)) [5],
sd 124 (.bin .leq (.t 121) (.t 123)) [0,1,2,3,4,5,6],
sd 125 (.mv (.t 124)) [0,1,2,3,4,5,6,7],
⟨(some 126),(some (125,false)),.mv (.t 22),[0,1,2,3,4,5,6,7,8],(.new [])⟩,
⟨(some 127),(some (125,false)),.bin .gtr (.t 126) (kI 0),[0,1,2,3,4,5,6,7,8,9],(.new [])⟩,
⟨(some 128),(some (125,false)),.mv (.t 127),[0,1,2,3,4,5,6,7,8,9,10],(.new [])⟩,
⟨(some 129),(some (128,true)),.mv (.t 20),[0,1,2,3,4,5,6,7,8,9,10,11],(.new [])⟩,
⟨(some 130),(some (128,true)),.mv (.t 22),[0,1,2,3,4,5,6,7,8,9,10,11],(.new [])⟩,
⟨(some 131),(some (128,true)),.indexA 25 (.t 129) (.t 130),[0,1,2,3,4,5,6,7,8,9,10,11,12,13],(.new [])⟩,
⟨(some 132),(some (128,true)),.fieldA 1 (.t 131),[0,1,2,3,4,5,6,7,8,9,10,11,12,13,14],(.new [])⟩,
⟨(some 133),(some (128,true)),.load none (.t 132),[0,1,2,3,4,5,6,7,8,9,10,11,12,13,14,15],(.new [])⟩,
⟨(some 134),(some (128,true)),.mv (.t 20),[0,1,2,3,4,5,6,7,8,9,10,11],(.new [])⟩,
⟨(some 135),(some (128,true)),.mv (.t 22),[0,1,2,3,4,5,6,7,8,9,10,11],(.new [])⟩,
⟨(some 136),(some (128,true)),.bin .sub (.t 135) (kI 1),[0,1,2,3,4,5,6,7,8,9,10,11,18],(.new [])⟩,
⟨(some 137),(some (128,true)),.indexA 25 (.t 134) (.t 136),[0,1,2,3,4,5,6,7,8,9,10,11,17,18,19],(.new [])⟩,
⟨(some 138),(some (128,true)),.fieldA 1 (.t 137),[0,1,2,3,4,5,6,7,8,9,10,11,17,18,19,20],(.new [])⟩,
⟨(some 139),(some (128,true)),.load none (.t 138),[0,1,2,3,4,5,6,7,8,9,10,11,17,18,19,20,21],(.new [])⟩,
⟨(some 140),(some (128,true)),.bin .leq (.t 133) (.t 139),[0,1,2,3,4,5,6,7,8,9,10,11,12,13,14,15,16,17,18,19,20,21,22],(.new [])⟩,
⟨(some 141),(some (125,false)),.pick (.t 128) (.t 140) (kB false),[0,1,2,3,4,5,6,7,8,9,10,11,12,13,14,15,16,17,18,19,20,21,22,23],(.lone [])⟩,
zl 142 (.pick (.t 125) (kB true) (.t 141)) [0,1,2,3,4,5,6,7,8,9,10,11,12,13,14,15,16,17,18,19,20,21,22,23,24] []]))
 (.cond (.t 142)
 (.seq (.reg [sq 8 (.mv (kB false))])
 .ret)
 .skip))
 (.seq (.seq (.reg [sq 143 (.mv (.t 20)),
sq 144 (.mv (.t 22)),
sq 145 (.indexA 25 (.t 143) (.t 144)),
sq 146 (.fieldA 0 (.t 145)),
sq 147 (.load none (.t 146)),
sq 148 (.bin .eql (.t 147) (kI 4))])
 (.cond (.t 148)
 (.exit 3)
 .skip))
 (.seq (.seq (.sem (.regd [sq 149 (.mv (.t 16)),
sq 150 (.mv (.t 15)),
sd 151 (.bin .geq (.t 149) (.t 150)) [0,1],
sd 152 (.mv (.t 151)) [0,1,2],
⟨(some 153),(some (152,false)),.mv (.t 20),[0,1,2,3],(.new [])⟩,
⟨(some 154),(some (152,false)),.mv (.t 22),[0,1,2,3],(.new [])⟩,
⟨(some 155),(some (152,false)),.indexA 25 (.t 153) (.t 154),[0,1,2,3,4,5],(.new [])⟩,
⟨(some 156),(some (152,false)),.fieldA 0 (.t 155),[0,1,2,3,4,5,6],(.new [])⟩,
⟨(some 157),(some (152,false)),.load none (.t 156),[0,1,2,3,4,5,6,7],(.new [])⟩,
⟨(some 158),(some (152,false)),.mv (.t 13),[0,1,2,3],(.new [])⟩,
⟨(some 159),(some (152,false)),.mv (.t 16),[0,1,2,3],(.new [])⟩,
⟨(some 160),(some (152,false)),.indexA 25 (.t 158) (.t 159),[0,1,2,3,9,10],(.new [])⟩,
⟨(some 161),(some (152,false)),.fieldA 0 (.t 160),[0,1,2,3,9,10,11],(.new [])⟩,
⟨(some 162),(some (152,false)),.load none (.t 161),[0,1,2,3,9,10,11,12],(.new [])⟩,
⟨(some 163),(some (152,false)),.bin .neq (.t 157) (.t 162),[0,1,2,3,4,5,6,7,8,9,10,11,12,13],(.new [])⟩,
zl 164 (.pick (.t 152) (kB true) (.t 163)) [0,1,2,3,4,5,6,7,8,9,10,11,12,13,14] [],
sd 165 (.mv (.t 164)) [0,1,2,3,4,5,6,7,8,9,10,11,12,13,14,15],
⟨(some 166),(some (165,false)),.mv (.t 20),[0,1,2,3,4,5,6,7,8,9,10,11,12,13,14,15,16],(.new [])⟩,
⟨(some 167),(some (165,false)),.mv (.t 22),[0,1,2,3,4,5,6,7,8,9,10,11,12,13,14,15,16],(.new [])⟩,
⟨(some 168),(some (165,false)),.indexA 25 (.t 166) (.t 167),[0,1,2,3,4,5,6,7,8,9,10,11,12,13,14,15,16,17,18],(.new [])⟩,
⟨(some 169),(some (165,false)),.fieldA 1 (.t 168),[0,1,2,3,4,5,6,7,8,9,10,11,12,13,14,15,16,17,18,19],(.new [])⟩,
⟨(some 170),(some (165,false)),.load none (.t 169),[0,1,2,3,4,5,6,7,8,9,10,11,12,13,14,15,16,17,18,19,20],(.new [])⟩,
⟨(some 171),(some (165,false)),.mv (.t 13),[0,1,2,3,4,5,6,7,8,9,10,11,12,13,14,15,16],(.new [])⟩,
⟨(some 172),(some (165,false)),.mv (.t 16),[0,1,2,3,4,5,6,7,8,9,10,11,12,13,14,15,16],(.new [])⟩,
⟨(some 173),(some (165,false)),.indexA 25 (.t 171) (.t 172),[0,1,2,3,4,5,6,7,8,9,10,11,12,13,14,15,16,22,23],(.new [])⟩,
⟨(some 174),(some (165,false)),.fieldA 1 (.t 173),[0,1,2,3,4,5,6,7,8,9,10,11,12,13,14,15,16,22,23,24],(.new [])⟩,
⟨(some 175),(some (165,false)),.load none (.t 174),[0,1,2,3,4,5,6,7,8,9,10,11,12,13,14,15,16,22,23,24,25],(.new [])⟩,
⟨(some 176),(some (165,false)),.bin .neq (.t 170) (.t 175),[0,1,2,3,4,5,6,7,8,9,10,11,12,13,14,15,16,17,18,19,20,21,22,23,24,25,26],(.new [])⟩,
zl 177 (.pick (.t 165) (kB true) (.t 176)) [0,1,2,3,4,5,6,7,8,9,10,11,12,13,14,15,16,17,18,19,20,21,22,23,24,25,26,27] [],
sd 178 (.mv (.t 177)) [0,1,2,3,4,5,6,7,8,9,10,11,12,13,14,15,16,17,18,19,20,21,22,23,24,25,26,27,28],
⟨(some 179),(some (178,false)),.mv (.t 20),[0,1,2,3,4,5,6,7,8,9,10,11,12,13,14,15,16,17,18,19,20,21,22,23,24,25,26,27,28,29],(.new [])⟩,
⟨(some 180),(some (178,false)),.mv (.t 22),[0,1,2,3,4,5,6,7,8,9,10,11,12,13,14,15,16,17,18,19,20,21,22,23,24,25,26,27,28,29],(.new [])⟩,
⟨(some 181),(some (178,false)),.indexA 25 (.t 179) (.t 180),[0,1,2,3,4,5,6,7,8,9,10,11,12,13,14,15,16,17,18,19,20,21,22,23,24,25,26,27,28,29,30,31],(.new [])⟩,
⟨(some 182),(some (178,false)),.fieldA 2 (.t 181),[0,1,2,3,4,5,6,7,8,9,10,11,12,13,14,15,16,17,18,19,20,21,22,23,24,25,26,27,28,29,30,31,32],(.new [])⟩,
⟨(some 183),(some (178,false)),.load (some 23) (.t 182),[0,1,2,3,4,5,6,7,8,9,10,11,12,13,14,15,16,17,18,19,20,21,22,23,24,25,26,27,28,29,30,31,32,33],(.new [])⟩,
⟨(some 184),(some (178,false)),.mv (.t 13),[0,1,2,3,4,5,6,7,8,9,10,11,12,13,14,15,16,17,18,19,20,21,22,23,24,25,26,27,28,29],(.new [])⟩,
⟨(some 185),(some (178,false)),.mv (.t 16),[0,1,2,3,4,5,6,7,8,9,10,11,12,13,14,15,16,17,18,19,20,21,22,23,24,25,26,27,28,29],(.new [])⟩,
⟨(some 186),(some (178,false)),.indexA 25 (.t 184) (.t 185),[0,1,2,3,4,5,6,7,8,9,10,11,12,13,14,15,16,17,18,19,20,21,22,23,24,25,26,27,28,29,35,36],(.new [])⟩,
⟨(some 187),(some (178,false)),.fieldA 2 (.t 186),[0,1,2,3,4,5,6,7,8,9,10,11,12,13,14,15,16,17,18,19,20,21,22,23,24,25,26,27,28,29,35,36,37],(.new [])⟩,
⟨(some 188),(some (178,false)),.load (some 23) (.t 187),[0,1,2,3,4,5,6,7,8,9,10,11,12,13,14,15,16,17,18,19,20,21,22,23,24,25,26,27,28,29,35,36,37,38],(.new [])⟩,
⟨(some 189),(some (178,false)),.call 20 [(.t 183),(.t 188)],[0,1,2,3,4,5,6,7,8,9,10,11,12,13,14,15,16,17,18,19,20,21,22,23,24,25,26,27,28,29,30,31,32,33,34,35,36,37,38,39],(.lone [])⟩,
⟨(some 190),(some (178,false)),.not (.t 189),[0,1,2,3,4,5,6,7,8,9,10,11,12,13,14,15,16,17,18,19,20,21,22,23,24,25,26,27,28,29,30,31,32,33,34,35,36,37,38,39,40],(.new [])⟩,
zl 191 (.pick (.t 178) (kB true) (.t 190)) [0,1,2,3,4,5,6,7,8,9,10,11,12,13,14,15,16,17,18,19,20,21,22,23,24,25,26,27,28,29,30,31,32,33,34,35,36,37,38,39,40,41] []]))
 (.cond (.t 191)
 (.seq (.reg [sq 8 (.mv (kB false))])
 .ret)
 .skip))
 (.reg [sq 192 (.mv (.t 16)),
sq 193 (.bin .add (.t 192) (kI 1)),
sq 16 (.mv (.t 193))]))))))
 (.reg [sq 115 (.mv (.t 22)),
sq 116 (.bin .add (.t 115) (kI 1)),
sq 22 (.mv (.t 116))])))))))
 (.reg [sq 194 (.load (some 4) (.t 19)),
⟨none,none,.store 4 (.t 10) (.t 194),[],(.lone [19])⟩])))))))
 (.reg [sq 77 (.mv (.t 17)),
sq 78 (.bin .add (.t 77) (kI 1)),
sq 17 (.mv (.t 78))])))))))
 (.seq (.reg [sq 196 (.load (some 6) (.t 9)),
sq 197 (.load (some 4) (.t 10)),
sq 198 (.call 14 [(.t 196),(.t 197),(kI 5)]),
sq 195 (.mv (.t 198)),
sq 199 (.ext (.t 195) 0),
sq 200 (.ext (.t 195) 1),
sq 201 (.ext (.t 195) 2),
sq 23 (.zbox [dS ⟨#[]⟩,dS ⟨#[]⟩,dN,dI 0]),
su (.store 4 (.t 23) (.t 199)),
sq 24 (.mv (.t 200)),
sq 25 (.mv (.t 201))])
 (.seq (.sem (.reg [sq 202 (.call 10 []),
sq 203 (.mv (.t 202)),
zg 204 203 true (.mv (.t 16)),
zg 205 203 true (.mv (.t 15)),
zg 206 203 true (.bin .eql (.t 204) (.t 205)),
sq 207 (.pick (.t 203) (.t 206) (kB false)),
sq 208 (.mv (.t 207)),
zg 209 208 true (.fieldA 3 (.t 10)),
zg 210 208 true (.load none (.t 209)),
zg 211 208 true (.fieldA 0 (.t 9)),
zg 212 208 true (.load none (.t 211)),
zg 213 208 true (.bin .eql (.t 210) (.t 212)),
sq 214 (.pick (.t 208) (.t 213) (kB false)),
sq 215 (.mv (.t 214)),
zg 216 215 true (.mv (.t 25)),
zg 217 215 true (.bin .eql (.t 216) (kI 0)),
sq 218 (.pick (.t 215) (.t 217) (kB false)),
sq 219 (.mv (.t 218)),
zg 220 219 true (.mv (.t 24)),
zg 221 219 true (.len (.t 220)),
zg 222 219 true (.bin .eql (.t 221) (kI 0)),
sq 223 (.pick (.t 219) (.t 222) (kB false)),
sq 8 (.mv (.t 223))]))
 .ret)))))))))))))⟩
theorem a4_ok:afn Tryz.prog 4=some a4.er:=by kernel_rfl
theorem F4_ok{x0 x1 x2 x3 r}(h:F4 x0 x1 x2 x3=some r):CallD Tryz.prog 4 [.c (dM (x0.map eTOp)),.agg [dS x1.Kind,dS x1.Namespace,dM (x1.Selector.map eRequirement)],.c (dI x2),.c (dM (x3.map eI))] [] (tupV [.c (dB r)]) []:=by
 refine callS a4_ok (by simp[a4]) ?_
 rw[F4]at h
 simp only[a4,VW.down,Nat.reduceEqDiff,reduceCtorEq,Nat.reduceAdd,Nat.reduceLeDiff,Nat.reduceLT,Nat.reduceBEq,Nat.reduceSub,EE.down]
 obtain⟨o1,ho,h⟩:=bi h
 refine cutS (fun s=>s=⟨[(0,.one (.c (dM (x0.map eTOp)))),(2,.one (.c (dI x2))),(3,.one (.c (dM (x3.map eI)))),(5,.one (.c (.pt 0 0))),(33,.one (.c (dB o1)))],[some (.box [dS x1.Kind,dS x1.Namespace,dM (x1.Selector.map eRequirement)])]⟩) ?_ ?_
 ·have h:=ho
  clear ho
  refine ww ?_
  obtain⟨t2,ht2,h⟩:=bi h
  refine cN [] (F8_ok ht2) trivial (ww ?_)
  refine guardSBh h (fun g3 h=>?_) (fun g3 h=>?_)
  ·refine ww ?_
   cases h
   exact eM [some 0] rfl
  refine ww ?_
  obtain⟨t4,ht4,h⟩:=bi h
  refine cN [] (F9_ok ht4) trivial (ww ?_)
  cases h
  exact eM [some 0] rfl
 rintro _ rfl
 clear ho
 refine ww ?_
 refine condBh h (fun c5 h=>?_) (fun c5 h=>?_)
 ·refine ww ?_
  obtain⟨t6,ht6,h⟩:=bi h
  refine cN [] (F10_ok ht6) trivial (ww ?_)
  cases h
  exact eF []
 refine ww ?_
 obtain⟨t7,ht7,h⟩:=bi h
 refine cN [] (F11_ok ht7) trivial (ww ?_)
 obtain⟨t8,ht8,h⟩:=bi h
 refine cN [] (F12_ok ht8) trivial (ww ?_)
 obtain⟨o9,ho,h⟩:=bi h
 refine cutS (fun s=>s=⟨[(3,.one (.c (dM (x3.map eI)))),(9,.one (.c (.pt 0 0))),(10,.one (.c (.pt 1 0))),(45,.one (.c (dB (decide (¬(t8.2.2.2.2=0))))))],[some (.box [dI ((t7).Rev),dI ((t7).Floor),dI ((t7).NextUid),dM (((t7).Base).map eObject),dM (((t7).Objects).map eObject),dM (((t7).History).map eChange)]),some (.box [dS t8.1,dS t8.2.1,dM (t8.2.2.1.map eRequirement),dI t8.2.2.2.1])]⟩) ?_ ?_
 ·have h:=ho
  clear ho
  refine ww ?_
  cases h
  exact eM [some 1,some 3] rfl
 rintro _ rfl
 clear ho
 refine ww ?_
 refine condSh h (fun c10 h=>?_) (fun c10 h=>?_)
 ·refine ww ?_
  obtain⟨t11,ht11,h⟩:=bi h
  refine cN [] (F10_ok ht11) trivial (ww ?_)
  cases h
  exact eF []
 refine ww ?_
 obtain⟨t12,ht12,h⟩:=bi h
 refine cN [] (F14_ok ht12) trivial (ww ?_)
 refine condSh h (fun c13 h=>?_) (fun c13 h=>?_)
 ·refine ww ?_
  cases h
  exact eF []
 refine ww ?_
 obtain⟨o14,ho,h⟩:=bi h
 refine cutS (fun s=>s=⟨[(3,.one (.c (dM (x3.map eI)))),(9,.one (.c (.pt 0 0))),(10,.one (.c (.pt 1 0))),(13,.one (.c (.own 2 0 0 (t12.2.2.1.length) none))),(15,.one (.c (dI o14)))],[some (.box [dI ((t7).Rev),dI ((t7).Floor),dI ((t7).NextUid),dM (((t7).Base).map eObject),dM (((t7).Objects).map eObject),dM (((t7).History).map eChange)]),some (.box [dS t8.1,dS t8.2.1,dM (t8.2.2.1.map eRequirement),dI t8.2.2.2.1]),some (.arr 0 25 (t12.2.2.1.map eEvent))]⟩) ?_ ?_
 ·have h:=ho
  clear ho
  refine ww ?_
  obtain⟨o15,ho,h⟩:=bi h
  refine cutS (fun s=>s=⟨[(3,.one (.c (dM (x3.map eI)))),(9,.one (.c (.pt 0 0))),(10,.one (.c (.pt 1 0))),(13,.one (.c (.own 2 0 0 (t12.2.2.1.length) none))),(15,.one (.c (dI ((t12.2.2.1.length:Int))))),(68,.one (.c (dB o15)))],[some (.box [dI ((t7).Rev),dI ((t7).Floor),dI ((t7).NextUid),dM (((t7).Base).map eObject),dM (((t7).Objects).map eObject),dM (((t7).History).map eChange)]),some (.box [dS t8.1,dS t8.2.1,dM (t8.2.2.1.map eRequirement),dI t8.2.2.2.1]),some (.arr 0 25 (t12.2.2.1.map eEvent))]⟩) ?_ ?_
  ·have h:=ho
   clear ho
   refine ww ?_
   refine guardSh h (fun g16 h=>?_) (fun g16 h=>?_)
   ·refine ww ?_
    obtain⟨y17,hy17,h⟩:=bi h
    refine t_idxO (enc:=eEvent) (xs:=t12.2.2.1) rfl rfl rfl (by first|rfl|simp only[List.length_set]|exact(clrL_len (slI_len (by assumption))).symm) hy17 (ww ?_)
    refine LdRow.rd (rdI_some hy17).2.1 (ww ?_)
    cases h
    exact eM [some 0,some 1,some 3] rfl
   refine ww ?_
   cases h
   exact eM [some 0,some 1,some 3] rfl
  rintro _ rfl
  clear ho
  refine ww ?_
  refine condBh h (fun c18 h=>?_) (fun c18 h=>?_)
  ·refine ww ?_
   cases h
   exact eM [some 0,some 1,some 2] rfl
  refine ww ?_
  cases h
  exact eM [some 0,some 1,some 2] rfl
 rintro _ rfl
 clear ho
 refine ww ?_
 obtain⟨o19,ho,h⟩:=bi h
 refine cutS (fun s=>∃po19,o19=Sum.inr po19∧s=⟨[(9,.one (.c (.pt 0 0))),(10,.one (.c (.pt 1 0))),(15,.one (.c (dI o14))),(16,.one (.c (dI po19.2)))],[some (.box [dI ((t7).Rev),dI ((t7).Floor),dI ((t7).NextUid),dM (((t7).Base).map eObject),dM (((t7).Objects).map eObject),dM (((t7).History).map eChange)]),some (.box [dS ((po19.1).Filter.Kind),dS ((po19.1).Filter.Namespace),dM (((po19.1).Filter.Selector).map eRequirement),dI ((po19.1).Rev)])]⟩) ?_ ?_
 ·have h0o19:=h
  have h:=ho
  clear ho
  refine ww ?_
  refine bL (fun j s=>∃(o19_0:List Requirement) (o19_1:Int) (o19_2:Int) (o19_3:Int),s=⟨[(3,.one (.c (dM (x3.map eI)))),(9,.one (.c (.pt 0 0))),(10,.one (.c (.pt 1 0))),(13,.one (.c (.own 2 0 0 (t12.2.2.1.length) none))),(15,.one (.c (dI o14))),(16,.one (.c (dI o19_2))),(17,.one (.c (dI o19_3)))],[some (.box [dI ((t7).Rev),dI ((t7).Floor),dI ((t7).NextUid),dM (((t7).Base).map eObject),dM (((t7).Objects).map eObject),dM (((t7).History).map eChange)]),some (.box [dS t8.1,dS t8.2.1,dM (o19_0.map eRequirement),dI o19_1]),some (.arr 0 25 (t12.2.2.1.map eEvent))]⟩∧F4_l19 o14 t12 t7 t8 x3 j o19_0 o19_1 o19_2 o19_3=some o19) 1099511627776 [some 0,some 1,some 2] ⟨t8.2.2.1,t8.2.2.2.1,0,0,rfl,h⟩ ?_
  rintro j _ ⟨o19_0,o19_1,o19_2,o19_3,rfl,h⟩
  cases j with
  |zero=>cases(show(none:Option _)=some _ from h)
  |succ j=>
   rw[F4_l19]at h
   refine ww ?_
   refine condSh h (fun c20 h=>?_) (fun c20 h=>?_)
   ·refine ww ?_
    obtain⟨o21,ho,h⟩:=bi h
    refine cutS (fun s=>s=⟨[(3,.one (.c (dM (x3.map eI)))),(9,.one (.c (.pt 0 0))),(10,.one (.c (.pt 1 0))),(13,.one (.c (.own 2 0 0 (t12.2.2.1.length) none))),(15,.one (.c (dI o14))),(16,.one (.c (dI o19_2))),(17,.one (.c (dI o19_3))),(18,.one (.c (dI o21)))],[some (.box [dI ((t7).Rev),dI ((t7).Floor),dI ((t7).NextUid),dM (((t7).Base).map eObject),dM (((t7).Objects).map eObject),dM (((t7).History).map eChange)]),some (.box [dS t8.1,dS t8.2.1,dM (o19_0.map eRequirement),dI o19_1]),some (.arr 0 25 (t12.2.2.1.map eEvent))]⟩) ?_ ?_
    ·have h:=ho
     clear ho
     refine ww ?_
     refine condSh h (fun c22 h=>?_) (fun c22 h=>?_)
     ·refine ww ?_
      obtain⟨y23,hy23,h⟩:=bi h
      refine t_idxF (enc:=eI) (xs:=x3) rfl rfl hy23 rfl (ww ?_)
      cases h
      exact eM [some 0,some 1,some 2] rfl
     ·refine ww ?_
      cases h
      exact eM [some 0,some 1,some 2] rfl
    ·rintro _ rfl
     clear ho
     refine ww ?_
     obtain⟨t24,ht24,h⟩:=bi h
     refine cN [] (F14_ok ht24) trivial (ww ?_)
     obtain⟨o25,ho,h⟩:=bi h
     refine cutS (fun s=>s=⟨[(3,.one (.c (dM (x3.map eI)))),(9,.one (.c (.pt 0 0))),(10,.one (.c (.pt 1 0))),(13,.one (.c (.own 2 0 0 (t12.2.2.1.length) none))),(15,.one (.c (dI o14))),(16,.one (.c (dI o19_2))),(17,.one (.c (dI o19_3))),(19,.one (.c (.pt 3 0))),(20,.one (.c (.own 5 0 0 (t24.2.2.1.length) none))),(110,.one (.c (dB o25)))],[some (.box [dI ((t7).Rev),dI ((t7).Floor),dI ((t7).NextUid),dM (((t7).Base).map eObject),dM (((t7).Objects).map eObject),dM (((t7).History).map eChange)]),some (.box [dS t8.1,dS t8.2.1,dM (o19_0.map eRequirement),dI o19_1]),some (.arr 0 25 (t12.2.2.1.map eEvent)),some (.box [dS t8.1,dS t8.2.1,.own 4 0 0 (t24.1.length) none,dI t24.2.1]),some (.arr 0 3 (t24.1.map eRequirement)),some (.arr 0 25 (t24.2.2.1.map eEvent))]⟩) ?_ ?_
     ·have h:=ho
      clear ho
      refine ww ?_
      refine guardSh h (fun g26 h=>?_) (fun g26 h=>?_)
      ·refine ww ?_
       cases h
       exact eM [some 0,some 1,some 2,some 5,some 3,some 4] rfl
      ·refine ww ?_
       refine guardSh h (fun g27 h=>?_) (fun g27 h=>?_)
       ·refine ww ?_
        cases h
        exact eM [some 0,some 1,some 2,some 5,some 3,some 4] rfl
       ·refine ww ?_
        cases h
        exact eM [some 0,some 1,some 2,some 5,some 3,some 4] rfl
     ·rintro _ rfl
      clear ho
      refine ww ?_
      refine condBh h (fun c28 h=>?_) (fun c28 h=>?_)
      ·refine ww ?_
       obtain⟨fh0o19,hfh0o19,rfl⟩:=Option.map_eq_some_iff.1 h
       have h:=hfh0o19.trans h0o19
       cases h
       exact eF []
      ·refine ww ?_
       obtain⟨o29,ho,h⟩:=bi h
       refine cutS (fun s=>∃po29,o29=Sum.inr po29∧s=⟨[(3,.one (.c (dM (x3.map eI)))),(9,.one (.c (.pt 0 0))),(10,.one (.c (.pt 1 0))),(13,.one (.c (.own 2 0 0 (t12.2.2.1.length) none))),(15,.one (.c (dI o14))),(16,.one (.c (dI po29))),(17,.one (.c (dI o19_3))),(19,.one (.c (.pt 3 0)))],[some (.box [dI ((t7).Rev),dI ((t7).Floor),dI ((t7).NextUid),dM (((t7).Base).map eObject),dM (((t7).Objects).map eObject),dM (((t7).History).map eChange)]),some (.box [dS t8.1,dS t8.2.1,dM (o19_0.map eRequirement),dI o19_1]),some (.arr 0 25 (t12.2.2.1.map eEvent)),some (.box [dS t8.1,dS t8.2.1,.own 4 0 0 (t24.1.length) none,dI t24.2.1]),some (.arr 0 3 (t24.1.map eRequirement))]⟩) ?_ ?_
       ·have h0o29:=h
        have h:=ho
        clear ho
        obtain⟨_,hk,h⟩:=bi h
        have hk:=ck_some hk
        refine ww ?_
        refine bL (fun j s=>∃(o29_1:Nat) (o29_0:Int),(o29_1≤t24.2.2.1.length∧j=t24.2.2.1.length-o29_1)∧s=⟨[(3,.one (.c (dM (x3.map eI)))),(9,.one (.c (.pt 0 0))),(10,.one (.c (.pt 1 0))),(13,.one (.c (.own 2 0 0 (t12.2.2.1.length) none))),(15,.one (.c (dI o14))),(16,.one (.c (dI o29_0))),(17,.one (.c (dI o19_3))),(19,.one (.c (.pt 3 0))),(20,.one (.c (.own 5 0 0 (t24.2.2.1.length) none))),(22,.one (.c (dI ((o29_1:Int)))))],[some (.box [dI ((t7).Rev),dI ((t7).Floor),dI ((t7).NextUid),dM (((t7).Base).map eObject),dM (((t7).Objects).map eObject),dM (((t7).History).map eChange)]),some (.box [dS t8.1,dS t8.2.1,dM (o19_0.map eRequirement),dI o19_1]),some (.arr 0 25 (t12.2.2.1.map eEvent)),some (.box [dS t8.1,dS t8.2.1,.own 4 0 0 (t24.1.length) none,dI t24.2.1]),some (.arr 0 3 (t24.1.map eRequirement)),some (.arr 0 25 (t24.2.2.1.map eEvent))]⟩∧F4_l29 o14 o19_1 t12 t24 (t24.2.2.1.drop o29_1) o29_1 o29_0=some o29) (t24.2.2.1.length-0) [some 0,some 1,some 2,some 3,some 4,some 5] ⟨0,o19_2,⟨hk.1,rfl⟩,rfl,h⟩ ?_
        rintro _ _ ⟨o29_1,o29_0,⟨hi,rfl⟩,rfl,h⟩
        refine ww ?_
        refine condS (fun c30=>?_) (fun c30=>?_)
        ·obtain⟨xo29,hxo29,hd⟩:=countY (show(o29_1:Int)<(t24.2.2.1.length:Int)from c30)
         rw[hd,F4_l29]at h
         refine ww ?_
         obtain⟨o31,ho,h⟩:=bi h
         refine cutS (fun s=>∃po31,o31=Sum.inr po31∧s=⟨[(3,.one (.c (dM (x3.map eI)))),(9,.one (.c (.pt 0 0))),(10,.one (.c (.pt 1 0))),(13,.one (.c (.own 2 0 0 (t12.2.2.1.length) none))),(15,.one (.c (dI o14))),(16,.one (.c (dI po31))),(17,.one (.c (dI o19_3))),(19,.one (.c (.pt 3 0))),(20,.one (.c (.own 5 0 0 (t24.2.2.1.length) none))),(22,.one (.c (dI ((o29_1:Int)))))],[some (.box [dI ((t7).Rev),dI ((t7).Floor),dI ((t7).NextUid),dM (((t7).Base).map eObject),dM (((t7).Objects).map eObject),dM (((t7).History).map eChange)]),some (.box [dS t8.1,dS t8.2.1,dM (o19_0.map eRequirement),dI o19_1]),some (.arr 0 25 (t12.2.2.1.map eEvent)),some (.box [dS t8.1,dS t8.2.1,.own 4 0 0 (t24.1.length) none,dI t24.2.1]),some (.arr 0 3 (t24.1.map eRequirement)),some (.arr 0 25 (t24.2.2.1.map eEvent))]⟩) ?_ ?_
         ·have h0o31:=h
          have h:=ho
          clear ho
          refine ww ?_
          obtain⟨o32,ho,h⟩:=bi h
          refine cutS (fun s=>s=⟨[(3,.one (.c (dM (x3.map eI)))),(9,.one (.c (.pt 0 0))),(10,.one (.c (.pt 1 0))),(13,.one (.c (.own 2 0 0 (t12.2.2.1.length) none))),(15,.one (.c (dI o14))),(16,.one (.c (dI o29_0))),(17,.one (.c (dI o19_3))),(19,.one (.c (.pt 3 0))),(20,.one (.c (.own 5 0 0 (t24.2.2.1.length) none))),(22,.one (.c (dI ((o29_1:Int))))),(142,.one (.c (dB o32)))],[some (.box [dI ((t7).Rev),dI ((t7).Floor),dI ((t7).NextUid),dM (((t7).Base).map eObject),dM (((t7).Objects).map eObject),dM (((t7).History).map eChange)]),some (.box [dS t8.1,dS t8.2.1,dM (o19_0.map eRequirement),dI o19_1]),some (.arr 0 25 (t12.2.2.1.map eEvent)),some (.box [dS t8.1,dS t8.2.1,.own 4 0 0 (t24.1.length) none,dI t24.2.1]),some (.arr 0 3 (t24.1.map eRequirement)),some (.arr 0 25 (t24.2.2.1.map eEvent))]⟩) ?_ ?_
          ·have h:=ho
           clear ho
           refine ww ?_
           obtain⟨y33,hy33,h⟩:=bi h
           refine t_idxO (enc:=eEvent) (xs:=t24.2.2.1) rfl rfl rfl (by first|rfl|simp only[List.length_set]|exact(clrL_len (slI_len (by assumption))).symm) hy33 (ww ?_)
           refine LdRow.rd (rdI_some hy33).2.1 (ww ?_)
           refine guardDh h (fun g34 h=>?_) (fun g34 h=>?_)
           ·refine ww ?_
            cases h
            exact eM [some 0,some 1,some 2,some 3,some 4,some 5] rfl
           ·refine ww ?_
            refine guardDh h (fun g35 h=>?_) (fun g35 h=>?_)
            ·refine ww ?_
             obtain⟨y36,hy36,h⟩:=bi h
             refine t_idxO (enc:=eEvent) (xs:=t24.2.2.1) rfl rfl rfl (by first|rfl|simp only[List.length_set]|exact(clrL_len (slI_len (by assumption))).symm) hy36 (ww ?_)
             refine LdRow.rd (rdI_some hy36).2.1 (ww ?_)
             obtain⟨y37,hy37,h⟩:=bi h
             refine t_idxO (enc:=eEvent) (xs:=t24.2.2.1) rfl rfl rfl (by first|rfl|simp only[List.length_set]|exact(clrL_len (slI_len (by assumption))).symm) hy37 (ww ?_)
             refine LdRow.rd (rdI_some hy37).2.1 (ww ?_)
             cases h
             exact eM [some 0,some 1,some 2,some 3,some 4,some 5] rfl
            ·refine ww ?_
             cases h
             exact eM [some 0,some 1,some 2,some 3,some 4,some 5] rfl
          ·rintro _ rfl
           clear ho
           refine ww ?_
           refine condBh h (fun c38 h=>?_) (fun c38 h=>?_)
           ·refine ww ?_
            obtain⟨fh0o31,hfh0o31,rfl⟩:=Option.map_eq_some_iff.1 h
            have h:=hfh0o31.trans h0o31
            obtain⟨fh0o29,hfh0o29,rfl⟩:=Option.map_eq_some_iff.1 h
            have h:=hfh0o29.trans h0o29
            obtain⟨fh0o19,hfh0o19,rfl⟩:=Option.map_eq_some_iff.1 h
            have h:=hfh0o19.trans h0o19
            cases h
            exact eF []
           ·refine ww ?_
            obtain⟨y39,hy39,h⟩:=bi h
            refine t_idxO (enc:=eEvent) (xs:=t24.2.2.1) rfl rfl rfl (by first|rfl|simp only[List.length_set]|exact(clrL_len (slI_len (by assumption))).symm) hy39 (ww ?_)
            refine LdRow.rd (rdI_some hy39).2.1 (ww ?_)
            refine condSh h (fun c40 h=>?_) (fun c40 h=>?_)
            ·refine ww ?_
             cases h
             exact eM [some 0,some 1,some 2,some 3,some 4,some 5] ⟨_,rfl,rfl⟩
            ·refine ww ?_
             obtain⟨o41,ho,h⟩:=bi h
             refine cutS (fun s=>s=⟨[(3,.one (.c (dM (x3.map eI)))),(9,.one (.c (.pt 0 0))),(10,.one (.c (.pt 1 0))),(13,.one (.c (.own 2 0 0 (t12.2.2.1.length) none))),(15,.one (.c (dI o14))),(16,.one (.c (dI o29_0))),(17,.one (.c (dI o19_3))),(19,.one (.c (.pt 3 0))),(20,.one (.c (.own 5 0 0 (t24.2.2.1.length) none))),(22,.one (.c (dI ((o29_1:Int))))),(191,.one (.c (dB o41)))],[some (.box [dI ((t7).Rev),dI ((t7).Floor),dI ((t7).NextUid),dM (((t7).Base).map eObject),dM (((t7).Objects).map eObject),dM (((t7).History).map eChange)]),some (.box [dS t8.1,dS t8.2.1,dM (o19_0.map eRequirement),dI o19_1]),some (.arr 0 25 (t12.2.2.1.map eEvent)),some (.box [dS t8.1,dS t8.2.1,.own 4 0 0 (t24.1.length) none,dI t24.2.1]),some (.arr 0 3 (t24.1.map eRequirement)),some (.arr 0 25 (t24.2.2.1.map eEvent))]⟩) ?_ ?_
             ·have h:=ho
              clear ho
              refine ww ?_
              refine guardDh h (fun g42 h=>?_) (fun g42 h=>?_)
              ·refine ww ?_
               cases h
               exact eM [some 0,some 1,some 2,some 3,some 4,some 5] rfl
              ·refine ww ?_
               obtain⟨y43,hy43,h⟩:=bi h
               refine t_idxO (enc:=eEvent) (xs:=t24.2.2.1) rfl rfl rfl (by first|rfl|simp only[List.length_set]|exact(clrL_len (slI_len (by assumption))).symm) hy43 (ww ?_)
               refine LdRow.rd (rdI_some hy43).2.1 (ww ?_)
               obtain⟨y44,hy44,h⟩:=bi h
               refine t_idxO (enc:=eEvent) (xs:=t12.2.2.1) rfl rfl rfl (by first|rfl|simp only[List.length_set]|exact(clrL_len (slI_len (by assumption))).symm) hy44 (ww ?_)
               refine LdRow.rd (rdI_some hy44).2.1 (ww ?_)
               refine guardDh h (fun g45 h=>?_) (fun g45 h=>?_)
               ·refine ww ?_
                cases h
                exact eM [some 0,some 1,some 2,some 3,some 4,some 5] rfl
               ·refine ww ?_
                obtain⟨y46,hy46,h⟩:=bi h
                refine t_idxO (enc:=eEvent) (xs:=t24.2.2.1) rfl rfl rfl (by first|rfl|simp only[List.length_set]|exact(clrL_len (slI_len (by assumption))).symm) hy46 (ww ?_)
                refine LdRow.rd (rdI_some hy46).2.1 (ww ?_)
                obtain⟨y47,hy47,h⟩:=bi h
                refine t_idxO (enc:=eEvent) (xs:=t12.2.2.1) rfl rfl rfl (by first|rfl|simp only[List.length_set]|exact(clrL_len (slI_len (by assumption))).symm) hy47 (ww ?_)
                refine LdRow.rd (rdI_some hy47).2.1 (ww ?_)
                refine guardDh h (fun g48 h=>?_) (fun g48 h=>?_)
                ·refine ww ?_
                 cases h
                 exact eM [some 0,some 1,some 2,some 3,some 4,some 5] rfl
                ·refine ww ?_
                 obtain⟨y49,hy49,h⟩:=bi h
                 refine t_idxO (enc:=eEvent) (xs:=t24.2.2.1) rfl rfl rfl (by first|rfl|simp only[List.length_set]|exact(clrL_len (slI_len (by assumption))).symm) hy49 (ww ?_)
                 refine LdRow.rd (rdI_some hy49).2.1 (ww ?_)
                 obtain⟨y50,hy50,h⟩:=bi h
                 refine t_idxO (enc:=eEvent) (xs:=t12.2.2.1) rfl rfl rfl (by first|rfl|simp only[List.length_set]|exact(clrL_len (slI_len (by assumption))).symm) hy50 (ww ?_)
                 refine LdRow.rd (rdI_some hy50).2.1 (ww ?_)
                 obtain⟨t51,ht51,h⟩:=bi h
                 refine cN [] (F20_ok ht51) trivial (ww ?_)
                 cases h
                 exact eM [some 0,some 1,some 2,some 3,some 4,some 5] rfl
             ·rintro _ rfl
              clear ho
              refine ww ?_
              refine condBh h (fun c52 h=>?_) (fun c52 h=>?_)
              ·refine ww ?_
               obtain⟨fh0o31,hfh0o31,rfl⟩:=Option.map_eq_some_iff.1 h
               have h:=hfh0o31.trans h0o31
               obtain⟨fh0o29,hfh0o29,rfl⟩:=Option.map_eq_some_iff.1 h
               have h:=hfh0o29.trans h0o29
               obtain⟨fh0o19,hfh0o19,rfl⟩:=Option.map_eq_some_iff.1 h
               have h:=hfh0o19.trans h0o19
               cases h
               exact eF []
              ·refine ww ?_
               cases h
               exact eM [some 0,some 1,some 2,some 3,some 4,some 5] ⟨_,rfl,rfl⟩
         ·rintro _ ⟨po31,rfl,rfl⟩
          clear ho
          dsimp only at h
          refine ww ?_
          rw[wrapN (by omega)]
          exact eL' (t24.2.2.1.length-(o29_1+1)) [some 0,some 1,some 2,some 3,some 4,some 5] ⟨o29_1+1,po31,⟨by omega,rfl⟩,rfl,h⟩ (by omega)
        ·rw[countN (show¬((o29_1:Int)<(t24.2.2.1.length:Int))from c30),F4_l29]at h
         refine ww ?_
         cases h
         exact eM [some 0,some 1,some 2,some 3,some 4] ⟨_,rfl,rfl⟩
       ·rintro _ ⟨po29,rfl,rfl⟩
        clear ho
        dsimp only at h
        refine ww ?_
        exact eL' j [some 0,some 1,some 2] ⟨t24.1,t24.2.1,po29,(IntKind.i64.wrap (o19_3+1)),rfl,h⟩ (Nat.lt_succ_self _)
   ·refine ww ?_
    cases h
    exact eM [some 0,some 1] ⟨_,rfl,rfl⟩
 rintro _ ⟨po19,rfl,rfl⟩
 clear ho
 dsimp only at h
 refine ww ?_
 obtain⟨t54,ht54,h⟩:=bi h
 refine cN [] (F14_ok ht54) trivial (ww ?_)
 obtain⟨o55,ho,h⟩:=bi h
 refine cutS (fun s=>s=⟨[(8,.one (.c (dB o55)))],[]⟩) ?_ ?_
 ·have h:=ho
  clear ho
  refine ww ?_
  obtain⟨t56,ht56,h⟩:=bi h
  refine cN [] (F10_ok ht56) trivial (ww ?_)
  refine guardSBh h (fun g57 h=>?_) (fun g57 h=>?_)
  ·refine ww ?_
   refine guardSh h (fun g58 h=>?_) (fun g58 h=>?_)
   ·refine ww ?_
    refine guardSh h (fun g59 h=>?_) (fun g59 h=>?_)
    ·refine ww ?_
     refine guardSh h (fun g60 h=>?_) (fun g60 h=>?_)
     ·refine ww ?_
      cases h
      exact eM [] rfl
     refine ww ?_
     cases h
     exact eM [] rfl
    refine ww ?_
    cases h
    exact eM [] rfl
   refine ww ?_
   cases h
   exact eM [] rfl
  refine ww ?_
  cases h
  exact eM [] rfl
 rintro _ rfl
 clear ho
 refine ww ?_
 cases h
 exact eF []
end Go.Proofs.YtondgcmdhkhkkaaGreat
