/- Each Go function as a function over typed data, and its walk. -/
import Derived.Test.YtbopaemngpbdgaaGreatW0
import Derived.Test.YtbopaemngpbdgaaGreatW2
import Derived.Test.YtbopaemngpbdgaaGreatW7
import Derived.Test.YtbopaemngpbdgaaGreatW9
import Derived.Test.YtbopaemngpbdgaaGreatW10
import Derived.Test.YtbopaemngpbdgaaGreatW13
import Derived.Test.YtbopaemngpbdgaaGreatW14
import Derived.Test.YtbopaemngpbdgaaGreatW15
namespace Go.Proofs.YtbopaemngpbdgaaGreat
open Go Go.Fw Go.Shelf
set_option maxRecDepth 100000
set_option maxHeartbeats 4000000
set_option linter.unusedSimpArgs false
set_option linter.unusedVariables false
def F5_l8:List TOp→Nat→TStore→TStore→Option ((Bool) ⊕ (TStore×TStore))
 |[],o8_2,o8_0,o8_1=>some (Sum.inr (((⟨(o8_0).Rev,(o8_0).Floor,(o8_0).NextUid,(o8_0).Base,(o8_0).Objects,(o8_0).History⟩:TStore),(⟨(o8_1).Rev,(o8_1).Floor,(o8_1).NextUid,(o8_1).Base,(o8_1).Objects,(o8_1).History⟩:TStore))))
 |xo8::xs,o8_2,o8_0,o8_1=>(F22 ((⟨(o8_0).Rev,(o8_0).Floor,(o8_0).NextUid,(o8_0).Base,(o8_0).Objects,(o8_0).History⟩:TStore)) xo8).bind fun t10=>(F23 ((⟨(o8_1).Rev,(o8_1).Floor,(o8_1).NextUid,(o8_1).Base,(o8_1).Objects,(o8_1).History⟩:TStore)) xo8).bind fun t11=>(((if¬(t10.2.2.2.2.2.2.2=t11.2.2)then some true else(F24 ((⟨(⟨(t10.2.2.2.2.2.2.1).Meta.Kind,(t10.2.2.2.2.2.2.1).Meta.Namespace,(t10.2.2.2.2.2.2.1).Meta.Name,(t10.2.2.2.2.2.2.1).Meta.Uid,(t10.2.2.2.2.2.2.1).Meta.Version,(t10.2.2.2.2.2.2.1).Meta.Generation,(t10.2.2.2.2.2.2.1).Meta.Created,(t10.2.2.2.2.2.2.1).Meta.Deleting,(t10.2.2.2.2.2.2.1).Meta.DeleteAt,(t10.2.2.2.2.2.2.1).Meta.Labels,(t10.2.2.2.2.2.2.1).Meta.Owners,(t10.2.2.2.2.2.2.1).Meta.Finalizers,(t10.2.2.2.2.2.2.1).Meta.Managers⟩:Meta),(⟨(t10.2.2.2.2.2.2.1).Spec.Kind,(t10.2.2.2.2.2.2.1).Spec.N,(t10.2.2.2.2.2.2.1).Spec.S,(t10.2.2.2.2.2.2.1).Spec.List_,(t10.2.2.2.2.2.2.1).Spec.Fields⟩:TValue),(⟨(t10.2.2.2.2.2.2.1).Status.Kind,(t10.2.2.2.2.2.2.1).Status.N,(t10.2.2.2.2.2.2.1).Status.S,(t10.2.2.2.2.2.2.1).Status.List_,(t10.2.2.2.2.2.2.1).Status.Fields⟩:TValue)⟩:Object)) ((⟨(⟨(t11.2.1).Meta.Kind,(t11.2.1).Meta.Namespace,(t11.2.1).Meta.Name,(t11.2.1).Meta.Uid,(t11.2.1).Meta.Version,(t11.2.1).Meta.Generation,(t11.2.1).Meta.Created,(t11.2.1).Meta.Deleting,(t11.2.1).Meta.DeleteAt,(t11.2.1).Meta.Labels,(t11.2.1).Meta.Owners,(t11.2.1).Meta.Finalizers,(t11.2.1).Meta.Managers⟩:Meta),(⟨(t11.2.1).Spec.Kind,(t11.2.1).Spec.N,(t11.2.1).Spec.S,(t11.2.1).Spec.List_,(t11.2.1).Spec.Fields⟩:TValue),(⟨(t11.2.1).Status.Kind,(t11.2.1).Status.N,(t11.2.1).Status.S,(t11.2.1).Status.List_,(t11.2.1).Status.Fields⟩:TValue)⟩:Object))).bind fun t14=>(if(nb t14)=true then some true else(F15 ((⟨t10.1,t10.2.1,t10.2.2.1,t10.2.2.2.1,t10.2.2.2.2.1,t10.2.2.2.2.2.1⟩:TStore)) ((⟨(t11.1).Rev,(t11.1).Floor,(t11.1).NextUid,(t11.1).Base,(t11.1).Objects,(t11.1).History⟩:TStore))).bind fun t16=>some (nb t16)))).bind fun o12=>(if o12=true then(some false).map Sum.inl else((some (())).bind fun o18=>(F25 ((⟨t10.1,t10.2.1,t10.2.2.1,t10.2.2.2.1,t10.2.2.2.2.1,t10.2.2.2.2.2.1⟩:TStore)) xo8.Rev).bind fun t19=>(F26 ((⟨(t11.1).Rev,(t11.1).Floor,(t11.1).NextUid,(t11.1).Base,(t11.1).Objects,(t11.1).History⟩:TStore)) xo8.Rev).bind fun t20=>(((if¬(t19.2=t20.2)then some true else(F27 t19.1 t20.1).bind fun t23=>some (nb t23))).bind fun o21=>(if o21=true then(some false).map Sum.inl else F5_l8 xs (o8_2+1) ((⟨t10.1,t10.2.1,t10.2.2.1,t10.2.2.2.1,t10.2.2.2.2.1,t10.2.2.2.2.2.1⟩:TStore)) ((⟨(t11.1).Rev,(t11.1).Floor,(t11.1).NextUid,(t11.1).Base,(t11.1).Objects,(t11.1).History⟩:TStore)))))))
def F5(x0:(List TOp))(x1:Filter)(x2:ByteArray):Option (Bool):=(((F6 x0).bind fun t2=>(if(nb t2)=true then some true else some (decide (40<(x1.Selector.length:Int))))).bind fun o1=>(if o1=true then(F8).bind fun t5=>some t5 else(F20).bind fun t6=>(F21).bind fun t7=>(((ck (0≤x0.length∧x0.length≤4294967290)).bind fun u25=>F5_l8 x0 0 ((⟨0,0,1,[],[],[]⟩:TStore)) ((⟨0,0,1,[],[],[]⟩:TStore)):Option ((Bool) ⊕ (TStore×TStore))).bind fun o8=>match o8 with|Sum.inl f=>some f|Sum.inr po8=>(F10 ((⟨(po8.1).Rev,(po8.1).Floor,(po8.1).NextUid,(po8.1).Base,(po8.1).Objects,(po8.1).History⟩:TStore)) x2).bind fun t26=>(F28 ((⟨(po8.2).Rev,(po8.2).Floor,(po8.2).NextUid,(po8.2).Base,(po8.2).Objects,(po8.2).History⟩:TStore)) x2).bind fun t27=>(((F8).bind fun t29=>(if t29=true then(if(((t26.2.2.2.2.2.2.2.2.2.2.2.2.2.2.2.2.2.2.2.2.2.2.2==t27.2)!=false))=true then(F24 ((⟨(⟨t26.1,t26.2.1,t26.2.2.1,t26.2.2.2.1,t26.2.2.2.2.1,t26.2.2.2.2.2.1,t26.2.2.2.2.2.2.1,t26.2.2.2.2.2.2.2.1,t26.2.2.2.2.2.2.2.2.1,t26.2.2.2.2.2.2.2.2.2.1,t26.2.2.2.2.2.2.2.2.2.2.1,t26.2.2.2.2.2.2.2.2.2.2.2.1,t26.2.2.2.2.2.2.2.2.2.2.2.2.1⟩:Meta),(⟨t26.2.2.2.2.2.2.2.2.2.2.2.2.2.1,t26.2.2.2.2.2.2.2.2.2.2.2.2.2.2.1,t26.2.2.2.2.2.2.2.2.2.2.2.2.2.2.2.1,t26.2.2.2.2.2.2.2.2.2.2.2.2.2.2.2.2.1,t26.2.2.2.2.2.2.2.2.2.2.2.2.2.2.2.2.2.1⟩:TValue),(⟨t26.2.2.2.2.2.2.2.2.2.2.2.2.2.2.2.2.2.2.1,t26.2.2.2.2.2.2.2.2.2.2.2.2.2.2.2.2.2.2.2.1,t26.2.2.2.2.2.2.2.2.2.2.2.2.2.2.2.2.2.2.2.2.1,t26.2.2.2.2.2.2.2.2.2.2.2.2.2.2.2.2.2.2.2.2.2.1,t26.2.2.2.2.2.2.2.2.2.2.2.2.2.2.2.2.2.2.2.2.2.2.1⟩:TValue)⟩:Object)) ((⟨(⟨(t27.1).Meta.Kind,(t27.1).Meta.Namespace,(t27.1).Meta.Name,(t27.1).Meta.Uid,(t27.1).Meta.Version,(t27.1).Meta.Generation,(t27.1).Meta.Created,(t27.1).Meta.Deleting,(t27.1).Meta.DeleteAt,(t27.1).Meta.Labels,(t27.1).Meta.Owners,(t27.1).Meta.Finalizers,(t27.1).Meta.Managers⟩:Meta),(⟨(t27.1).Spec.Kind,(t27.1).Spec.N,(t27.1).Spec.S,(t27.1).Spec.List_,(t27.1).Spec.Fields⟩:TValue),(⟨(t27.1).Status.Kind,(t27.1).Status.N,(t27.1).Status.S,(t27.1).Status.List_,(t27.1).Status.Fields⟩:TValue)⟩:Object))).bind fun t32=>(if t32=true then(F29 ((⟨(po8.1).Rev,(po8.1).Floor,(po8.1).NextUid,(po8.1).Base,(po8.1).Objects,(po8.1).History⟩:TStore)) x1).bind fun t34=>(F30 ((⟨(po8.2).Rev,(po8.2).Floor,(po8.2).NextUid,(po8.2).Base,(po8.2).Objects,(po8.2).History⟩:TStore)) x1).bind fun t35=>(F27 t34 t35).bind fun t36=>some t36 else some false)else some false)else some false)).bind fun o28=>some o28))))
def a5:AFn:=⟨140,[(.tmp 6)],
 (.seq (.reg [sq 4 (.box (.t 1)),
sq 6 (.mv (kB false))])
 (.seq (.seq (.sem (.reg [sq 24 (.mv (.t 0)),
sq 25 (.call 6 [(.t 24)]),
sq 26 (.not (.t 25)),
sq 27 (.mv (.t 26)),
zg 28 27 false (.fieldA 2 (.t 4)),
zg 29 27 false (.load none (.t 28)),
zg 30 27 false (.len (.t 29)),
zg 31 27 false (.bin .gtr (.t 30) (kI 40)),
sq 32 (.pick (.t 27) (kB true) (.t 31))]))
 (.cond (.t 32)
 (.seq (.reg [sq 33 (.call 8 []),
sq 6 (.mv (.t 33))])
 .ret)
 .skip))
 (.seq (.reg [sq 34 (.call 20 []),
sq 35 (.call 21 []),
sq 7 (.zbox [dI 0,dI 0,dI 0,dN,dN,dN]),
sq 8 (.zbox [dI 0,dI 0,dI 0,dN,dN,dN]),
su (.store 6 (.t 7) (.t 34)),
su (.store 6 (.t 8) (.t 35))])
 (.seq (.seq (.reg [sq 9 (.mv (kI 0))])
 (.sem (.block 0 (.loop (.seq (.seq (.reg [sq 36 (.mv (.t 9)),
sq 37 (.mv (.t 0)),
sq 38 (.len (.t 37)),
sq 39 (.bin .lss (.t 36) (.t 38))])
 (.cond (.t 39)
 .skip
 (.exit 0)))
 (.seq (.block 1 (.seq (.regd [sq 43 (.load (some 6) (.t 7)),
sq 44 (.mv (.t 0)),
sq 45 (.mv (.t 9)),
sd 46 (.indexA 28 (.t 44) (.t 45)) [1,2],
sd 47 (.load (some 28) (.t 46)) [1,2,3],
zn 48 (.call 22 [(.t 43),(.t 47)]) [0,1,2,3,4] [0,1,2,3,4],
sd 42 (.mv (.t 48)) [0,1,2,3,4,5],
sd 49 (.ext (.t 42) 0) [0,1,2,3,4,5,6],
sd 50 (.ext (.t 42) 1) [0,1,2,3,4,5,6],
sd 51 (.ext (.t 42) 2) [0,1,2,3,4,5,6],
sq 10 (.zbox [dI 0,dI 0,dI 0,dN,dN,dN]),
sq 11 (.zbox [dS ⟨#[]⟩,dS ⟨#[]⟩,dS ⟨#[]⟩,dI 0,dI 0,dI 0,dI 0,dB false,dI 0,dN,dN,dN,dN,dI 0,dI 0,dS ⟨#[]⟩,dN,dN,dI 0,dI 0,dS ⟨#[]⟩,dN,dN]),
⟨none,none,.store 6 (.t 10) (.t 49),[0,1,2,3,4,5,6,7,10,11],(.lone [])⟩,
⟨none,none,.store 23 (.t 11) (.t 50),[0,1,2,3,4,5,6,7,8,10,11,12],(.lone [])⟩,
sd 12 (.mv (.t 51)) [0,1,2,3,4,5,6,7,8,9,10,11,12,13]])
 (.seq (.regd [sq 53 (.load (some 6) (.t 8)),
sq 54 (.mv (.t 0)),
sq 55 (.mv (.t 9)),
sd 56 (.indexA 28 (.t 54) (.t 55)) [1,2],
sd 57 (.load (some 28) (.t 56)) [1,2,3],
zn 58 (.call 23 [(.t 53),(.t 57)]) [0,1,2,3,4] [0,1,2,3,4],
sd 52 (.mv (.t 58)) [0,1,2,3,4,5],
sd 59 (.ext (.t 52) 0) [0,1,2,3,4,5,6],
sd 60 (.ext (.t 52) 1) [0,1,2,3,4,5,6],
sd 61 (.ext (.t 52) 2) [0,1,2,3,4,5,6],
sq 13 (.zbox [dI 0,dI 0,dI 0,dN,dN,dN]),
sq 14 (.zbox [dS ⟨#[]⟩,dS ⟨#[]⟩,dS ⟨#[]⟩,dI 0,dI 0,dI 0,dI 0,dB false,dI 0,dN,dN,dN,dN,dI 0,dI 0,dS ⟨#[]⟩,dN,dN,dI 0,dI 0,dS ⟨#[]⟩,dN,dN]),
⟨none,none,.store 6 (.t 13) (.t 59),[0,1,2,3,4,5,6,7,10,11],(.lone [])⟩,
⟨none,none,.store 23 (.t 14) (.t 60),[0,1,2,3,4,5,6,7,8,10,11,12],(.lone [])⟩,
sd 15 (.mv (.t 61)) [0,1,2,3,4,5,6,7,8,9,10,11,12,13]])
 (.seq (.seq (.sem (.reg [sq 62 (.mv (.t 12)),
sq 63 (.mv (.t 15)),
sq 64 (.bin .neq (.t 62) (.t 63)),
sq 65 (.mv (.t 64)),
zg 66 65 false (.load (some 23) (.t 11)),
zg 67 65 false (.load (some 23) (.t 14)),
zg 68 65 false (.call 24 [(.t 66),(.t 67)]),
zg 69 65 false (.not (.t 68)),
sq 70 (.pick (.t 65) (kB true) (.t 69)),
sq 71 (.mv (.t 70)),
zg 72 71 false (.load (some 6) (.t 10)),
zg 73 71 false (.load (some 6) (.t 13)),
zg 74 71 false (.call 15 [(.t 72),(.t 73)]),
zg 75 71 false (.not (.t 74)),
sq 76 (.pick (.t 71) (kB true) (.t 75))]))
 (.cond (.t 76)
 (.seq (.reg [sq 6 (.mv (kB false))])
 .ret)
 .skip))
 (.seq (.sem (.regd [sq 77 (.load (some 6) (.t 10)),
sq 78 (.load (some 6) (.t 13)),
⟨none,none,.store 6 (.t 7) (.t 77),[0],(.lone [13])⟩,
⟨none,none,.store 6 (.t 8) (.t 78),[0,1,2],(.lone [])⟩]))
 (.seq (.regd [sq 80 (.load (some 6) (.t 7)),
sq 81 (.mv (.t 0)),
sq 82 (.mv (.t 9)),
sd 83 (.indexA 28 (.t 81) (.t 82)) [1,2],
sd 84 (.fieldA 27 (.t 83)) [1,2,3],
sd 85 (.load none (.t 84)) [1,2,3,4],
zl 86 (.call 25 [(.t 80),(.t 85)]) [0,1,2,3,4,5] [],
sd 79 (.mv (.t 86)) [0,1,2,3,4,5,6],
sd 87 (.ext (.t 79) 0) [0,1,2,3,4,5,6,7],
sd 88 (.ext (.t 79) 1) [0,1,2,3,4,5,6,7],
sd 16 (.mv (.t 87)) [0,1,2,3,4,5,6,7,8],
sd 17 (.mv (.t 88)) [0,1,2,3,4,5,6,7,8,9,10]])
 (.seq (.regd [sq 90 (.load (some 6) (.t 8)),
sq 91 (.mv (.t 0)),
sq 92 (.mv (.t 9)),
sd 93 (.indexA 28 (.t 91) (.t 92)) [1,2],
sd 94 (.fieldA 27 (.t 93)) [1,2,3],
sd 95 (.load none (.t 94)) [1,2,3,4],
zl 96 (.call 26 [(.t 90),(.t 95)]) [0,1,2,3,4,5] [],
sd 89 (.mv (.t 96)) [0,1,2,3,4,5,6],
sd 97 (.ext (.t 89) 0) [0,1,2,3,4,5,6,7],
sd 98 (.ext (.t 89) 1) [0,1,2,3,4,5,6,7],
sd 18 (.mv (.t 97)) [0,1,2,3,4,5,6,7,8],
sd 19 (.mv (.t 98)) [0,1,2,3,4,5,6,7,8,9,10]])
 (.seq (.sem (.reg [sq 99 (.mv (.t 17)),
sq 100 (.mv (.t 19)),
sq 101 (.bin .neq (.t 99) (.t 100)),
sq 102 (.mv (.t 101)),
zg 103 102 false (.mv (.t 16)),
zg 104 102 false (.mv (.t 18)),
zg 105 102 false (.call 27 [(.t 103),(.t 104)]),
zg 106 102 false (.not (.t 105)),
sq 107 (.pick (.t 102) (kB true) (.t 106))]))
 (.cond (.t 107)
 (.seq (.reg [sq 6 (.mv (kB false))])
 .ret)
 .skip)))))))))
 (.reg [sq 40 (.mv (.t 9)),
sq 41 (.bin .add (.t 40) (kI 1)),
sq 9 (.mv (.t 41))])))))))
 (.seq (.reg [sq 109 (.load (some 6) (.t 7)),
sq 110 (.mv (.t 2)),
sq 111 (.call 10 [(.t 109),(.t 110)]),
sq 108 (.mv (.t 111)),
sq 112 (.ext (.t 108) 0),
sq 113 (.ext (.t 108) 1),
sq 20 (.zbox [dS ⟨#[]⟩,dS ⟨#[]⟩,dS ⟨#[]⟩,dI 0,dI 0,dI 0,dI 0,dB false,dI 0,dN,dN,dN,dN,dI 0,dI 0,dS ⟨#[]⟩,dN,dN,dI 0,dI 0,dS ⟨#[]⟩,dN,dN]),
su (.store 23 (.t 20) (.t 112)),
sq 21 (.mv (.t 113))])
 (.seq (.reg [sq 115 (.load (some 6) (.t 8)),
sq 116 (.mv (.t 2)),
sq 117 (.call 28 [(.t 115),(.t 116)]),
sq 114 (.mv (.t 117)),
sq 118 (.ext (.t 114) 0),
sq 119 (.ext (.t 114) 1),
sq 22 (.zbox [dS ⟨#[]⟩,dS ⟨#[]⟩,dS ⟨#[]⟩,dI 0,dI 0,dI 0,dI 0,dB false,dI 0,dN,dN,dN,dN,dI 0,dI 0,dS ⟨#[]⟩,dN,dN,dI 0,dI 0,dS ⟨#[]⟩,dN,dN]),
su (.store 23 (.t 22) (.t 118)),
sq 23 (.mv (.t 119))])
 (.seq (.sem (.regd [zl 120 (.call 8 []) [] [],
sd 121 (.mv (.t 120)) [0],
⟨(some 122),(some (121,true)),.mv (.t 21),[0,1],(.new [])⟩,
⟨(some 123),(some (121,true)),.mv (.t 23),[0,1],(.new [])⟩,
⟨(some 124),(some (121,true)),.beq false (.t 122) (.t 123),[0,1,2,3],(.new [])⟩,
zl 125 (.pick (.t 121) (.t 124) (kB false)) [0,1,2,3,4] [],
sd 126 (.mv (.t 125)) [0,1,2,3,4,5],
⟨(some 127),(some (126,true)),.load (some 23) (.t 20),[0,1,2,3,4,5,6],(.new [])⟩,
⟨(some 128),(some (126,true)),.load (some 23) (.t 22),[0,1,2,3,4,5,6],(.new [])⟩,
⟨(some 129),(some (126,true)),.call 24 [(.t 127),(.t 128)],[0,1,2,3,4,5,6,7,8],(.lone [])⟩,
zl 130 (.pick (.t 126) (.t 129) (kB false)) [0,1,2,3,4,5,6,7,8,9] [],
sd 131 (.mv (.t 130)) [0,1,2,3,4,5,6,7,8,9,10],
⟨(some 132),(some (131,true)),.load (some 6) (.t 7),[0,1,2,3,4,5,6,7,8,9,10,11],(.new [])⟩,
⟨(some 133),(some (131,true)),.load (some 3) (.t 4),[0,1,2,3,4,5,6,7,8,9,10,11],(.new [])⟩,
⟨(some 134),(some (131,true)),.call 29 [(.t 132),(.t 133)],[0,1,2,3,4,5,6,7,8,9,10,11,12,13],(.new [12,13])⟩,
⟨(some 135),(some (131,true)),.load (some 6) (.t 8),[0,1,2,3,4,5,6,7,8,9,10,11],(.new [])⟩,
⟨(some 136),(some (131,true)),.load (some 3) (.t 4),[0,1,2,3,4,5,6,7,8,9,10,11],(.new [])⟩,
⟨(some 137),(some (131,true)),.call 30 [(.t 135),(.t 136)],[0,1,2,3,4,5,6,7,8,9,10,11,12,13,14,15,16],(.lone [])⟩,
⟨(some 138),(some (131,true)),.call 27 [(.t 134),(.t 137)],[0,1,2,3,4,5,6,7,8,9,10,11,12,13,14,15,16,17],(.lone [])⟩,
zl 139 (.pick (.t 131) (.t 138) (kB false)) [0,1,2,3,4,5,6,7,8,9,10,11,12,13,14,15,16,17,18] [],
sd 6 (.mv (.t 139)) [0,1,2,3,4,5,6,7,8,9,10,11,12,13,14,15,16,17,18,19]]))
 .ret)))))))⟩
theorem F5_ok{x0 x1 x2 r}(h:F5 x0 x1 x2=some r):CallD Tryz.prog 5 [.c (dM (x0.map eTOp)),.agg [dS x1.Kind,dS x1.Namespace,dM (x1.Selector.map eRequirement)],.c (dS x2)] [] (tupV [.c (dB r)]) []:=by
 rw[F5]at h
 refine zc a5 (by kernel_rfl) rfl (ww ?_)
 obtain⟨o1,ho,h⟩:=bi h
 refine cutS (fun s=>s=⟨[(0,.one (.c (dM (x0.map eTOp)))),(2,.one (.c (dS x2))),(4,.one (.c (.pt 0 0))),(32,.one (.c (dB o1)))],[some (.box [dS x1.Kind,dS x1.Namespace,dM (x1.Selector.map eRequirement)])]⟩) ?_ ?_
 ·have h:=ho
  clear ho
  refine ww ?_
  obtain⟨t2,ht2,h⟩:=bi h
  refine cN [] (F6_ok ht2) trivial (ww ?_)
  refine guardSBh h (fun g3 h=>?_) (fun g3 h=>?_)
  ·refine ww ?_
   cases h
   exact eM [some 0] rfl
  refine ww ?_
  cases h
  exact eM [some 0] rfl
 rintro _ rfl
 clear ho
 refine ww ?_
 refine condBh h (fun c4 h=>?_) (fun c4 h=>?_)
 ·refine ww ?_
  obtain⟨t5,ht5,h⟩:=bi h
  refine cN [] (F8_ok ht5) trivial (ww ?_)
  cases h
  exact eF []
 refine ww ?_
 obtain⟨t6,ht6,h⟩:=bi h
 refine cN [] (F20_ok ht6) trivial (ww ?_)
 obtain⟨t7,ht7,h⟩:=bi h
 refine cN [] (F21_ok ht7) trivial (ww ?_)
 obtain⟨o8,ho,h⟩:=bi h
 refine cutS (fun s=>∃po8,o8=Sum.inr po8∧s=⟨[(2,.one (.c (dS x2))),(4,.one (.c (.pt 0 0))),(7,.one (.c (.pt 1 0))),(8,.one (.c (.pt 2 0)))],[some (.box [dS x1.Kind,dS x1.Namespace,dM (x1.Selector.map eRequirement)]),some (.box [dI ((po8.1).Rev),dI ((po8.1).Floor),dI ((po8.1).NextUid),dM (((po8.1).Base).map eObject),dM (((po8.1).Objects).map eObject),dM (((po8.1).History).map eChange)]),some (.box [dI ((po8.2).Rev),dI ((po8.2).Floor),dI ((po8.2).NextUid),dM (((po8.2).Base).map eObject),dM (((po8.2).Objects).map eObject),dM (((po8.2).History).map eChange)])]⟩) ?_ ?_
 ·have h0o8:=h
  have h:=ho
  clear ho
  obtain⟨_,hk,h⟩:=bi h
  have hk:=ck_some hk
  refine ww ?_
  refine bL (fun j s=>∃(o8_2:Nat) (o8_0:TStore) (o8_1:TStore),(o8_2≤x0.length∧j=x0.length-o8_2)∧s=⟨[(0,.one (.c (dM (x0.map eTOp)))),(2,.one (.c (dS x2))),(4,.one (.c (.pt 0 0))),(7,.one (.c (.pt 1 0))),(8,.one (.c (.pt 2 0))),(9,.one (.c (dI ((o8_2:Int)))))],[some (.box [dS x1.Kind,dS x1.Namespace,dM (x1.Selector.map eRequirement)]),some (.box [dI ((o8_0).Rev),dI ((o8_0).Floor),dI ((o8_0).NextUid),dM (((o8_0).Base).map eObject),dM (((o8_0).Objects).map eObject),dM (((o8_0).History).map eChange)]),some (.box [dI ((o8_1).Rev),dI ((o8_1).Floor),dI ((o8_1).NextUid),dM (((o8_1).Base).map eObject),dM (((o8_1).Objects).map eObject),dM (((o8_1).History).map eChange)])]⟩∧F5_l8 (x0.drop o8_2) o8_2 o8_0 o8_1=some o8) (x0.length-0) [some 0,some 1,some 2] ⟨0,(⟨0,0,1,[],[],[]⟩:TStore),(⟨0,0,1,[],[],[]⟩:TStore),⟨hk.1,rfl⟩,rfl,h⟩ ?_
  rintro _ _ ⟨o8_2,o8_0,o8_1,⟨hi,rfl⟩,rfl,h⟩
  refine ww ?_
  refine condS (fun c9=>?_) (fun c9=>?_)
  ·obtain⟨xo8,hxo8,hd⟩:=countY (show(o8_2:Int)<(x0.length:Int)from c9)
   rw[hd,F5_l8]at h
   refine ww ?_
   refine t_idxF (enc:=eTOp) (xs:=x0) rfl rfl hxo8 rfl (ww ?_)
   obtain⟨t10,ht10,h⟩:=bi h
   refine cN [] (F22_ok ht10) trivial (ww ?_)
   refine kD_new (by simp[wrs,allW,hset]) (ww ?_)
   refine kD_new (by simp[wrs,allW,hset]) (ww ?_)
   refine kD_new (by simp[wrs,allW,hset]) (ww ?_)
   refine t_idxF (enc:=eTOp) (xs:=x0) rfl rfl hxo8 rfl (ww ?_)
   obtain⟨t11,ht11,h⟩:=bi h
   refine cN [] (F23_ok ht11) trivial (ww ?_)
   refine kD_new (by simp[wrs,allW,hset]) (ww ?_)
   refine kD_new (by simp[wrs,allW,hset]) (ww ?_)
   obtain⟨o12,ho,h⟩:=bi h
   refine cutS (fun s=>s=⟨[(0,.one (.c (dM (x0.map eTOp)))),(2,.one (.c (dS x2))),(4,.one (.c (.pt 0 0))),(7,.one (.c (.pt 1 0))),(8,.one (.c (.pt 2 0))),(9,.one (.c (dI ((o8_2:Int))))),(10,.one (.c (.pt 3 0))),(13,.one (.c (.pt 7 0))),(76,.one (.c (dB o12)))],[some (.box [dS x1.Kind,dS x1.Namespace,dM (x1.Selector.map eRequirement)]),some (.box [dI ((o8_0).Rev),dI ((o8_0).Floor),dI ((o8_0).NextUid),dM (((o8_0).Base).map eObject),dM (((o8_0).Objects).map eObject),dM (((o8_0).History).map eChange)]),some (.box [dI ((o8_1).Rev),dI ((o8_1).Floor),dI ((o8_1).NextUid),dM (((o8_1).Base).map eObject),dM (((o8_1).Objects).map eObject),dM (((o8_1).History).map eChange)]),some (.box [dI t10.1,dI t10.2.1,dI t10.2.2.1,.own 4 0 0 (t10.2.2.2.1.length) none,.own 5 0 0 (t10.2.2.2.2.1.length) none,.own 6 0 0 (t10.2.2.2.2.2.1.length) none]),some (.arr 0 23 (t10.2.2.2.1.map eObject)),some (.arr 0 23 (t10.2.2.2.2.1.map eObject)),some (.arr 0 25 (t10.2.2.2.2.2.1.map eChange)),some (.box [dI ((t11.1).Rev),dI ((t11.1).Floor),dI ((t11.1).NextUid),dM (((t11.1).Base).map eObject),dM (((t11.1).Objects).map eObject),dM (((t11.1).History).map eChange)])]⟩) ?_ ?_
   ·have h:=ho
    clear ho
    refine ww ?_
    refine guardSh h (fun g13 h=>?_) (fun g13 h=>?_)
    ·refine ww ?_
     cases h
     exact eM [some 0,some 1,some 2,some 6,some 3,some 4,some 5,some 8] rfl
    refine ww ?_
    obtain⟨t14,ht14,h⟩:=bi h
    refine cN [] (F24_ok ht14) trivial (ww ?_)
    refine guardSBh h (fun g15 h=>?_) (fun g15 h=>?_)
    ·refine ww ?_
     cases h
     exact eM [some 0,some 1,some 2,some 6,some 3,some 4,some 5,some 8] rfl
    refine ww ?_
    obtain⟨t16,ht16,h⟩:=bi h
    refine callX_bor (F15_ok ht16) (by simp only[borAs,bors,hp,List.getElem?_cons_zero,List.getElem?_cons_succ,Option.join_some,List.drop_zero,bor_full',true_and,Nat.zero_add,List.length_map,Nat.le_refl,nrm,List.length_cons,List.length_nil,Nat.reduceAdd,Nat.reduceLeDiff,List.take_succ_cons,List.take_zero,List.take_nil,List.map_cons,List.map_nil,List.length_set,EE.down]) rfl ?_
    refine ww ?_
    cases h
    exact eM [some 0,some 1,some 2,some 6,some 3,some 4,some 5,some 8] rfl
   rintro _ rfl
   clear ho
   refine ww ?_
   refine condBh h (fun c17 h=>?_) (fun c17 h=>?_)
   ·refine ww ?_
    obtain⟨fh0o8,hfh0o8,rfl⟩:=Option.map_eq_some_iff.1 h
    have h:=hfh0o8.trans h0o8
    cases h
    exact eF []
   refine ww ?_
   obtain⟨o18,ho,h⟩:=bi h
   refine cutS (fun s=>s=⟨[(0,.one (.c (dM (x0.map eTOp)))),(2,.one (.c (dS x2))),(4,.one (.c (.pt 0 0))),(7,.one (.c (.pt 1 0))),(8,.one (.c (.pt 2 0))),(9,.one (.c (dI ((o8_2:Int)))))],[some (.box [dS x1.Kind,dS x1.Namespace,dM (x1.Selector.map eRequirement)]),some (.box [dI t10.1,dI t10.2.1,dI t10.2.2.1,dM (t10.2.2.2.1.map eObject),dM (t10.2.2.2.2.1.map eObject),dM (t10.2.2.2.2.2.1.map eChange)]),some (.box [dI ((t11.1).Rev),dI ((t11.1).Floor),dI ((t11.1).NextUid),dM (((t11.1).Base).map eObject),dM (((t11.1).Objects).map eObject),dM (((t11.1).History).map eChange)])]⟩) ?_ ?_
   ·have h:=ho
    clear ho
    refine ww ?_
    cases h
    exact eM [some 0,some 1,some 2] rfl
   rintro _ rfl
   clear ho
   refine ww ?_
   refine t_idxF (enc:=eTOp) (xs:=x0) rfl rfl hxo8 rfl (ww ?_)
   obtain⟨t19,ht19,h⟩:=bi h
   refine cN [] (F25_ok ht19) trivial (ww ?_)
   refine t_idxF (enc:=eTOp) (xs:=x0) rfl rfl hxo8 rfl (ww ?_)
   obtain⟨t20,ht20,h⟩:=bi h
   refine cN [] (F26_ok ht20) trivial (ww ?_)
   obtain⟨o21,ho,h⟩:=bi h
   refine cutS (fun s=>s=⟨[(0,.one (.c (dM (x0.map eTOp)))),(2,.one (.c (dS x2))),(4,.one (.c (.pt 0 0))),(7,.one (.c (.pt 1 0))),(8,.one (.c (.pt 2 0))),(9,.one (.c (dI ((o8_2:Int))))),(107,.one (.c (dB o21)))],[some (.box [dS x1.Kind,dS x1.Namespace,dM (x1.Selector.map eRequirement)]),some (.box [dI t10.1,dI t10.2.1,dI t10.2.2.1,dM (t10.2.2.2.1.map eObject),dM (t10.2.2.2.2.1.map eObject),dM (t10.2.2.2.2.2.1.map eChange)]),some (.box [dI ((t11.1).Rev),dI ((t11.1).Floor),dI ((t11.1).NextUid),dM (((t11.1).Base).map eObject),dM (((t11.1).Objects).map eObject),dM (((t11.1).History).map eChange)])]⟩) ?_ ?_
   ·have h:=ho
    clear ho
    refine ww ?_
    refine guardSh h (fun g22 h=>?_) (fun g22 h=>?_)
    ·refine ww ?_
     cases h
     exact eM [some 0,some 1,some 2] rfl
    refine ww ?_
    obtain⟨t23,ht23,h⟩:=bi h
    refine callX_bor (F27_ok ht23) (by simp only[borAs,bors,hp,List.getElem?_cons_zero,List.getElem?_cons_succ,Option.join_some,List.drop_zero,bor_full',true_and,Nat.zero_add,List.length_map,Nat.le_refl,nrm,List.length_cons,List.length_nil,Nat.reduceAdd,Nat.reduceLeDiff,List.take_succ_cons,List.take_zero,List.take_nil,List.map_cons,List.map_nil,List.length_set,EE.down]) rfl ?_
    refine ww ?_
    cases h
    exact eM [some 0,some 1,some 2] rfl
   rintro _ rfl
   clear ho
   refine ww ?_
   refine condBh h (fun c24 h=>?_) (fun c24 h=>?_)
   ·refine ww ?_
    obtain⟨fh0o8,hfh0o8,rfl⟩:=Option.map_eq_some_iff.1 h
    have h:=hfh0o8.trans h0o8
    cases h
    exact eF []
   refine ww ?_
   rw[wrapN (by omega)]
   exact eL' (x0.length-(o8_2+1)) [some 0,some 1,some 2] ⟨o8_2+1,(⟨t10.1,t10.2.1,t10.2.2.1,t10.2.2.2.1,t10.2.2.2.2.1,t10.2.2.2.2.2.1⟩:TStore),(⟨(t11.1).Rev,(t11.1).Floor,(t11.1).NextUid,(t11.1).Base,(t11.1).Objects,(t11.1).History⟩:TStore),⟨by omega,rfl⟩,rfl,h⟩ (by omega)
  rw[countN (show¬((o8_2:Int)<(x0.length:Int))from c9),F5_l8]at h
  refine ww ?_
  cases h
  exact eM [some 0,some 1,some 2] ⟨_,rfl,rfl⟩
 rintro _ ⟨po8,rfl,rfl⟩
 clear ho
 dsimp only at h
 refine ww ?_
 obtain⟨t26,ht26,h⟩:=bi h
 refine cN [] (F10_ok ht26) trivial (ww ?_)
 obtain⟨t27,ht27,h⟩:=bi h
 refine cN [] (F28_ok ht27) trivial (ww ?_)
 obtain⟨o28,ho,h⟩:=bi h
 refine cutS (fun s=>s=⟨[(6,.one (.c (dB o28)))],[]⟩) ?_ ?_
 ·have h:=ho
  clear ho
  refine ww ?_
  obtain⟨t29,ht29,h⟩:=bi h
  refine cN [] (F8_ok ht29) trivial (ww ?_)
  refine guardDBh h (fun g30 h=>?_) (fun g30 h=>?_)
  ·refine ww ?_
   refine guardDBh h (fun g31 h=>?_) (fun g31 h=>?_)
   ·refine ww ?_
    obtain⟨t32,ht32,h⟩:=bi h
    refine callX_bor (F24_ok ht32) (by simp only[borAs,bors,hp,List.getElem?_cons_zero,List.getElem?_cons_succ,Option.join_some,List.drop_zero,bor_full',true_and,Nat.zero_add,List.length_map,Nat.le_refl,nrm,List.length_cons,List.length_nil,Nat.reduceAdd,Nat.reduceLeDiff,List.take_succ_cons,List.take_zero,List.take_nil,List.map_cons,List.map_nil,List.length_set,EE.down]) rfl ?_
    refine ww ?_
    refine guardDBh h (fun g33 h=>?_) (fun g33 h=>?_)
    ·refine ww ?_
     obtain⟨t34,ht34,h⟩:=bi h
     refine cN [] (F29_ok ht34) trivial (ww ?_)
     refine kD_new (by simp[wrs,allW,hset]) (ww ?_)
     obtain⟨t35,ht35,h⟩:=bi h
     refine cN [] (F30_ok ht35) trivial (ww ?_)
     obtain⟨t36,ht36,h⟩:=bi h
     refine callX_bor (F27_ok ht36) (by simp only[borAs,bors,hp,List.getElem?_cons_zero,List.getElem?_cons_succ,Option.join_some,List.drop_zero,bor_full',true_and,Nat.zero_add,List.length_map,Nat.le_refl,nrm,List.length_cons,List.length_nil,Nat.reduceAdd,Nat.reduceLeDiff,List.take_succ_cons,List.take_zero,List.take_nil,List.map_cons,List.map_nil,List.length_set,EE.down]) rfl ?_
     refine ww ?_
     cases h
     exact eM [] rfl
    refine ww ?_
    cases h
    exact eM [] rfl
   refine ww ?_
   cases h
   exact eM [] rfl
  refine ww ?_
  cases h
  exact eM [] rfl
 rintro _ rfl
 clear ho
 refine ww ?_
 cases h
 exact eF []
end Go.Proofs.YtbopaemngpbdgaaGreat
