/- Each Go function as a function over typed data, and its walk. -/
import Derived.Test.YtfkkccgopmcnaaaW0
import Derived.Test.YtfkkccgopmcnaaaW4
import Derived.Test.YtfkkccgopmcnaaaW5
import Derived.Test.YtfkkccgopmcnaaaW7
import Derived.Test.YtfkkccgopmcnaaaW11
import Derived.Test.YtfkkccgopmcnaaaW12
import Derived.Test.YtfkkccgopmcnaaaW13
namespace Go.Proofs.Ytfkkccgopmcnaaa
open Go Go.Fw Go.Shelf
set_option maxRecDepth 100000
set_option maxHeartbeats 4000000
set_option linter.unusedSimpArgs false
set_option linter.unusedVariables false
def F5_l10(t9:(List ServicePort)×(List Endpoint)):List Endpoint→Nat→Int→Option ((Bool) ⊕ (Int))
 |[],o10_1,o10_0=>some (Sum.inr o10_0)
 |xo10::xs,o10_1,o10_0=>(((rdI t9.2 ((o10_1:Int))).bind fun y13=>(((if y13.Ready=true then(if y13.Terminating=true then some true else(if 0<(o10_1:Int)then(rdI t9.2 ((IntKind.i64.wrap (((o10_1:Int))-1)))).bind fun y18=>some (nb (Op.bytesLess y18.Pod.toList y13.Pod.toList))else some false))else(if 0<(o10_1:Int)then(rdI t9.2 ((IntKind.i64.wrap (((o10_1:Int))-1)))).bind fun y20=>some (nb (Op.bytesLess y20.Pod.toList y13.Pod.toList))else some false))).bind fun o14=>(if o14=true then((some false).map Sum.inl).map Sum.inl else(if y13.Ready=true then some (Sum.inr ((IntKind.i64.wrap (o10_0+1))))else some (Sum.inr o10_0)))):Option (((Bool) ⊕ (Int)) ⊕ (Int))).bind fun o12=>match o12 with|Sum.inl f=>some f|Sum.inr po12=>F5_l10 t9 xs (o10_1+1) po12)
def F5_l37(t9:(List ServicePort)×(List Endpoint))(xo24:Pod):List Endpoint→Nat→Bool→Option (Bool)
 |[],o37_1,o37_0=>some o37_0
 |xo37::xs,o37_1,o37_0=>(((rdI t9.2 ((o37_1:Int))).bind fun y40=>(if o37_0=true then some true else(F19 xo24.Meta).bind fun t42=>(if y40.Pod=t42 then(if y40.Ready=true then(if y40.Address=xo24.Status.Address then some (decide (y40.Node=xo24.Spec.Node))else some false)else some false)else some false))).bind fun o39=>F5_l37 t9 xo24 xs (o37_1+1) o39)
def F5_l24(t9:(List ServicePort)×(List Endpoint))(x0:Service):List Pod→Nat→Int→Option ((Bool) ⊕ (Int))
 |[],o24_1,o24_0=>some (Sum.inr o24_0)
 |xo24::xs,o24_1,o24_0=>(((((if¬(xo24.Meta.Namespace=x0.Meta.Namespace)then some true else(F18 x0.Selector xo24.Meta.Labels).bind fun t29=>(if(nb t29)=true then some true else(if xo24.Status.Address≤0 then some true else(if¬(xo24.Status.Phase=0)then(if¬(xo24.Status.Phase=1)then some true else(if(nb xo24.Status.Ready)=true then some true else some xo24.Meta.Deleting))else(if(nb xo24.Status.Ready)=true then some true else some xo24.Meta.Deleting)))))).bind fun o27=>(if o27=true then some (Sum.inr o24_0)else(((ck (0≤t9.2.length∧t9.2.length≤4294967290)).bind fun u46=>F5_l37 t9 xo24 t9.2 0 false).bind fun o37=>(if(nb o37)=true then((some false).map Sum.inl).map Sum.inl else some (Sum.inr ((IntKind.i64.wrap (o24_0+1)))))))):Option (((Bool) ⊕ (Int)) ⊕ (Int))).bind fun o26=>match o26 with|Sum.inl f=>some f|Sum.inr po26=>F5_l24 t9 x0 xs (o24_1+1) po26)
def F5(x0:Service)(x1:(List Pod)):Option (Bool):=(((F7 x0).bind fun t2=>(if(nb t2)=true then some true else(F8 x1).bind fun t4=>(if(nb t4)=true then some true else(F17 x1).bind fun t6=>some (nb t6)))).bind fun o1=>(if o1=true then(F9).bind fun t8=>some t8 else(F10 x0 x1).bind fun t9=>(((ck (0≤t9.2.length∧t9.2.length≤4294967290)).bind fun u23=>F5_l10 t9 t9.2 0 0:Option ((Bool) ⊕ (Int))).bind fun o10=>match o10 with|Sum.inl f=>some f|Sum.inr po10=>(((ck (0≤x1.length∧x1.length≤4294967290)).bind fun u48=>F5_l24 t9 x0 x1 0 0:Option ((Bool) ⊕ (Int))).bind fun o24=>match o24 with|Sum.inl f=>some f|Sum.inr po24=>(((if po10=po24 then(F9).bind fun t51=>some t51 else some false)).bind fun o49=>some o49)))))
def a5:AFn:=⟨166,[(.tmp 4)],
 (.seq (.reg [sq 2 (.box (.t 0)),
sq 4 (.mv (kB false))])
 (.seq (.seq (.sem (.reg [sq 15 (.load (some 17) (.t 2)),
sq 16 (.call 7 [(.t 15)]),
sq 17 (.not (.t 16)),
sq 18 (.mv (.t 17)),
zg 19 18 false (.mv (.t 1)),
zg 20 18 false (.call 8 [(.t 19)]),
zg 21 18 false (.not (.t 20)),
sq 22 (.pick (.t 18) (kB true) (.t 21)),
sq 23 (.mv (.t 22)),
zg 24 23 false (.mv (.t 1)),
zg 25 23 false (.call 17 [(.t 24)]),
zg 26 23 false (.not (.t 25)),
sq 27 (.pick (.t 23) (kB true) (.t 26))]))
 (.cond (.t 27)
 (.seq (.reg [sq 28 (.call 9 []),
sq 4 (.mv (.t 28))])
 .ret)
 .skip))
 (.seq (.reg [sq 29 (.load (some 17) (.t 2)),
sq 30 (.mv (.t 1)),
sq 31 (.call 10 [(.t 29),(.t 30)]),
sq 5 (.zbox [dS ⟨#[]⟩,dS ⟨#[]⟩,dS ⟨#[]⟩,dI 0,dI 0,dI 0,dI 0,dB false,dI 0,dN,dN,dN,dN,dN,dN]),
su (.store 15 (.t 5) (.t 31))])
 (.seq (.reg [sq 6 (.mv (kI 0))])
 (.seq (.seq (.reg [sq 32 (.fieldA 14 (.t 5)),
sq 33 (.load none (.t 32)),
sq 34 (.len (.t 33)),
sq 35 (.mv (kI 0))])
 (.sem (.block 0 (.loop (.seq (.reg [sq 36 (.bin .lss (.t 35) (.t 34))])
 (.seq (.cond (.t 36)
 .skip
 (.exit 0))
 (.seq (.sem (.block 1 (.seq (.reg [sq 37 (.mv (.t 35)),
sq 38 (.indexA 5 (.t 33) (.t 35)),
sq 39 (.load (some 5) (.t 38)),
sq 8 (.zbox [dS ⟨#[]⟩,dS ⟨#[]⟩,dI 0,dB false,dB false]),
sq 7 (.mv (.t 37)),
su (.store 5 (.t 8) (.t 39))])
 (.seq (.seq (.sem (.regd [sq 40 (.fieldA 3 (.t 8)),
sd 41 (.load none (.t 40)) [0],
sd 42 (.mv (.t 41)) [0,1],
⟨(some 43),(some (42,true)),.fieldA 4 (.t 8),[0,1,2],(.new [])⟩,
⟨(some 44),(some (42,true)),.load none (.t 43),[0,1,2,3],(.new [])⟩,
zl 45 (.pick (.t 42) (.t 44) (kB false)) [0,1,2,3,4] [],
sd 46 (.mv (.t 45)) [0,1,2,3,4,5],
⟨(some 47),(some (46,false)),.mv (.t 7),[0,1,2,3,4,5,6],(.new [])⟩,
⟨(some 48),(some (46,false)),.bin .gtr (.t 47) (kI 0),[0,1,2,3,4,5,6,7],(.new [])⟩,
⟨(some 49),(some (46,false)),.mv (.t 48),[0,1,2,3,4,5,6,7,8],(.new [])⟩,
⟨(some 50),(some (49,true)),.fieldA 14 (.t 5),[0,1,2,3,4,5,6,7,8,9],(.new [])⟩,
⟨(some 51),(some (49,true)),.load none (.t 50),[0,1,2,3,4,5,6,7,8,9,10],(.new [])⟩,
⟨(some 52),(some (49,true)),.mv (.t 7),[0,1,2,3,4,5,6,7,8,9],(.new [])⟩,
⟨(some 53),(some (49,true)),.bin .sub (.t 52) (kI 1),[0,1,2,3,4,5,6,7,8,9,12],(.new [])⟩,
⟨(some 54),(some (49,true)),.indexA 5 (.t 51) (.t 53),[0,1,2,3,4,5,6,7,8,9,10,11,12,13],(.new [])⟩,
⟨(some 55),(some (49,true)),.fieldA 0 (.t 54),[0,1,2,3,4,5,6,7,8,9,10,11,12,13,14],(.new [])⟩,
⟨(some 56),(some (49,true)),.load none (.t 55),[0,1,2,3,4,5,6,7,8,9,10,11,12,13,14,15],(.new [])⟩,
⟨(some 57),(some (49,true)),.fieldA 0 (.t 8),[0,1,2,3,4,5,6,7,8,9],(.new [])⟩,
⟨(some 58),(some (49,true)),.load none (.t 57),[0,1,2,3,4,5,6,7,8,9,17],(.new [])⟩,
⟨(some 59),(some (49,true)),.bin .geq (.t 56) (.t 58),[0,1,2,3,4,5,6,7,8,9,10,11,12,13,14,15,16,17,18],(.new [])⟩,
⟨(some 60),(some (46,false)),.pick (.t 49) (.t 59) (kB false),[0,1,2,3,4,5,6,7,8,9,10,11,12,13,14,15,16,17,18,19],(.lone [])⟩,
zl 61 (.pick (.t 46) (kB true) (.t 60)) [0,1,2,3,4,5,6,7,8,9,10,11,12,13,14,15,16,17,18,19,20] []]))
 (.cond (.t 61)
 (.seq (.reg [sq 4 (.mv (kB false))])
 .ret)
 .skip))
 (.seq (.reg [sq 62 (.fieldA 3 (.t 8)),
sq 63 (.load none (.t 62))])
 (.cond (.t 63)
 (.reg [sq 64 (.mv (.t 6)),
sq 65 (.bin .add (.t 64) (kI 1)),
sq 6 (.mv (.t 65))])
 .skip))))))
 (.reg [sq 66 (.bin .add (.t 35) (kI 1)),
sq 35 (.mv (.t 66))]))))))))
 (.seq (.reg [sq 9 (.mv (kI 0))])
 (.seq (.seq (.reg [sq 67 (.mv (.t 1)),
sq 68 (.len (.t 67)),
sq 69 (.mv (kI 0))])
 (.sem (.block 2 (.loop (.seq (.reg [sq 70 (.bin .lss (.t 69) (.t 68))])
 (.seq (.cond (.t 70)
 .skip
 (.exit 2))
 (.seq (.sem (.block 3 (.seq (.reg [sq 71 (.indexA 32 (.t 67) (.t 69)),
sq 72 (.load (some 32) (.t 71)),
sq 11 (.zbox [dS ⟨#[]⟩,dS ⟨#[]⟩,dS ⟨#[]⟩,dI 0,dI 0,dI 0,dI 0,dB false,dI 0,dN,dN,dN,dN,dS ⟨#[]⟩,dI 0,dI 0,dI 0,dN,dN,dN,dN,dN,dN,dI 0,dB false,dI 0,dI 0,dI 0,dN,dI 0,dS ⟨#[]⟩,dS ⟨#[]⟩]),
su (.store 32 (.t 11) (.t 72))])
 (.seq (.seq (.sem (.reg [sq 73 (.fieldA 0 (.t 11)),
sq 74 (.fieldA 1 (.t 73)),
sq 75 (.load none (.t 74)),
sq 76 (.fieldA 0 (.t 2)),
sq 77 (.fieldA 1 (.t 76)),
sq 78 (.load none (.t 77)),
sq 79 (.bin .neq (.t 75) (.t 78)),
sq 80 (.mv (.t 79)),
zg 81 80 false (.fieldA 13 (.t 2)),
zg 82 80 false (.load none (.t 81)),
zg 83 80 false (.fieldA 0 (.t 11)),
zg 84 80 false (.fieldA 9 (.t 83)),
zg 85 80 false (.load none (.t 84)),
zg 86 80 false (.call 18 [(.t 82),(.t 85)]),
zg 87 80 false (.not (.t 86)),
sq 88 (.pick (.t 80) (kB true) (.t 87)),
sq 89 (.mv (.t 88)),
zg 90 89 false (.fieldA 23 (.t 11)),
zg 91 89 false (.fieldA 6 (.t 90)),
zg 92 89 false (.load none (.t 91)),
zg 93 89 false (.bin .leq (.t 92) (kI 0)),
sq 94 (.pick (.t 89) (kB true) (.t 93)),
sq 95 (.mv (.t 94)),
zg 96 95 false (.fieldA 23 (.t 11)),
zg 97 95 false (.fieldA 0 (.t 96)),
zg 98 95 false (.load none (.t 97)),
zg 99 95 false (.bin .neq (.t 98) (kI 0)),
zg 100 95 false (.mv (.t 99)),
zg 101 100 true (.fieldA 23 (.t 11)),
zg 102 100 true (.fieldA 0 (.t 101)),
zg 103 100 true (.load none (.t 102)),
zg 104 100 true (.bin .neq (.t 103) (kI 1)),
zg 105 95 false (.pick (.t 100) (.t 104) (kB false)),
sq 106 (.pick (.t 95) (kB true) (.t 105)),
sq 107 (.mv (.t 106)),
zg 108 107 false (.fieldA 23 (.t 11)),
zg 109 107 false (.fieldA 1 (.t 108)),
zg 110 107 false (.load none (.t 109)),
zg 111 107 false (.not (.t 110)),
sq 112 (.pick (.t 107) (kB true) (.t 111)),
sq 113 (.mv (.t 112)),
zg 114 113 false (.fieldA 0 (.t 11)),
zg 115 113 false (.fieldA 7 (.t 114)),
zg 116 113 false (.load none (.t 115)),
sq 117 (.pick (.t 113) (kB true) (.t 116))]))
 (.cond (.t 117)
 (.exit 3)
 .skip))
 (.seq (.reg [sq 118 (.mv (.t 9)),
sq 119 (.bin .add (.t 118) (kI 1)),
sq 9 (.mv (.t 119))])
 (.seq (.reg [sq 12 (.mv (kB false))])
 (.seq (.seq (.reg [sq 120 (.fieldA 14 (.t 5)),
sq 121 (.load none (.t 120)),
sq 122 (.len (.t 121)),
sq 123 (.mv (kI 0))])
 (.sem (.block 4 (.loop (.seq (.reg [sq 124 (.bin .lss (.t 123) (.t 122))])
 (.seq (.cond (.t 124)
 .skip
 (.exit 4))
 (.seq (.sem (.block 5 (.seq (.reg [sq 125 (.indexA 5 (.t 121) (.t 123)),
sq 126 (.load (some 5) (.t 125)),
sq 14 (.zbox [dS ⟨#[]⟩,dS ⟨#[]⟩,dI 0,dB false,dB false]),
su (.store 5 (.t 14) (.t 126))])
 (.regd [sq 127 (.mv (.t 12)),
sd 128 (.mv (.t 127)) [0],
⟨(some 129),(some (128,false)),.fieldA 0 (.t 14),[0,1],(.new [])⟩,
⟨(some 130),(some (128,false)),.load none (.t 129),[0,1,2],(.new [])⟩,
⟨(some 131),(some (128,false)),.fieldA 0 (.t 11),[0,1],(.new [])⟩,
⟨(some 132),(some (128,false)),.load (some 13) (.t 131),[0,1,4],(.new [])⟩,
⟨(some 133),(some (128,false)),.call 19 [(.t 132)],[0,1,4,5],(.lone [14,129])⟩,
⟨(some 134),(some (128,false)),.bin .eql (.t 130) (.t 133),[0,1,2,3,4,5,6],(.new [])⟩,
⟨(some 135),(some (128,false)),.mv (.t 134),[0,1,2,3,4,5,6,7],(.new [])⟩,
⟨(some 136),(some (135,true)),.fieldA 3 (.t 14),[0,1,2,3,4,5,6,7,8],(.new [])⟩,
⟨(some 137),(some (135,true)),.load none (.t 136),[0,1,2,3,4,5,6,7,8,9],(.new [])⟩,
⟨(some 138),(some (128,false)),.pick (.t 135) (.t 137) (kB false),[0,1,2,3,4,5,6,7,8,9,10],(.lone [])⟩,
⟨(some 139),(some (128,false)),.mv (.t 138),[0,1,2,3,4,5,6,7,8,9,10,11],(.new [])⟩,
⟨(some 140),(some (139,true)),.fieldA 2 (.t 14),[0,1,2,3,4,5,6,7,8,9,10,11,12],(.new [])⟩,
⟨(some 141),(some (139,true)),.load none (.t 140),[0,1,2,3,4,5,6,7,8,9,10,11,12,13],(.new [])⟩,
⟨(some 142),(some (139,true)),.fieldA 23 (.t 11),[0,1,2,3,4,5,6,7,8,9,10,11,12],(.new [])⟩,
⟨(some 143),(some (139,true)),.fieldA 6 (.t 142),[0,1,2,3,4,5,6,7,8,9,10,11,12,15],(.new [])⟩,
⟨(some 144),(some (139,true)),.load none (.t 143),[0,1,2,3,4,5,6,7,8,9,10,11,12,15,16],(.new [])⟩,
⟨(some 145),(some (139,true)),.bin .eql (.t 141) (.t 144),[0,1,2,3,4,5,6,7,8,9,10,11,12,13,14,15,16,17],(.new [])⟩,
⟨(some 146),(some (128,false)),.pick (.t 139) (.t 145) (kB false),[0,1,2,3,4,5,6,7,8,9,10,11,12,13,14,15,16,17,18],(.lone [])⟩,
⟨(some 147),(some (128,false)),.mv (.t 146),[0,1,2,3,4,5,6,7,8,9,10,11,12,13,14,15,16,17,18,19],(.new [])⟩,
⟨(some 148),(some (147,true)),.fieldA 1 (.t 14),[0,1,2,3,4,5,6,7,8,9,10,11,12,13,14,15,16,17,18,19,20],(.new [])⟩,
⟨(some 149),(some (147,true)),.load none (.t 148),[0,1,2,3,4,5,6,7,8,9,10,11,12,13,14,15,16,17,18,19,20,21],(.new [])⟩,
⟨(some 150),(some (147,true)),.fieldA 13 (.t 11),[0,1,2,3,4,5,6,7,8,9,10,11,12,13,14,15,16,17,18,19,20],(.new [])⟩,
⟨(some 151),(some (147,true)),.fieldA 0 (.t 150),[0,1,2,3,4,5,6,7,8,9,10,11,12,13,14,15,16,17,18,19,20,23],(.new [])⟩,
⟨(some 152),(some (147,true)),.load none (.t 151),[0,1,2,3,4,5,6,7,8,9,10,11,12,13,14,15,16,17,18,19,20,23,24],(.new [])⟩,
⟨(some 153),(some (147,true)),.bin .eql (.t 149) (.t 152),[0,1,2,3,4,5,6,7,8,9,10,11,12,13,14,15,16,17,18,19,20,21,22,23,24,25],(.new [])⟩,
⟨(some 154),(some (128,false)),.pick (.t 147) (.t 153) (kB false),[0,1,2,3,4,5,6,7,8,9,10,11,12,13,14,15,16,17,18,19,20,21,22,23,24,25,26],(.lone [])⟩,
zl 155 (.pick (.t 128) (kB true) (.t 154)) [0,1,2,3,4,5,6,7,8,9,10,11,12,13,14,15,16,17,18,19,20,21,22,23,24,25,26,27] [],
sd 12 (.mv (.t 155)) [0,1,2,3,4,5,6,7,8,9,10,11,12,13,14,15,16,17,18,19,20,21,22,23,24,25,26,27,28]]))))
 (.reg [sq 156 (.bin .add (.t 123) (kI 1)),
sq 123 (.mv (.t 156))]))))))))
 (.seq (.reg [sq 157 (.mv (.t 12)),
sq 158 (.not (.t 157))])
 (.cond (.t 158)
 (.seq (.reg [sq 4 (.mv (kB false))])
 .ret)
 .skip)))))))))
 (.reg [sq 159 (.bin .add (.t 69) (kI 1)),
sq 69 (.mv (.t 159))]))))))))
 (.seq (.sem (.reg [sq 160 (.mv (.t 6)),
sq 161 (.mv (.t 9)),
sq 162 (.bin .eql (.t 160) (.t 161)),
sq 163 (.mv (.t 162)),
zg 164 163 true (.call 9 []),
sq 165 (.pick (.t 163) (.t 164) (kB false)),
sq 4 (.mv (.t 165))]))
 .ret))))))))⟩
theorem F5_ok{x0 x1 r}(h:F5 x0 x1=some r):CallD Try.prog 5 [.agg [dS x0.Meta.Kind,dS x0.Meta.Namespace,dS x0.Meta.Name,dI x0.Meta.Uid,dI x0.Meta.Version,dI x0.Meta.Generation,dI x0.Meta.Created,dB x0.Meta.Deleting,dI x0.Meta.DeleteAt,dM (x0.Meta.Labels.map eLabel),dM (x0.Meta.Owners.map eOwner),dM (x0.Meta.Finalizers.map eS),dM (x0.Meta.Managers.map eManager),dM (x0.Selector.map eRequirement),dM (x0.Ports.map eServicePort),dB x0.Sticky,dI x0.Address],.c (dM (x1.map ePod))] [] (tupV [.c (dB r)]) []:=by
 rw[F5]at h
 refine zc a5 (by kernel_rfl) rfl (ww ?_)
 obtain⟨o1,ho,h⟩:=bi h
 refine cutS (fun s=>s=⟨[(1,.one (.c (dM (x1.map ePod)))),(2,.one (.c (.pt 0 0))),(27,.one (.c (dB o1)))],[some (.box [dS x0.Meta.Kind,dS x0.Meta.Namespace,dS x0.Meta.Name,dI x0.Meta.Uid,dI x0.Meta.Version,dI x0.Meta.Generation,dI x0.Meta.Created,dB x0.Meta.Deleting,dI x0.Meta.DeleteAt,dM (x0.Meta.Labels.map eLabel),dM (x0.Meta.Owners.map eOwner),dM (x0.Meta.Finalizers.map eS),dM (x0.Meta.Managers.map eManager),dM (x0.Selector.map eRequirement),dM (x0.Ports.map eServicePort),dB x0.Sticky,dI x0.Address])]⟩) ?_ ?_
 ·have h:=ho
  clear ho
  refine ww ?_
  obtain⟨t2,ht2,h⟩:=bi h
  refine cN [] (F7_ok ht2) trivial (ww ?_)
  refine guardSBh h (fun g3 h=>?_) (fun g3 h=>?_)
  ·refine ww ?_
   cases h
   exact eM [some 0] rfl
  refine ww ?_
  obtain⟨t4,ht4,h⟩:=bi h
  refine cN [] (F8_ok ht4) trivial (ww ?_)
  refine guardSBh h (fun g5 h=>?_) (fun g5 h=>?_)
  ·refine ww ?_
   cases h
   exact eM [some 0] rfl
  refine ww ?_
  obtain⟨t6,ht6,h⟩:=bi h
  refine cN [] (F17_ok ht6) trivial (ww ?_)
  cases h
  exact eM [some 0] rfl
 rintro _ rfl
 clear ho
 refine ww ?_
 refine condBh h (fun c7 h=>?_) (fun c7 h=>?_)
 ·refine ww ?_
  obtain⟨t8,ht8,h⟩:=bi h
  refine cN [] (F9_ok ht8) trivial (ww ?_)
  cases h
  exact eF []
 refine ww ?_
 obtain⟨t9,ht9,h⟩:=bi h
 refine cN [] (F10_ok ht9) trivial (ww ?_)
 obtain⟨o10,ho,h⟩:=bi h
 refine cutS (fun s=>∃po10,o10=Sum.inr po10∧s=⟨[(1,.one (.c (dM (x1.map ePod)))),(2,.one (.c (.pt 0 0))),(5,.one (.c (.pt 1 0))),(6,.one (.c (dI po10)))],[some (.box [dS x0.Meta.Kind,dS x0.Meta.Namespace,dS x0.Meta.Name,dI x0.Meta.Uid,dI x0.Meta.Version,dI x0.Meta.Generation,dI x0.Meta.Created,dB x0.Meta.Deleting,dI x0.Meta.DeleteAt,dM (x0.Meta.Labels.map eLabel),dM (x0.Meta.Owners.map eOwner),dM (x0.Meta.Finalizers.map eS),dM (x0.Meta.Managers.map eManager),dM (x0.Selector.map eRequirement),dM (x0.Ports.map eServicePort),dB x0.Sticky,dI x0.Address]),some (.box [dS ((⟨#[69,110,100,112,111,105,110,116,83,101,116]⟩:ByteArray)),dS x0.Meta.Namespace,dS x0.Meta.Name,dI 0,dI 0,dI 0,dI 0,dB false,dI 0,dM (([]:List Label).map eLabel),dM (([]:List Owner).map eOwner),dM (([]:List ByteArray).map eS),dM (([]:List Manager).map eManager),.own 2 0 0 (t9.1.length) none,.own 3 0 0 (t9.2.length) none]),some (.arr 0 3 (t9.1.map eServicePort)),some (.arr 0 5 (t9.2.map eEndpoint))]⟩) ?_ ?_
 ·have h0o10:=h
  have h:=ho
  clear ho
  obtain⟨_,hk,h⟩:=bi h
  have hk:=ck_some hk
  refine ww ?_
  refine bL (fun j s=>∃(o10_1:Nat) (o10_0:Int),(o10_1≤t9.2.length∧j=t9.2.length-o10_1)∧s=⟨[(1,.one (.c (dM (x1.map ePod)))),(2,.one (.c (.pt 0 0))),(5,.one (.c (.pt 1 0))),(6,.one (.c (dI o10_0))),(33,.one (.c (.own 3 0 0 (t9.2.length) none))),(34,.one (.c (dI ((t9.2.length:Int))))),(35,.one (.c (dI ((o10_1:Int)))))],[some (.box [dS x0.Meta.Kind,dS x0.Meta.Namespace,dS x0.Meta.Name,dI x0.Meta.Uid,dI x0.Meta.Version,dI x0.Meta.Generation,dI x0.Meta.Created,dB x0.Meta.Deleting,dI x0.Meta.DeleteAt,dM (x0.Meta.Labels.map eLabel),dM (x0.Meta.Owners.map eOwner),dM (x0.Meta.Finalizers.map eS),dM (x0.Meta.Managers.map eManager),dM (x0.Selector.map eRequirement),dM (x0.Ports.map eServicePort),dB x0.Sticky,dI x0.Address]),some (.box [dS ((⟨#[69,110,100,112,111,105,110,116,83,101,116]⟩:ByteArray)),dS x0.Meta.Namespace,dS x0.Meta.Name,dI 0,dI 0,dI 0,dI 0,dB false,dI 0,dM (([]:List Label).map eLabel),dM (([]:List Owner).map eOwner),dM (([]:List ByteArray).map eS),dM (([]:List Manager).map eManager),.own 2 0 0 (t9.1.length) none,.own 3 0 0 (t9.2.length) none]),some (.arr 0 3 (t9.1.map eServicePort)),some (.arr 0 5 (t9.2.map eEndpoint))]⟩∧F5_l10 t9 (t9.2.drop o10_1) o10_1 o10_0=some o10) (t9.2.length-0) [some 0,some 3,some 1,some 2] ⟨0,0,⟨hk.1,rfl⟩,rfl,h⟩ ?_
  rintro _ _ ⟨o10_1,o10_0,⟨hi,rfl⟩,rfl,h⟩
  refine ww ?_
  refine condS (fun c11=>?_) (fun c11=>?_)
  ·obtain⟨xo10,hxo10,hd⟩:=countY (show(o10_1:Int)<(t9.2.length:Int)from c11)
   rw[hd,F5_l10]at h
   refine ww ?_
   obtain⟨o12,ho,h⟩:=bi h
   refine cutS (fun s=>∃po12,o12=Sum.inr po12∧s=⟨[(1,.one (.c (dM (x1.map ePod)))),(2,.one (.c (.pt 0 0))),(5,.one (.c (.pt 1 0))),(6,.one (.c (dI po12))),(33,.one (.c (.own 3 0 0 (t9.2.length) none))),(34,.one (.c (dI ((t9.2.length:Int))))),(35,.one (.c (dI ((o10_1:Int)))))],[some (.box [dS x0.Meta.Kind,dS x0.Meta.Namespace,dS x0.Meta.Name,dI x0.Meta.Uid,dI x0.Meta.Version,dI x0.Meta.Generation,dI x0.Meta.Created,dB x0.Meta.Deleting,dI x0.Meta.DeleteAt,dM (x0.Meta.Labels.map eLabel),dM (x0.Meta.Owners.map eOwner),dM (x0.Meta.Finalizers.map eS),dM (x0.Meta.Managers.map eManager),dM (x0.Selector.map eRequirement),dM (x0.Ports.map eServicePort),dB x0.Sticky,dI x0.Address]),some (.box [dS ((⟨#[69,110,100,112,111,105,110,116,83,101,116]⟩:ByteArray)),dS x0.Meta.Namespace,dS x0.Meta.Name,dI 0,dI 0,dI 0,dI 0,dB false,dI 0,dM (([]:List Label).map eLabel),dM (([]:List Owner).map eOwner),dM (([]:List ByteArray).map eS),dM (([]:List Manager).map eManager),.own 2 0 0 (t9.1.length) none,.own 3 0 0 (t9.2.length) none]),some (.arr 0 3 (t9.1.map eServicePort)),some (.arr 0 5 (t9.2.map eEndpoint))]⟩) ?_ ?_
   ·have h0o12:=h
    have h:=ho
    clear ho
    refine ww ?_
    obtain⟨y13,hy13,h⟩:=bi h
    refine t_idxO (enc:=eEndpoint) (xs:=t9.2) rfl rfl rfl (by first|rfl|simp only[List.length_set]|exact(clrL_len (slI_len (by assumption))).symm) hy13 (ww ?_)
    refine LdRow.rd (rdI_some hy13).2.1 (ww ?_)
    obtain⟨o14,ho,h⟩:=bi h
    refine cutS (fun s=>s=⟨[(1,.one (.c (dM (x1.map ePod)))),(2,.one (.c (.pt 0 0))),(5,.one (.c (.pt 1 0))),(6,.one (.c (dI o10_0))),(8,.one (.c (.pt 4 0))),(33,.one (.c (.own 3 0 0 (t9.2.length) none))),(34,.one (.c (dI ((t9.2.length:Int))))),(35,.one (.c (dI ((o10_1:Int))))),(61,.one (.c (dB o14)))],[some (.box [dS x0.Meta.Kind,dS x0.Meta.Namespace,dS x0.Meta.Name,dI x0.Meta.Uid,dI x0.Meta.Version,dI x0.Meta.Generation,dI x0.Meta.Created,dB x0.Meta.Deleting,dI x0.Meta.DeleteAt,dM (x0.Meta.Labels.map eLabel),dM (x0.Meta.Owners.map eOwner),dM (x0.Meta.Finalizers.map eS),dM (x0.Meta.Managers.map eManager),dM (x0.Selector.map eRequirement),dM (x0.Ports.map eServicePort),dB x0.Sticky,dI x0.Address]),some (.box [dS ((⟨#[69,110,100,112,111,105,110,116,83,101,116]⟩:ByteArray)),dS x0.Meta.Namespace,dS x0.Meta.Name,dI 0,dI 0,dI 0,dI 0,dB false,dI 0,dM (([]:List Label).map eLabel),dM (([]:List Owner).map eOwner),dM (([]:List ByteArray).map eS),dM (([]:List Manager).map eManager),.own 2 0 0 (t9.1.length) none,.own 3 0 0 (t9.2.length) none]),some (.arr 0 3 (t9.1.map eServicePort)),some (.arr 0 5 (t9.2.map eEndpoint)),some (.box [dS y13.Pod,dS y13.Node,dI y13.Address,dB y13.Ready,dB y13.Terminating])]⟩) ?_ ?_
    ·have h:=ho
     clear ho
     refine ww ?_
     refine guardDBh h (fun g15 h=>?_) (fun g15 h=>?_)
     ·refine ww ?_
      refine guardDBh h (fun g16 h=>?_) (fun g16 h=>?_)
      ·refine ww ?_
       cases h
       exact eM [some 0,some 1,some 2,some 3,some 4] rfl
      refine ww ?_
      refine guardDh h (fun g17 h=>?_) (fun g17 h=>?_)
      ·refine ww ?_
       obtain⟨y18,hy18,h⟩:=bi h
       refine t_idxO (enc:=eEndpoint) (xs:=t9.2) rfl rfl rfl (by first|rfl|simp only[List.length_set]|exact(clrL_len (slI_len (by assumption))).symm) hy18 (ww ?_)
       refine LdRow.rd (rdI_some hy18).2.1 (ww ?_)
       cases h
       exact eM [some 0,some 1,some 2,some 3,some 4] rfl
      refine ww ?_
      cases h
      exact eM [some 0,some 1,some 2,some 3,some 4] rfl
     refine ww ?_
     refine guardDh h (fun g19 h=>?_) (fun g19 h=>?_)
     ·refine ww ?_
      obtain⟨y20,hy20,h⟩:=bi h
      refine t_idxO (enc:=eEndpoint) (xs:=t9.2) rfl rfl rfl (by first|rfl|simp only[List.length_set]|exact(clrL_len (slI_len (by assumption))).symm) hy20 (ww ?_)
      refine LdRow.rd (rdI_some hy20).2.1 (ww ?_)
      cases h
      exact eM [some 0,some 1,some 2,some 3,some 4] rfl
     refine ww ?_
     cases h
     exact eM [some 0,some 1,some 2,some 3,some 4] rfl
    rintro _ rfl
    clear ho
    refine ww ?_
    refine condBh h (fun c21 h=>?_) (fun c21 h=>?_)
    ·refine ww ?_
     obtain⟨fh0o12,hfh0o12,rfl⟩:=Option.map_eq_some_iff.1 h
     have h:=hfh0o12.trans h0o12
     obtain⟨fh0o10,hfh0o10,rfl⟩:=Option.map_eq_some_iff.1 h
     have h:=hfh0o10.trans h0o10
     cases h
     exact eF []
    refine ww ?_
    refine condBh h (fun c22 h=>?_) (fun c22 h=>?_)
    ·refine ww ?_
     cases h
     exact eM [some 0,some 1,some 2,some 3] ⟨_,rfl,rfl⟩
    refine ww ?_
    cases h
    exact eM [some 0,some 1,some 2,some 3] ⟨_,rfl,rfl⟩
   rintro _ ⟨po12,rfl,rfl⟩
   clear ho
   dsimp only at h
   refine ww ?_
   rw[wrapN (by omega)]
   exact eL' (t9.2.length-(o10_1+1)) [some 0,some 1,some 2,some 3] ⟨o10_1+1,po12,⟨by omega,rfl⟩,rfl,h⟩ (by omega)
  rw[countN (show¬((o10_1:Int)<(t9.2.length:Int))from c11),F5_l10]at h
  refine ww ?_
  cases h
  exact eM [some 0,some 1,some 2,some 3] ⟨_,rfl,rfl⟩
 rintro _ ⟨po10,rfl,rfl⟩
 clear ho
 dsimp only at h
 refine ww ?_
 obtain⟨o24,ho,h⟩:=bi h
 refine cutS (fun s=>∃po24,o24=Sum.inr po24∧s=⟨[(6,.one (.c (dI po10))),(9,.one (.c (dI po24)))],[]⟩) ?_ ?_
 ·have h0o24:=h
  have h:=ho
  clear ho
  obtain⟨_,hk,h⟩:=bi h
  have hk:=ck_some hk
  refine ww ?_
  refine bL (fun j s=>∃(o24_1:Nat) (o24_0:Int),(o24_1≤x1.length∧j=x1.length-o24_1)∧s=⟨[(2,.one (.c (.pt 0 0))),(5,.one (.c (.pt 1 0))),(6,.one (.c (dI po10))),(9,.one (.c (dI o24_0))),(67,.one (.c (dM (x1.map ePod)))),(68,.one (.c (dI ((x1.length:Int))))),(69,.one (.c (dI ((o24_1:Int)))))],[some (.box [dS x0.Meta.Kind,dS x0.Meta.Namespace,dS x0.Meta.Name,dI x0.Meta.Uid,dI x0.Meta.Version,dI x0.Meta.Generation,dI x0.Meta.Created,dB x0.Meta.Deleting,dI x0.Meta.DeleteAt,dM (x0.Meta.Labels.map eLabel),dM (x0.Meta.Owners.map eOwner),dM (x0.Meta.Finalizers.map eS),dM (x0.Meta.Managers.map eManager),dM (x0.Selector.map eRequirement),dM (x0.Ports.map eServicePort),dB x0.Sticky,dI x0.Address]),some (.box [dS ((⟨#[69,110,100,112,111,105,110,116,83,101,116]⟩:ByteArray)),dS x0.Meta.Namespace,dS x0.Meta.Name,dI 0,dI 0,dI 0,dI 0,dB false,dI 0,dM (([]:List Label).map eLabel),dM (([]:List Owner).map eOwner),dM (([]:List ByteArray).map eS),dM (([]:List Manager).map eManager),.own 2 0 0 (t9.1.length) none,.own 3 0 0 (t9.2.length) none]),some (.arr 0 3 (t9.1.map eServicePort)),some (.arr 0 5 (t9.2.map eEndpoint))]⟩∧F5_l24 t9 x0 (x1.drop o24_1) o24_1 o24_0=some o24) (x1.length-0) [some 0,some 1,some 2,some 3] ⟨0,0,⟨hk.1,rfl⟩,rfl,h⟩ ?_
  rintro _ _ ⟨o24_1,o24_0,⟨hi,rfl⟩,rfl,h⟩
  refine ww ?_
  refine condS (fun c25=>?_) (fun c25=>?_)
  ·obtain⟨xo24,hxo24,hd⟩:=countY (show(o24_1:Int)<(x1.length:Int)from c25)
   rw[hd,F5_l24]at h
   refine ww ?_
   obtain⟨o26,ho,h⟩:=bi h
   refine cutS (fun s=>∃po26,o26=Sum.inr po26∧s=⟨[(2,.one (.c (.pt 0 0))),(5,.one (.c (.pt 1 0))),(6,.one (.c (dI po10))),(9,.one (.c (dI po26))),(67,.one (.c (dM (x1.map ePod)))),(68,.one (.c (dI ((x1.length:Int))))),(69,.one (.c (dI ((o24_1:Int)))))],[some (.box [dS x0.Meta.Kind,dS x0.Meta.Namespace,dS x0.Meta.Name,dI x0.Meta.Uid,dI x0.Meta.Version,dI x0.Meta.Generation,dI x0.Meta.Created,dB x0.Meta.Deleting,dI x0.Meta.DeleteAt,dM (x0.Meta.Labels.map eLabel),dM (x0.Meta.Owners.map eOwner),dM (x0.Meta.Finalizers.map eS),dM (x0.Meta.Managers.map eManager),dM (x0.Selector.map eRequirement),dM (x0.Ports.map eServicePort),dB x0.Sticky,dI x0.Address]),some (.box [dS ((⟨#[69,110,100,112,111,105,110,116,83,101,116]⟩:ByteArray)),dS x0.Meta.Namespace,dS x0.Meta.Name,dI 0,dI 0,dI 0,dI 0,dB false,dI 0,dM (([]:List Label).map eLabel),dM (([]:List Owner).map eOwner),dM (([]:List ByteArray).map eS),dM (([]:List Manager).map eManager),.own 2 0 0 (t9.1.length) none,.own 3 0 0 (t9.2.length) none]),some (.arr 0 3 (t9.1.map eServicePort)),some (.arr 0 5 (t9.2.map eEndpoint))]⟩) ?_ ?_
   ·have h0o26:=h
    have h:=ho
    clear ho
    refine ww ?_
    refine t_idxF (enc:=ePod) (xs:=x1) rfl rfl hxo24 rfl (ww ?_)
    obtain⟨o27,ho,h⟩:=bi h
    refine cutS (fun s=>s=⟨[(2,.one (.c (.pt 0 0))),(5,.one (.c (.pt 1 0))),(6,.one (.c (dI po10))),(9,.one (.c (dI o24_0))),(11,.one (.c (.pt 4 0))),(67,.one (.c (dM (x1.map ePod)))),(68,.one (.c (dI ((x1.length:Int))))),(69,.one (.c (dI ((o24_1:Int))))),(117,.one (.c (dB o27)))],[some (.box [dS x0.Meta.Kind,dS x0.Meta.Namespace,dS x0.Meta.Name,dI x0.Meta.Uid,dI x0.Meta.Version,dI x0.Meta.Generation,dI x0.Meta.Created,dB x0.Meta.Deleting,dI x0.Meta.DeleteAt,dM (x0.Meta.Labels.map eLabel),dM (x0.Meta.Owners.map eOwner),dM (x0.Meta.Finalizers.map eS),dM (x0.Meta.Managers.map eManager),dM (x0.Selector.map eRequirement),dM (x0.Ports.map eServicePort),dB x0.Sticky,dI x0.Address]),some (.box [dS ((⟨#[69,110,100,112,111,105,110,116,83,101,116]⟩:ByteArray)),dS x0.Meta.Namespace,dS x0.Meta.Name,dI 0,dI 0,dI 0,dI 0,dB false,dI 0,dM (([]:List Label).map eLabel),dM (([]:List Owner).map eOwner),dM (([]:List ByteArray).map eS),dM (([]:List Manager).map eManager),.own 2 0 0 (t9.1.length) none,.own 3 0 0 (t9.2.length) none]),some (.arr 0 3 (t9.1.map eServicePort)),some (.arr 0 5 (t9.2.map eEndpoint)),some (.box [dS xo24.Meta.Kind,dS xo24.Meta.Namespace,dS xo24.Meta.Name,dI xo24.Meta.Uid,dI xo24.Meta.Version,dI xo24.Meta.Generation,dI xo24.Meta.Created,dB xo24.Meta.Deleting,dI xo24.Meta.DeleteAt,dM (xo24.Meta.Labels.map eLabel),dM (xo24.Meta.Owners.map eOwner),dM (xo24.Meta.Finalizers.map eS),dM (xo24.Meta.Managers.map eManager),dS xo24.Spec.Node,dI xo24.Spec.Priority,dI xo24.Spec.Restart,dI xo24.Spec.Grace,dM (xo24.Spec.Containers.map eContainer),dM (xo24.Spec.NodeSelector.map eRequirement),dM (xo24.Spec.NodeTerms.map eNodeTerm),dM (xo24.Spec.PodTerms.map ePodTerm),dM (xo24.Spec.Spread.map eSpreadRule),dM (xo24.Spec.Tolerations.map eToleration),dI xo24.Status.Phase,dB xo24.Status.Ready,dI xo24.Status.ReadySince,dI xo24.Status.Started,dI xo24.Status.Finished,dM (xo24.Status.Containers.map eContainerStatus),dI xo24.Status.Address,dS xo24.Status.Nominated,dS xo24.Status.Reason])]⟩) ?_ ?_
    ·have h:=ho
     clear ho
     refine ww ?_
     refine guardSh h (fun g28 h=>?_) (fun g28 h=>?_)
     ·refine ww ?_
      cases h
      exact eM [some 0,some 1,some 2,some 3,some 4] rfl
     refine ww ?_
     obtain⟨t29,ht29,h⟩:=bi h
     refine cN [] (F18_ok ht29) trivial (ww ?_)
     refine guardSBh h (fun g30 h=>?_) (fun g30 h=>?_)
     ·refine ww ?_
      cases h
      exact eM [some 0,some 1,some 2,some 3,some 4] rfl
     refine ww ?_
     refine guardSh h (fun g31 h=>?_) (fun g31 h=>?_)
     ·refine ww ?_
      cases h
      exact eM [some 0,some 1,some 2,some 3,some 4] rfl
     refine ww ?_
     refine guardSh h (fun g32 h=>?_) (fun g32 h=>?_)
     ·refine ww ?_
      refine guardSh h (fun g33 h=>?_) (fun g33 h=>?_)
      ·refine ww ?_
       cases h
       exact eM [some 0,some 1,some 2,some 3,some 4] rfl
      refine ww ?_
      refine guardSBh h (fun g34 h=>?_) (fun g34 h=>?_)
      ·refine ww ?_
       cases h
       exact eM [some 0,some 1,some 2,some 3,some 4] rfl
      refine ww ?_
      cases h
      exact eM [some 0,some 1,some 2,some 3,some 4] rfl
     refine ww ?_
     refine guardSBh h (fun g35 h=>?_) (fun g35 h=>?_)
     ·refine ww ?_
      cases h
      exact eM [some 0,some 1,some 2,some 3,some 4] rfl
     refine ww ?_
     cases h
     exact eM [some 0,some 1,some 2,some 3,some 4] rfl
    rintro _ rfl
    clear ho
    refine ww ?_
    refine condBh h (fun c36 h=>?_) (fun c36 h=>?_)
    ·refine ww ?_
     cases h
     exact eM [some 0,some 1,some 2,some 3] ⟨_,rfl,rfl⟩
    refine ww ?_
    obtain⟨o37,ho,h⟩:=bi h
    refine cutS (fun s=>s=⟨[(2,.one (.c (.pt 0 0))),(5,.one (.c (.pt 1 0))),(6,.one (.c (dI po10))),(9,.one (.c (dI ((IntKind.i64.wrap (o24_0+1)))))),(12,.one (.c (dB o37))),(67,.one (.c (dM (x1.map ePod)))),(68,.one (.c (dI ((x1.length:Int))))),(69,.one (.c (dI ((o24_1:Int)))))],[some (.box [dS x0.Meta.Kind,dS x0.Meta.Namespace,dS x0.Meta.Name,dI x0.Meta.Uid,dI x0.Meta.Version,dI x0.Meta.Generation,dI x0.Meta.Created,dB x0.Meta.Deleting,dI x0.Meta.DeleteAt,dM (x0.Meta.Labels.map eLabel),dM (x0.Meta.Owners.map eOwner),dM (x0.Meta.Finalizers.map eS),dM (x0.Meta.Managers.map eManager),dM (x0.Selector.map eRequirement),dM (x0.Ports.map eServicePort),dB x0.Sticky,dI x0.Address]),some (.box [dS ((⟨#[69,110,100,112,111,105,110,116,83,101,116]⟩:ByteArray)),dS x0.Meta.Namespace,dS x0.Meta.Name,dI 0,dI 0,dI 0,dI 0,dB false,dI 0,dM (([]:List Label).map eLabel),dM (([]:List Owner).map eOwner),dM (([]:List ByteArray).map eS),dM (([]:List Manager).map eManager),.own 2 0 0 (t9.1.length) none,.own 3 0 0 (t9.2.length) none]),some (.arr 0 3 (t9.1.map eServicePort)),some (.arr 0 5 (t9.2.map eEndpoint))]⟩) ?_ ?_
    ·have h:=ho
     clear ho
     obtain⟨_,hk,h⟩:=bi h
     have hk:=ck_some hk
     refine ww ?_
     refine bL (fun j s=>∃(o37_1:Nat) (o37_0:Bool),(o37_1≤t9.2.length∧j=t9.2.length-o37_1)∧s=⟨[(2,.one (.c (.pt 0 0))),(5,.one (.c (.pt 1 0))),(6,.one (.c (dI po10))),(9,.one (.c (dI ((IntKind.i64.wrap (o24_0+1)))))),(11,.one (.c (.pt 4 0))),(12,.one (.c (dB o37_0))),(67,.one (.c (dM (x1.map ePod)))),(68,.one (.c (dI ((x1.length:Int))))),(69,.one (.c (dI ((o24_1:Int))))),(121,.one (.c (.own 3 0 0 (t9.2.length) none))),(122,.one (.c (dI ((t9.2.length:Int))))),(123,.one (.c (dI ((o37_1:Int)))))],[some (.box [dS x0.Meta.Kind,dS x0.Meta.Namespace,dS x0.Meta.Name,dI x0.Meta.Uid,dI x0.Meta.Version,dI x0.Meta.Generation,dI x0.Meta.Created,dB x0.Meta.Deleting,dI x0.Meta.DeleteAt,dM (x0.Meta.Labels.map eLabel),dM (x0.Meta.Owners.map eOwner),dM (x0.Meta.Finalizers.map eS),dM (x0.Meta.Managers.map eManager),dM (x0.Selector.map eRequirement),dM (x0.Ports.map eServicePort),dB x0.Sticky,dI x0.Address]),some (.box [dS ((⟨#[69,110,100,112,111,105,110,116,83,101,116]⟩:ByteArray)),dS x0.Meta.Namespace,dS x0.Meta.Name,dI 0,dI 0,dI 0,dI 0,dB false,dI 0,dM (([]:List Label).map eLabel),dM (([]:List Owner).map eOwner),dM (([]:List ByteArray).map eS),dM (([]:List Manager).map eManager),.own 2 0 0 (t9.1.length) none,.own 3 0 0 (t9.2.length) none]),some (.arr 0 3 (t9.1.map eServicePort)),some (.arr 0 5 (t9.2.map eEndpoint)),some (.box [dS xo24.Meta.Kind,dS xo24.Meta.Namespace,dS xo24.Meta.Name,dI xo24.Meta.Uid,dI xo24.Meta.Version,dI xo24.Meta.Generation,dI xo24.Meta.Created,dB xo24.Meta.Deleting,dI xo24.Meta.DeleteAt,dM (xo24.Meta.Labels.map eLabel),dM (xo24.Meta.Owners.map eOwner),dM (xo24.Meta.Finalizers.map eS),dM (xo24.Meta.Managers.map eManager),dS xo24.Spec.Node,dI xo24.Spec.Priority,dI xo24.Spec.Restart,dI xo24.Spec.Grace,dM (xo24.Spec.Containers.map eContainer),dM (xo24.Spec.NodeSelector.map eRequirement),dM (xo24.Spec.NodeTerms.map eNodeTerm),dM (xo24.Spec.PodTerms.map ePodTerm),dM (xo24.Spec.Spread.map eSpreadRule),dM (xo24.Spec.Tolerations.map eToleration),dI xo24.Status.Phase,dB xo24.Status.Ready,dI xo24.Status.ReadySince,dI xo24.Status.Started,dI xo24.Status.Finished,dM (xo24.Status.Containers.map eContainerStatus),dI xo24.Status.Address,dS xo24.Status.Nominated,dS xo24.Status.Reason])]⟩∧F5_l37 t9 xo24 (t9.2.drop o37_1) o37_1 o37_0=some o37) (t9.2.length-0) [some 0,some 1,some 2,some 3,some 4] ⟨0,false,⟨hk.1,rfl⟩,rfl,h⟩ ?_
     rintro _ _ ⟨o37_1,o37_0,⟨hi,rfl⟩,rfl,h⟩
     refine ww ?_
     refine condS (fun c38=>?_) (fun c38=>?_)
     ·obtain⟨xo37,hxo37,hd⟩:=countY (show(o37_1:Int)<(t9.2.length:Int)from c38)
      rw[hd,F5_l37]at h
      refine ww ?_
      obtain⟨o39,ho,h⟩:=bi h
      refine cutS (fun s=>s=⟨[(2,.one (.c (.pt 0 0))),(5,.one (.c (.pt 1 0))),(6,.one (.c (dI po10))),(9,.one (.c (dI ((IntKind.i64.wrap (o24_0+1)))))),(11,.one (.c (.pt 4 0))),(12,.one (.c (dB o39))),(67,.one (.c (dM (x1.map ePod)))),(68,.one (.c (dI ((x1.length:Int))))),(69,.one (.c (dI ((o24_1:Int))))),(121,.one (.c (.own 3 0 0 (t9.2.length) none))),(122,.one (.c (dI ((t9.2.length:Int))))),(123,.one (.c (dI ((o37_1:Int)))))],[some (.box [dS x0.Meta.Kind,dS x0.Meta.Namespace,dS x0.Meta.Name,dI x0.Meta.Uid,dI x0.Meta.Version,dI x0.Meta.Generation,dI x0.Meta.Created,dB x0.Meta.Deleting,dI x0.Meta.DeleteAt,dM (x0.Meta.Labels.map eLabel),dM (x0.Meta.Owners.map eOwner),dM (x0.Meta.Finalizers.map eS),dM (x0.Meta.Managers.map eManager),dM (x0.Selector.map eRequirement),dM (x0.Ports.map eServicePort),dB x0.Sticky,dI x0.Address]),some (.box [dS ((⟨#[69,110,100,112,111,105,110,116,83,101,116]⟩:ByteArray)),dS x0.Meta.Namespace,dS x0.Meta.Name,dI 0,dI 0,dI 0,dI 0,dB false,dI 0,dM (([]:List Label).map eLabel),dM (([]:List Owner).map eOwner),dM (([]:List ByteArray).map eS),dM (([]:List Manager).map eManager),.own 2 0 0 (t9.1.length) none,.own 3 0 0 (t9.2.length) none]),some (.arr 0 3 (t9.1.map eServicePort)),some (.arr 0 5 (t9.2.map eEndpoint)),some (.box [dS xo24.Meta.Kind,dS xo24.Meta.Namespace,dS xo24.Meta.Name,dI xo24.Meta.Uid,dI xo24.Meta.Version,dI xo24.Meta.Generation,dI xo24.Meta.Created,dB xo24.Meta.Deleting,dI xo24.Meta.DeleteAt,dM (xo24.Meta.Labels.map eLabel),dM (xo24.Meta.Owners.map eOwner),dM (xo24.Meta.Finalizers.map eS),dM (xo24.Meta.Managers.map eManager),dS xo24.Spec.Node,dI xo24.Spec.Priority,dI xo24.Spec.Restart,dI xo24.Spec.Grace,dM (xo24.Spec.Containers.map eContainer),dM (xo24.Spec.NodeSelector.map eRequirement),dM (xo24.Spec.NodeTerms.map eNodeTerm),dM (xo24.Spec.PodTerms.map ePodTerm),dM (xo24.Spec.Spread.map eSpreadRule),dM (xo24.Spec.Tolerations.map eToleration),dI xo24.Status.Phase,dB xo24.Status.Ready,dI xo24.Status.ReadySince,dI xo24.Status.Started,dI xo24.Status.Finished,dM (xo24.Status.Containers.map eContainerStatus),dI xo24.Status.Address,dS xo24.Status.Nominated,dS xo24.Status.Reason])]⟩) ?_ ?_
      ·have h:=ho
       clear ho
       refine ww ?_
       obtain⟨y40,hy40,h⟩:=bi h
       refine t_idxO (enc:=eEndpoint) (xs:=t9.2) rfl rfl rfl (by first|rfl|simp only[List.length_set]|exact(clrL_len (slI_len (by assumption))).symm) hy40 (ww ?_)
       refine LdRow.rd (rdI_some hy40).2.1 (ww ?_)
       refine guardDBh h (fun g41 h=>?_) (fun g41 h=>?_)
       ·refine ww ?_
        cases h
        exact eM [some 0,some 1,some 2,some 3,some 4] rfl
       refine ww ?_
       obtain⟨t42,ht42,h⟩:=bi h
       refine cN [] (F19_ok ht42) trivial (ww ?_)
       refine guardDh h (fun g43 h=>?_) (fun g43 h=>?_)
       ·refine ww ?_
        refine guardDBh h (fun g44 h=>?_) (fun g44 h=>?_)
        ·refine ww ?_
         refine guardDh h (fun g45 h=>?_) (fun g45 h=>?_)
         ·refine ww ?_
          cases h
          exact eM [some 0,some 1,some 2,some 3,some 4] rfl
         refine ww ?_
         cases h
         exact eM [some 0,some 1,some 2,some 3,some 4] rfl
        refine ww ?_
        cases h
        exact eM [some 0,some 1,some 2,some 3,some 4] rfl
       refine ww ?_
       cases h
       exact eM [some 0,some 1,some 2,some 3,some 4] rfl
      rintro _ rfl
      clear ho
      refine ww ?_
      rw[wrapN (by omega)]
      exact eL' (t9.2.length-(o37_1+1)) [some 0,some 1,some 2,some 3,some 4] ⟨o37_1+1,o39,⟨by omega,rfl⟩,rfl,h⟩ (by omega)
     rw[countN (show¬((o37_1:Int)<(t9.2.length:Int))from c38),F5_l37]at h
     refine ww ?_
     cases h
     exact eM [some 0,some 1,some 2,some 3] rfl
    rintro _ rfl
    clear ho
    refine ww ?_
    refine condBh h (fun c47 h=>?_) (fun c47 h=>?_)
    ·refine ww ?_
     obtain⟨fh0o26,hfh0o26,rfl⟩:=Option.map_eq_some_iff.1 h
     have h:=hfh0o26.trans h0o26
     obtain⟨fh0o24,hfh0o24,rfl⟩:=Option.map_eq_some_iff.1 h
     have h:=hfh0o24.trans h0o24
     cases h
     exact eF []
    refine ww ?_
    cases h
    exact eM [some 0,some 1,some 2,some 3] ⟨_,rfl,rfl⟩
   rintro _ ⟨po26,rfl,rfl⟩
   clear ho
   dsimp only at h
   refine ww ?_
   rw[wrapN (by omega)]
   exact eL' (x1.length-(o24_1+1)) [some 0,some 1,some 2,some 3] ⟨o24_1+1,po26,⟨by omega,rfl⟩,rfl,h⟩ (by omega)
  rw[countN (show¬((o24_1:Int)<(x1.length:Int))from c25),F5_l24]at h
  refine ww ?_
  cases h
  exact eM [] ⟨_,rfl,rfl⟩
 rintro _ ⟨po24,rfl,rfl⟩
 clear ho
 dsimp only at h
 refine ww ?_
 obtain⟨o49,ho,h⟩:=bi h
 refine cutS (fun s=>s=⟨[(4,.one (.c (dB o49)))],[]⟩) ?_ ?_
 ·have h:=ho
  clear ho
  refine ww ?_
  refine guardSh h (fun g50 h=>?_) (fun g50 h=>?_)
  ·refine ww ?_
   obtain⟨t51,ht51,h⟩:=bi h
   refine cN [] (F9_ok ht51) trivial (ww ?_)
   cases h
   exact eM [] rfl
  refine ww ?_
  cases h
  exact eM [] rfl
 rintro _ rfl
 clear ho
 refine ww ?_
 cases h
 exact eF []
end Go.Proofs.Ytfkkccgopmcnaaa
