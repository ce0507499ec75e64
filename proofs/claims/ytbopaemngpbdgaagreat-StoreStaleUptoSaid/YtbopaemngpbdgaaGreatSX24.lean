/- Each Go function as a function over typed data, and its walk. -/
import Derived.Test.YtbopaemngpbdgaaGreatSX
import Derived.Test.YtbopaemngpbdgaaGreatSX3
import Derived.Test.YtbopaemngpbdgaaGreatSX4
import Derived.Test.YtbopaemngpbdgaaGreatSX9
import Derived.Test.YtbopaemngpbdgaaGreatSX11
import Derived.Test.YtbopaemngpbdgaaGreatSX12
import Derived.Test.YtbopaemngpbdgaaGreatSX15
import Derived.Test.YtbopaemngpbdgaaGreatSX18
import Derived.Test.YtbopaemngpbdgaaGreatSX19
import Derived.Test.YtbopaemngpbdgaaGreatSX20
import Derived.Test.YtbopaemngpbdgaaGreatSX21
import Derived.Test.YtbopaemngpbdgaaGreatSX22
import Derived.Test.YtbopaemngpbdgaaGreatSX23
namespace Go.Proofs.YtbopaemngpbdgaaGreat
open Go Go.Fw Go.Shelf
set_option maxRecDepth 100000
set_option maxHeartbeats 4000000
set_option linter.unusedSimpArgs false
set_option linter.unusedVariables false
def F8:Option (Bool):=(F20).bind fun t1=>(F33 ((⟨#[97]⟩:ByteArray)) 1).bind fun t2=>(F32 ((⟨0,0,1,[],[],[]⟩:TStore)) ((⟨(⟨(⟨#[80,111,100]⟩:ByteArray),(⟨#[110]⟩:ByteArray),((⟨#[97]⟩:ByteArray)),0,0,0,0,false,0,[],[],[],[]⟩:Meta),(⟨2,(1:Int),(⟨#[]⟩:ByteArray),[],[]⟩:TValue),(⟨0,0,(⟨#[]⟩:ByteArray),[],[]⟩:TValue)⟩:Object)) 5).bind fun t3=>(((F12 ((⟨t3.1,t3.2.1,t3.2.2.1,t3.2.2.2.1,t3.2.2.2.2.1,t3.2.2.2.2.2.1⟩:TStore)) ((⟨(⟨(t3.2.2.2.2.2.2.1).Meta.Kind,(t3.2.2.2.2.2.2.1).Meta.Namespace,(t3.2.2.2.2.2.2.1).Meta.Name,(t3.2.2.2.2.2.2.1).Meta.Uid,(t3.2.2.2.2.2.2.1).Meta.Version,(t3.2.2.2.2.2.2.1).Meta.Generation,(t3.2.2.2.2.2.2.1).Meta.Created,(t3.2.2.2.2.2.2.1).Meta.Deleting,(t3.2.2.2.2.2.2.1).Meta.DeleteAt,(t3.2.2.2.2.2.2.1).Meta.Labels,(t3.2.2.2.2.2.2.1).Meta.Owners,(t3.2.2.2.2.2.2.1).Meta.Finalizers,(t3.2.2.2.2.2.2.1).Meta.Managers⟩:Meta),(⟨2,2,(⟨#[]⟩:ByteArray),[],[]⟩:TValue),(⟨(t3.2.2.2.2.2.2.1).Status.Kind,(t3.2.2.2.2.2.2.1).Status.N,(t3.2.2.2.2.2.2.1).Status.S,(t3.2.2.2.2.2.2.1).Status.List_,(t3.2.2.2.2.2.2.1).Status.Fields⟩:TValue)⟩:Object))).bind fun t5=>some ((t5.1,t5.2.1,t5.2.2.1,t5.2.2.2.1,t5.2.2.2.2.1,(⟨(⟨t5.2.2.2.2.2.1,t5.2.2.2.2.2.2.1,t5.2.2.2.2.2.2.2.1,t5.2.2.2.2.2.2.2.2.1,t5.2.2.2.2.2.2.2.2.2.1,t5.2.2.2.2.2.2.2.2.2.2.1,t5.2.2.2.2.2.2.2.2.2.2.2.1,t5.2.2.2.2.2.2.2.2.2.2.2.2.1,t5.2.2.2.2.2.2.2.2.2.2.2.2.2.1,t5.2.2.2.2.2.2.2.2.2.2.2.2.2.2.1,t5.2.2.2.2.2.2.2.2.2.2.2.2.2.2.2.1,t5.2.2.2.2.2.2.2.2.2.2.2.2.2.2.2.2.1,t5.2.2.2.2.2.2.2.2.2.2.2.2.2.2.2.2.2.1⟩:Meta),(⟨t5.2.2.2.2.2.2.2.2.2.2.2.2.2.2.2.2.2.2.1,t5.2.2.2.2.2.2.2.2.2.2.2.2.2.2.2.2.2.2.2.1,t5.2.2.2.2.2.2.2.2.2.2.2.2.2.2.2.2.2.2.2.2.1,t5.2.2.2.2.2.2.2.2.2.2.2.2.2.2.2.2.2.2.2.2.2.1,t5.2.2.2.2.2.2.2.2.2.2.2.2.2.2.2.2.2.2.2.2.2.2.1⟩:TValue),(⟨t5.2.2.2.2.2.2.2.2.2.2.2.2.2.2.2.2.2.2.2.2.2.2.2.1,t5.2.2.2.2.2.2.2.2.2.2.2.2.2.2.2.2.2.2.2.2.2.2.2.2.1,t5.2.2.2.2.2.2.2.2.2.2.2.2.2.2.2.2.2.2.2.2.2.2.2.2.2.1,t5.2.2.2.2.2.2.2.2.2.2.2.2.2.2.2.2.2.2.2.2.2.2.2.2.2.2.1,t5.2.2.2.2.2.2.2.2.2.2.2.2.2.2.2.2.2.2.2.2.2.2.2.2.2.2.2.1⟩:TValue)⟩:Object),t5.2.2.2.2.2.2.2.2.2.2.2.2.2.2.2.2.2.2.2.2.2.2.2.2.2.2.2.2))).bind fun o4=>(F12 ((⟨o4.1,o4.2.1,t3.2.2.1,o4.2.2.1,o4.2.2.2.1,o4.2.2.2.2.1⟩:TStore)) ((⟨(⟨(t3.2.2.2.2.2.2.1).Meta.Kind,(t3.2.2.2.2.2.2.1).Meta.Namespace,(t3.2.2.2.2.2.2.1).Meta.Name,(t3.2.2.2.2.2.2.1).Meta.Uid,(t3.2.2.2.2.2.2.1).Meta.Version,(t3.2.2.2.2.2.2.1).Meta.Generation,(t3.2.2.2.2.2.2.1).Meta.Created,(t3.2.2.2.2.2.2.1).Meta.Deleting,(t3.2.2.2.2.2.2.1).Meta.DeleteAt,(t3.2.2.2.2.2.2.1).Meta.Labels,(t3.2.2.2.2.2.2.1).Meta.Owners,(t3.2.2.2.2.2.2.1).Meta.Finalizers,(t3.2.2.2.2.2.2.1).Meta.Managers⟩:Meta),(⟨2,2,(⟨#[]⟩:ByteArray),[],[]⟩:TValue),(⟨(t3.2.2.2.2.2.2.1).Status.Kind,(t3.2.2.2.2.2.2.1).Status.N,(t3.2.2.2.2.2.2.1).Status.S,(t3.2.2.2.2.2.2.1).Status.List_,(t3.2.2.2.2.2.2.1).Status.Fields⟩:TValue)⟩:Object))).bind fun t6=>(F25 ((⟨o4.1,o4.2.1,t3.2.2.1,o4.2.2.1,o4.2.2.2.1,o4.2.2.2.2.1⟩:TStore)) 1).bind fun t7=>(F13 ((⟨o4.1,o4.2.1,t3.2.2.1,o4.2.2.1,o4.2.2.2.1,o4.2.2.2.2.1⟩:TStore)) ((⟨#[80,111,100,47,110,47,97]⟩:ByteArray)) 0).bind fun t8=>(((F34 ((⟨t8.1,t8.2.1,t3.2.2.1,t8.2.2.1,t8.2.2.2.1,t8.2.2.2.2.1⟩:TStore)) 2).bind fun t10=>some ((t10.1,t10.2.1,t10.2.2.1,t10.2.2.2.1,t10.2.2.2.2))).bind fun o9=>(F25 ((⟨t8.1,o9.1,t3.2.2.1,o9.2.1,o9.2.2.1,o9.2.2.2.1⟩:TStore)) 1).bind fun t11=>(((if¬(t3.2.2.2.2.2.2.2=0)then some true else(if¬(o4.2.2.2.2.2.2=0)then some true else(if¬(t6.2.2.2.2.2.2.2.2.2.2.2.2.2.2.2.2.2.2.2.2.2.2.2.2.2.2.2.2=9)then some true else(if¬(t7.2=0)then some true else(if¬(t8.2.2.2.2.2.2=0)then some true else(if¬(o9.2.2.2.2=0)then some true else some (decide (¬(t11.2=10)))))))))).bind fun o12=>(if o12=true then some false else(((if(t3.2.2.2.2.2.2.1).Meta.Uid=1 then(if(t3.2.2.2.2.2.2.1).Meta.Version=1 then(if(t3.2.2.2.2.2.2.1).Meta.Generation=1 then(if(t3.2.2.2.2.2.2.1).Meta.Created=5 then(if(o4.2.2.2.2.2.1).Meta.Version=2 then(if(o4.2.2.2.2.2.1).Meta.Generation=2 then(if(t7.1.length:Int)=1 then(rdI t7.1 0).bind fun y28=>(if y28.Spec.N=1 then(if(t8.2.2.2.2.2.1).Meta.Version=3 then(if t8.1=3 then(if(o9.2.2.1.length:Int)=0 then some (decide ((o9.2.2.2.1.length:Int)=1))else some false)else some false)else some false)else some false)else some false)else some false)else some false)else some false)else some false)else some false)else some false)).bind fun o20=>some o20)))))
def a8:AFn:=⟨158,[(.tmp 0)],
 (.seq (.reg [sq 0 (.mv (kB false))])
 (.seq (.reg [sq 18 (.call 20 []),
sq 19 (.call 33 [(kS ⟨#[97]⟩),(kI 1)]),
sq 20 (.call 32 [(.t 18),(.t 19),(kI 5)]),
sq 17 (.mv (.t 20)),
sq 21 (.ext (.t 17) 0),
sq 22 (.ext (.t 17) 1),
sq 23 (.ext (.t 17) 2),
sq 1 (.zbox [dI 0,dI 0,dI 0,dN,dN,dN]),
sq 2 (.zbox [dS ⟨#[]⟩,dS ⟨#[]⟩,dS ⟨#[]⟩,dI 0,dI 0,dI 0,dI 0,dB false,dI 0,dN,dN,dN,dN,dI 0,dI 0,dS ⟨#[]⟩,dN,dN,dI 0,dI 0,dS ⟨#[]⟩,dN,dN]),
su (.store 6 (.t 1) (.t 21)),
su (.store 23 (.t 2) (.t 22)),
sq 3 (.mv (.t 23))])
 (.seq (.reg [sq 24 (.load (some 23) (.t 2)),
sq 4 (.zbox [dS ⟨#[]⟩,dS ⟨#[]⟩,dS ⟨#[]⟩,dI 0,dI 0,dI 0,dI 0,dB false,dI 0,dN,dN,dN,dN,dI 0,dI 0,dS ⟨#[]⟩,dN,dN,dI 0,dI 0,dS ⟨#[]⟩,dN,dN]),
su (.store 23 (.t 4) (.t 24))])
 (.seq (.reg [sq 25 (.build [dI 0,dI 0,dS ⟨#[]⟩,dN,dN] [(0,1,(kI 2)),(1,1,(kI 2))]),
sq 26 (.fieldA 13 (.t 4)),
su (.store 5 (.t 26) (.t 25))])
 (.seq (.sem (.reg [sq 28 (.load (some 6) (.t 1)),
sq 29 (.load (some 23) (.t 4)),
sq 30 (.call 12 [(.t 28),(.t 29)]),
sq 27 (.mv (.t 30)),
sq 31 (.ext (.t 27) 0),
sq 32 (.ext (.t 27) 1),
sq 33 (.ext (.t 27) 2),
sq 5 (.zbox [dS ⟨#[]⟩,dS ⟨#[]⟩,dS ⟨#[]⟩,dI 0,dI 0,dI 0,dI 0,dB false,dI 0,dN,dN,dN,dN,dI 0,dI 0,dS ⟨#[]⟩,dN,dN,dI 0,dI 0,dS ⟨#[]⟩,dN,dN]),
su (.store 6 (.t 1) (.t 31)),
su (.store 23 (.t 5) (.t 32)),
sq 6 (.mv (.t 33))]))
 (.seq (.reg [sq 35 (.load (some 6) (.t 1)),
sq 36 (.load (some 23) (.t 4)),
sq 37 (.call 12 [(.t 35),(.t 36)]),
sq 34 (.mv (.t 37)),
sq 38 (.ext (.t 34) 0),
sq 39 (.ext (.t 34) 1),
sq 40 (.ext (.t 34) 2),
sq 7 (.zbox [dI 0,dI 0,dI 0,dN,dN,dN]),
sq 8 (.zbox [dS ⟨#[]⟩,dS ⟨#[]⟩,dS ⟨#[]⟩,dI 0,dI 0,dI 0,dI 0,dB false,dI 0,dN,dN,dN,dN,dI 0,dI 0,dS ⟨#[]⟩,dN,dN,dI 0,dI 0,dS ⟨#[]⟩,dN,dN]),
su (.store 6 (.t 7) (.t 38)),
su (.store 23 (.t 8) (.t 39)),
sq 9 (.mv (.t 40))])
 (.seq (.reg [sq 42 (.load (some 6) (.t 1)),
sq 43 (.call 25 [(.t 42),(kI 1)]),
sq 41 (.mv (.t 43)),
sq 44 (.ext (.t 41) 0),
sq 45 (.ext (.t 41) 1),
sq 10 (.mv (.t 44)),
sq 11 (.mv (.t 45))])
 (.seq (.reg [sq 47 (.load (some 6) (.t 1)),
sq 48 (.call 13 [(.t 47),(kS ⟨#[80,111,100,47,110,47,97]⟩),(kI 0)]),
sq 46 (.mv (.t 48)),
sq 49 (.ext (.t 46) 0),
sq 50 (.ext (.t 46) 1),
sq 51 (.ext (.t 46) 2),
sq 12 (.zbox [dS ⟨#[]⟩,dS ⟨#[]⟩,dS ⟨#[]⟩,dI 0,dI 0,dI 0,dI 0,dB false,dI 0,dN,dN,dN,dN,dI 0,dI 0,dS ⟨#[]⟩,dN,dN,dI 0,dI 0,dS ⟨#[]⟩,dN,dN]),
su (.store 6 (.t 1) (.t 49)),
su (.store 23 (.t 12) (.t 50)),
sq 13 (.mv (.t 51))])
 (.seq (.sem (.reg [sq 53 (.load (some 6) (.t 1)),
sq 54 (.call 34 [(.t 53),(kI 2)]),
sq 52 (.mv (.t 54)),
sq 55 (.ext (.t 52) 0),
sq 56 (.ext (.t 52) 1),
su (.store 6 (.t 1) (.t 55)),
sq 14 (.mv (.t 56))]))
 (.seq (.reg [sq 58 (.load (some 6) (.t 1)),
sq 59 (.call 25 [(.t 58),(kI 1)]),
sq 57 (.mv (.t 59)),
sq 60 (.ext (.t 57) 0),
sq 61 (.ext (.t 57) 1),
sq 15 (.mv (.t 60)),
sq 16 (.mv (.t 61))])
 (.seq (.seq (.sem (.reg [sq 62 (.mv (.t 3)),
sq 63 (.bin .neq (.t 62) (kI 0)),
sq 64 (.mv (.t 63)),
zg 65 64 false (.mv (.t 6)),
zg 66 64 false (.bin .neq (.t 65) (kI 0)),
sq 67 (.pick (.t 64) (kB true) (.t 66)),
sq 68 (.mv (.t 67)),
zg 69 68 false (.mv (.t 9)),
zg 70 68 false (.bin .neq (.t 69) (kI 9)),
sq 71 (.pick (.t 68) (kB true) (.t 70)),
sq 72 (.mv (.t 71)),
zg 73 72 false (.mv (.t 11)),
zg 74 72 false (.bin .neq (.t 73) (kI 0)),
sq 75 (.pick (.t 72) (kB true) (.t 74)),
sq 76 (.mv (.t 75)),
zg 77 76 false (.mv (.t 13)),
zg 78 76 false (.bin .neq (.t 77) (kI 0)),
sq 79 (.pick (.t 76) (kB true) (.t 78)),
sq 80 (.mv (.t 79)),
zg 81 80 false (.mv (.t 14)),
zg 82 80 false (.bin .neq (.t 81) (kI 0)),
sq 83 (.pick (.t 80) (kB true) (.t 82)),
sq 84 (.mv (.t 83)),
zg 85 84 false (.mv (.t 16)),
zg 86 84 false (.bin .neq (.t 85) (kI 10)),
sq 87 (.pick (.t 84) (kB true) (.t 86))]))
 (.cond (.t 87)
 (.seq (.reg [sq 0 (.mv (kB false))])
 .ret)
 .skip))
 (.seq (.sem (.reg [sq 88 (.fieldA 0 (.t 2)),
sq 89 (.fieldA 3 (.t 88)),
sq 90 (.load none (.t 89)),
sq 91 (.bin .eql (.t 90) (kI 1)),
sq 92 (.mv (.t 91)),
zg 93 92 true (.fieldA 0 (.t 2)),
zg 94 92 true (.fieldA 4 (.t 93)),
zg 95 92 true (.load none (.t 94)),
zg 96 92 true (.bin .eql (.t 95) (kI 1)),
sq 97 (.pick (.t 92) (.t 96) (kB false)),
sq 98 (.mv (.t 97)),
zg 99 98 true (.fieldA 0 (.t 2)),
zg 100 98 true (.fieldA 5 (.t 99)),
zg 101 98 true (.load none (.t 100)),
zg 102 98 true (.bin .eql (.t 101) (kI 1)),
sq 103 (.pick (.t 98) (.t 102) (kB false)),
sq 104 (.mv (.t 103)),
zg 105 104 true (.fieldA 0 (.t 2)),
zg 106 104 true (.fieldA 6 (.t 105)),
zg 107 104 true (.load none (.t 106)),
zg 108 104 true (.bin .eql (.t 107) (kI 5)),
sq 109 (.pick (.t 104) (.t 108) (kB false)),
sq 110 (.mv (.t 109)),
zg 111 110 true (.fieldA 0 (.t 5)),
zg 112 110 true (.fieldA 4 (.t 111)),
zg 113 110 true (.load none (.t 112)),
zg 114 110 true (.bin .eql (.t 113) (kI 2)),
sq 115 (.pick (.t 110) (.t 114) (kB false)),
sq 116 (.mv (.t 115)),
zg 117 116 true (.fieldA 0 (.t 5)),
zg 118 116 true (.fieldA 5 (.t 117)),
zg 119 116 true (.load none (.t 118)),
zg 120 116 true (.bin .eql (.t 119) (kI 2)),
sq 121 (.pick (.t 116) (.t 120) (kB false)),
sq 122 (.mv (.t 121)),
zg 123 122 true (.mv (.t 10)),
zg 124 122 true (.len (.t 123)),
zg 125 122 true (.bin .eql (.t 124) (kI 1)),
sq 126 (.pick (.t 122) (.t 125) (kB false)),
sq 127 (.mv (.t 126)),
zg 128 127 true (.mv (.t 10)),
zg 129 127 true (.indexA 23 (.t 128) (kI 0)),
zg 130 127 true (.fieldA 13 (.t 129)),
zg 131 127 true (.fieldA 1 (.t 130)),
zg 132 127 true (.load none (.t 131)),
zg 133 127 true (.bin .eql (.t 132) (kI 1)),
sq 134 (.pick (.t 127) (.t 133) (kB false)),
sq 135 (.mv (.t 134)),
zg 136 135 true (.fieldA 0 (.t 12)),
zg 137 135 true (.fieldA 4 (.t 136)),
zg 138 135 true (.load none (.t 137)),
zg 139 135 true (.bin .eql (.t 138) (kI 3)),
sq 140 (.pick (.t 135) (.t 139) (kB false)),
sq 141 (.mv (.t 140)),
zg 142 141 true (.fieldA 0 (.t 1)),
zg 143 141 true (.load none (.t 142)),
zg 144 141 true (.bin .eql (.t 143) (kI 3)),
sq 145 (.pick (.t 141) (.t 144) (kB false)),
sq 146 (.mv (.t 145)),
zg 147 146 true (.fieldA 4 (.t 1)),
zg 148 146 true (.load none (.t 147)),
zg 149 146 true (.len (.t 148)),
zg 150 146 true (.bin .eql (.t 149) (kI 0)),
sq 151 (.pick (.t 146) (.t 150) (kB false)),
sq 152 (.mv (.t 151)),
zg 153 152 true (.fieldA 5 (.t 1)),
zg 154 152 true (.load none (.t 153)),
zg 155 152 true (.len (.t 154)),
zg 156 152 true (.bin .eql (.t 155) (kI 1)),
sq 157 (.pick (.t 152) (.t 156) (kB false)),
sq 0 (.mv (.t 157))]))
 .ret))))))))))))⟩
theorem a8_ok:afn Tryz.prog 8=some a8.er:=by kernel_rfl
theorem F8_ok{r}(h:F8=some r):CallD Tryz.prog 8 [] [] (tupV [.c (dB r)]) []:=by
 refine callS a8_ok (by simp[a8]) ?_
 rw[F8]at h
 simp only[a8,VW.down,Nat.reduceEqDiff,reduceCtorEq,Nat.reduceAdd,Nat.reduceLeDiff,Nat.reduceLT,Nat.reduceBEq,Nat.reduceSub,EE.down]
 obtain⟨t1,ht1,h⟩:=bi h
 refine cN [] (F20_ok ht1) trivial (ww ?_)
 obtain⟨t2,ht2,h⟩:=bi h
 refine cN [] (F33_ok ht2) trivial (ww ?_)
 obtain⟨t3,ht3,h⟩:=bi h
 refine cN [] (F32_ok ht3) trivial (ww ?_)
 obtain⟨o4,ho,h⟩:=bi h
 refine cutS (fun s=>s=⟨[(1,.one (.c (.pt 0 0))),(2,.one (.c (.pt 1 0))),(3,.one (.c (dI t3.2.2.2.2.2.2.2))),(4,.one (.c (.pt 2 0))),(5,.one (.c (.pt 3 0))),(6,.one (.c (dI o4.2.2.2.2.2.2)))],[some (.box [dI o4.1,dI o4.2.1,dI t3.2.2.1,dM (o4.2.2.1.map eObject),dM (o4.2.2.2.1.map eObject),dM (o4.2.2.2.2.1.map eChange)]),some (.box [dS ((t3.2.2.2.2.2.2.1).Meta.Kind),dS ((t3.2.2.2.2.2.2.1).Meta.Namespace),dS ((t3.2.2.2.2.2.2.1).Meta.Name),dI ((t3.2.2.2.2.2.2.1).Meta.Uid),dI ((t3.2.2.2.2.2.2.1).Meta.Version),dI ((t3.2.2.2.2.2.2.1).Meta.Generation),dI ((t3.2.2.2.2.2.2.1).Meta.Created),dB ((t3.2.2.2.2.2.2.1).Meta.Deleting),dI ((t3.2.2.2.2.2.2.1).Meta.DeleteAt),dM (((t3.2.2.2.2.2.2.1).Meta.Labels).map eLabel),dM (((t3.2.2.2.2.2.2.1).Meta.Owners).map eOwner),dM (((t3.2.2.2.2.2.2.1).Meta.Finalizers).map eS),dM (((t3.2.2.2.2.2.2.1).Meta.Managers).map eManager),dI ((t3.2.2.2.2.2.2.1).Spec.Kind),dI ((t3.2.2.2.2.2.2.1).Spec.N),dS ((t3.2.2.2.2.2.2.1).Spec.S),dM (((t3.2.2.2.2.2.2.1).Spec.List_).map eTValue),dM (((t3.2.2.2.2.2.2.1).Spec.Fields).map eTField),dI ((t3.2.2.2.2.2.2.1).Status.Kind),dI ((t3.2.2.2.2.2.2.1).Status.N),dS ((t3.2.2.2.2.2.2.1).Status.S),dM (((t3.2.2.2.2.2.2.1).Status.List_).map eTValue),dM (((t3.2.2.2.2.2.2.1).Status.Fields).map eTField)]),some (.box [dS ((t3.2.2.2.2.2.2.1).Meta.Kind),dS ((t3.2.2.2.2.2.2.1).Meta.Namespace),dS ((t3.2.2.2.2.2.2.1).Meta.Name),dI ((t3.2.2.2.2.2.2.1).Meta.Uid),dI ((t3.2.2.2.2.2.2.1).Meta.Version),dI ((t3.2.2.2.2.2.2.1).Meta.Generation),dI ((t3.2.2.2.2.2.2.1).Meta.Created),dB ((t3.2.2.2.2.2.2.1).Meta.Deleting),dI ((t3.2.2.2.2.2.2.1).Meta.DeleteAt),dM (((t3.2.2.2.2.2.2.1).Meta.Labels).map eLabel),dM (((t3.2.2.2.2.2.2.1).Meta.Owners).map eOwner),dM (((t3.2.2.2.2.2.2.1).Meta.Finalizers).map eS),dM (((t3.2.2.2.2.2.2.1).Meta.Managers).map eManager),dI 2,dI 2,dS ((⟨#[]⟩:ByteArray)),dN,dN,dI ((t3.2.2.2.2.2.2.1).Status.Kind),dI ((t3.2.2.2.2.2.2.1).Status.N),dS ((t3.2.2.2.2.2.2.1).Status.S),dM (((t3.2.2.2.2.2.2.1).Status.List_).map eTValue),dM (((t3.2.2.2.2.2.2.1).Status.Fields).map eTField)]),some (.box [dS ((o4.2.2.2.2.2.1).Meta.Kind),dS ((o4.2.2.2.2.2.1).Meta.Namespace),dS ((o4.2.2.2.2.2.1).Meta.Name),dI ((o4.2.2.2.2.2.1).Meta.Uid),dI ((o4.2.2.2.2.2.1).Meta.Version),dI ((o4.2.2.2.2.2.1).Meta.Generation),dI ((o4.2.2.2.2.2.1).Meta.Created),dB ((o4.2.2.2.2.2.1).Meta.Deleting),dI ((o4.2.2.2.2.2.1).Meta.DeleteAt),dM (((o4.2.2.2.2.2.1).Meta.Labels).map eLabel),dM (((o4.2.2.2.2.2.1).Meta.Owners).map eOwner),dM (((o4.2.2.2.2.2.1).Meta.Finalizers).map eS),dM (((o4.2.2.2.2.2.1).Meta.Managers).map eManager),dI ((o4.2.2.2.2.2.1).Spec.Kind),dI ((o4.2.2.2.2.2.1).Spec.N),dS ((o4.2.2.2.2.2.1).Spec.S),dM (((o4.2.2.2.2.2.1).Spec.List_).map eTValue),dM (((o4.2.2.2.2.2.1).Spec.Fields).map eTField),dI ((o4.2.2.2.2.2.1).Status.Kind),dI ((o4.2.2.2.2.2.1).Status.N),dS ((o4.2.2.2.2.2.1).Status.S),dM (((o4.2.2.2.2.2.1).Status.List_).map eTValue),dM (((o4.2.2.2.2.2.1).Status.Fields).map eTField)])]⟩) ?_ ?_
 ·have h:=ho
  clear ho
  refine ww ?_
  obtain⟨t5,ht5,h⟩:=bi h
  refine callX_gen (as1:=[.agg [dI t3.1,dI t3.2.1,dI t3.2.2.1,dM (t3.2.2.2.1.map eObject),dM (t3.2.2.2.2.1.map eObject),dM (t3.2.2.2.2.2.1.map eChange)],.agg [dS ((t3.2.2.2.2.2.2.1).Meta.Kind),dS ((t3.2.2.2.2.2.2.1).Meta.Namespace),dS ((t3.2.2.2.2.2.2.1).Meta.Name),dI ((t3.2.2.2.2.2.2.1).Meta.Uid),dI ((t3.2.2.2.2.2.2.1).Meta.Version),dI ((t3.2.2.2.2.2.2.1).Meta.Generation),dI ((t3.2.2.2.2.2.2.1).Meta.Created),dB ((t3.2.2.2.2.2.2.1).Meta.Deleting),dI ((t3.2.2.2.2.2.2.1).Meta.DeleteAt),dM (((t3.2.2.2.2.2.2.1).Meta.Labels).map eLabel),dM (((t3.2.2.2.2.2.2.1).Meta.Owners).map eOwner),dM (((t3.2.2.2.2.2.2.1).Meta.Finalizers).map eS),dM (((t3.2.2.2.2.2.2.1).Meta.Managers).map eManager),dI 2,dI 2,dS ((⟨#[]⟩:ByteArray)),dM [],dM [],dI ((t3.2.2.2.2.2.2.1).Status.Kind),dI ((t3.2.2.2.2.2.2.1).Status.N),dS ((t3.2.2.2.2.2.2.1).Status.S),dM (((t3.2.2.2.2.2.2.1).Status.List_).map eTValue),dM (((t3.2.2.2.2.2.2.1).Status.Fields).map eTField)]]) [(0,.arr 1 23 []),(1,.arr 1 23 []),(2,.arr 1 25 []),(3,.box [dI t3.1,dI t3.2.1,dI t3.2.2.1,.own 0 0 0 0 (some 0),.own 1 0 0 0 (some 0),.own 2 0 0 0 (some 0)])] [none,none,none,some 3,some 4,some 5] [] (F12_ok ht5) ⟨?_,rfl,?_⟩ ?_ ?_ ?_ ?_ ?_ ?_ ?_ ?_
  ·simp only[ZZ.down,Nat.reduceEqDiff,reduceCtorEq,Nat.reduceAdd,Nat.reduceLeDiff,Nat.reduceLT,Nat.reduceBNe,EE.down]
  ·simp only[ZZ.down,Nat.reduceEqDiff,reduceCtorEq,Nat.reduceAdd,Nat.reduceLeDiff,Nat.reduceLT,Nat.reduceBNe,EE.down]
  ·simp only[ZZ.down,Nat.reduceEqDiff,reduceCtorEq,Nat.reduceAdd,Nat.reduceLeDiff,Nat.reduceLT,Nat.reduceBNe,EE.down]
  ·rfl
  ·rfl
  ·simp[liveAll,A1.live,C.live]
  ·rfl
  ·decide
  ·exact trivial
  refine ww ?_
  cases h
  exact eM [some 3,some 4,some 5,some 9] rfl
 rintro _ rfl
 clear ho
 refine ww ?_
 obtain⟨t6,ht6,h⟩:=bi h
 refine cN [] (F12_ok ht6) trivial (ww ?_)
 obtain⟨t7,ht7,h⟩:=bi h
 refine cN [] (F25_ok ht7) trivial (ww ?_)
 obtain⟨t8,ht8,h⟩:=bi h
 refine cN [] (F13_ok ht8) trivial (ww ?_)
 obtain⟨o9,ho,h⟩:=bi h
 refine cutS (fun s=>s=⟨[(1,.one (.c (.pt 0 0))),(2,.one (.c (.pt 1 0))),(3,.one (.c (dI t3.2.2.2.2.2.2.2))),(5,.one (.c (.pt 2 0))),(6,.one (.c (dI o4.2.2.2.2.2.2))),(9,.one (.c (dI t6.2.2.2.2.2.2.2.2.2.2.2.2.2.2.2.2.2.2.2.2.2.2.2.2.2.2.2.2))),(10,.one (.c (dM (t7.1.map eObject)))),(11,.one (.c (dI t7.2))),(12,.one (.c (.pt 3 0))),(13,.one (.c (dI t8.2.2.2.2.2.2))),(14,.one (.c (dI o9.2.2.2.2)))],[some (.box [dI t8.1,dI o9.1,dI t3.2.2.1,dM (o9.2.1.map eObject),dM (o9.2.2.1.map eObject),dM (o9.2.2.2.1.map eChange)]),some (.box [dS ((t3.2.2.2.2.2.2.1).Meta.Kind),dS ((t3.2.2.2.2.2.2.1).Meta.Namespace),dS ((t3.2.2.2.2.2.2.1).Meta.Name),dI ((t3.2.2.2.2.2.2.1).Meta.Uid),dI ((t3.2.2.2.2.2.2.1).Meta.Version),dI ((t3.2.2.2.2.2.2.1).Meta.Generation),dI ((t3.2.2.2.2.2.2.1).Meta.Created),dB ((t3.2.2.2.2.2.2.1).Meta.Deleting),dI ((t3.2.2.2.2.2.2.1).Meta.DeleteAt),dM (((t3.2.2.2.2.2.2.1).Meta.Labels).map eLabel),dM (((t3.2.2.2.2.2.2.1).Meta.Owners).map eOwner),dM (((t3.2.2.2.2.2.2.1).Meta.Finalizers).map eS),dM (((t3.2.2.2.2.2.2.1).Meta.Managers).map eManager),dI ((t3.2.2.2.2.2.2.1).Spec.Kind),dI ((t3.2.2.2.2.2.2.1).Spec.N),dS ((t3.2.2.2.2.2.2.1).Spec.S),dM (((t3.2.2.2.2.2.2.1).Spec.List_).map eTValue),dM (((t3.2.2.2.2.2.2.1).Spec.Fields).map eTField),dI ((t3.2.2.2.2.2.2.1).Status.Kind),dI ((t3.2.2.2.2.2.2.1).Status.N),dS ((t3.2.2.2.2.2.2.1).Status.S),dM (((t3.2.2.2.2.2.2.1).Status.List_).map eTValue),dM (((t3.2.2.2.2.2.2.1).Status.Fields).map eTField)]),some (.box [dS ((o4.2.2.2.2.2.1).Meta.Kind),dS ((o4.2.2.2.2.2.1).Meta.Namespace),dS ((o4.2.2.2.2.2.1).Meta.Name),dI ((o4.2.2.2.2.2.1).Meta.Uid),dI ((o4.2.2.2.2.2.1).Meta.Version),dI ((o4.2.2.2.2.2.1).Meta.Generation),dI ((o4.2.2.2.2.2.1).Meta.Created),dB ((o4.2.2.2.2.2.1).Meta.Deleting),dI ((o4.2.2.2.2.2.1).Meta.DeleteAt),dM (((o4.2.2.2.2.2.1).Meta.Labels).map eLabel),dM (((o4.2.2.2.2.2.1).Meta.Owners).map eOwner),dM (((o4.2.2.2.2.2.1).Meta.Finalizers).map eS),dM (((o4.2.2.2.2.2.1).Meta.Managers).map eManager),dI ((o4.2.2.2.2.2.1).Spec.Kind),dI ((o4.2.2.2.2.2.1).Spec.N),dS ((o4.2.2.2.2.2.1).Spec.S),dM (((o4.2.2.2.2.2.1).Spec.List_).map eTValue),dM (((o4.2.2.2.2.2.1).Spec.Fields).map eTField),dI ((o4.2.2.2.2.2.1).Status.Kind),dI ((o4.2.2.2.2.2.1).Status.N),dS ((o4.2.2.2.2.2.1).Status.S),dM (((o4.2.2.2.2.2.1).Status.List_).map eTValue),dM (((o4.2.2.2.2.2.1).Status.Fields).map eTField)]),some (.box [dS ((t8.2.2.2.2.2.1).Meta.Kind),dS ((t8.2.2.2.2.2.1).Meta.Namespace),dS ((t8.2.2.2.2.2.1).Meta.Name),dI ((t8.2.2.2.2.2.1).Meta.Uid),dI ((t8.2.2.2.2.2.1).Meta.Version),dI ((t8.2.2.2.2.2.1).Meta.Generation),dI ((t8.2.2.2.2.2.1).Meta.Created),dB ((t8.2.2.2.2.2.1).Meta.Deleting),dI ((t8.2.2.2.2.2.1).Meta.DeleteAt),dM (((t8.2.2.2.2.2.1).Meta.Labels).map eLabel),dM (((t8.2.2.2.2.2.1).Meta.Owners).map eOwner),dM (((t8.2.2.2.2.2.1).Meta.Finalizers).map eS),dM (((t8.2.2.2.2.2.1).Meta.Managers).map eManager),dI ((t8.2.2.2.2.2.1).Spec.Kind),dI ((t8.2.2.2.2.2.1).Spec.N),dS ((t8.2.2.2.2.2.1).Spec.S),dM (((t8.2.2.2.2.2.1).Spec.List_).map eTValue),dM (((t8.2.2.2.2.2.1).Spec.Fields).map eTField),dI ((t8.2.2.2.2.2.1).Status.Kind),dI ((t8.2.2.2.2.2.1).Status.N),dS ((t8.2.2.2.2.2.1).Status.S),dM (((t8.2.2.2.2.2.1).Status.List_).map eTValue),dM (((t8.2.2.2.2.2.1).Status.Fields).map eTField)])]⟩) ?_ ?_
 ·have h:=ho
  clear ho
  refine ww ?_
  obtain⟨t10,ht10,h⟩:=bi h
  refine callX_gen (as1:=[.agg [dI t8.1,dI t8.2.1,dI t3.2.2.1,dM (t8.2.2.1.map eObject),dM (t8.2.2.2.1.map eObject),dM (t8.2.2.2.2.1.map eChange)],.c (dI 2)]) [(10,.arr 1 23 []),(11,.arr 1 23 []),(12,.arr 1 25 []),(0,.box [dI t8.1,dI t8.2.1,dI t3.2.2.1,.own 10 0 0 0 (some 0),.own 11 0 0 0 (some 0),.own 12 0 0 0 (some 0)])] [some 0,some 1,some 2,some 3,some 4,some 5,some 6,some 7,some 8,some 9,none,none,none,some 13] [] (F34_ok ht10) ⟨?_,rfl,?_⟩ ?_ ?_ ?_ ?_ ?_ ?_ ?_ ?_
  ·simp only[ZZ.down,Nat.reduceEqDiff,reduceCtorEq,Nat.reduceAdd,Nat.reduceLeDiff,Nat.reduceLT,Nat.reduceBNe,EE.down]
  ·simp only[ZZ.down,Nat.reduceEqDiff,reduceCtorEq,Nat.reduceAdd,Nat.reduceLeDiff,Nat.reduceLT,Nat.reduceBNe,EE.down]
  ·simp only[ZZ.down,Nat.reduceEqDiff,reduceCtorEq,Nat.reduceAdd,Nat.reduceLeDiff,Nat.reduceLT,Nat.reduceBNe,EE.down]
  ·rfl
  ·rfl
  ·simp[liveAll,A1.live,C.live]
  ·rfl
  ·decide
  ·exact trivial
  refine ww ?_
  cases h
  exact eM [some 0,some 1,some 3,some 13] rfl
 rintro _ rfl
 clear ho
 refine ww ?_
 obtain⟨t11,ht11,h⟩:=bi h
 refine cN [] (F25_ok ht11) trivial (ww ?_)
 obtain⟨o12,ho,h⟩:=bi h
 refine cutS (fun s=>s=⟨[(1,.one (.c (.pt 0 0))),(2,.one (.c (.pt 1 0))),(5,.one (.c (.pt 2 0))),(10,.one (.c (dM (t7.1.map eObject)))),(12,.one (.c (.pt 3 0))),(87,.one (.c (dB o12)))],[some (.box [dI t8.1,dI o9.1,dI t3.2.2.1,dM (o9.2.1.map eObject),dM (o9.2.2.1.map eObject),dM (o9.2.2.2.1.map eChange)]),some (.box [dS ((t3.2.2.2.2.2.2.1).Meta.Kind),dS ((t3.2.2.2.2.2.2.1).Meta.Namespace),dS ((t3.2.2.2.2.2.2.1).Meta.Name),dI ((t3.2.2.2.2.2.2.1).Meta.Uid),dI ((t3.2.2.2.2.2.2.1).Meta.Version),dI ((t3.2.2.2.2.2.2.1).Meta.Generation),dI ((t3.2.2.2.2.2.2.1).Meta.Created),dB ((t3.2.2.2.2.2.2.1).Meta.Deleting),dI ((t3.2.2.2.2.2.2.1).Meta.DeleteAt),dM (((t3.2.2.2.2.2.2.1).Meta.Labels).map eLabel),dM (((t3.2.2.2.2.2.2.1).Meta.Owners).map eOwner),dM (((t3.2.2.2.2.2.2.1).Meta.Finalizers).map eS),dM (((t3.2.2.2.2.2.2.1).Meta.Managers).map eManager),dI ((t3.2.2.2.2.2.2.1).Spec.Kind),dI ((t3.2.2.2.2.2.2.1).Spec.N),dS ((t3.2.2.2.2.2.2.1).Spec.S),dM (((t3.2.2.2.2.2.2.1).Spec.List_).map eTValue),dM (((t3.2.2.2.2.2.2.1).Spec.Fields).map eTField),dI ((t3.2.2.2.2.2.2.1).Status.Kind),dI ((t3.2.2.2.2.2.2.1).Status.N),dS ((t3.2.2.2.2.2.2.1).Status.S),dM (((t3.2.2.2.2.2.2.1).Status.List_).map eTValue),dM (((t3.2.2.2.2.2.2.1).Status.Fields).map eTField)]),some (.box [dS ((o4.2.2.2.2.2.1).Meta.Kind),dS ((o4.2.2.2.2.2.1).Meta.Namespace),dS ((o4.2.2.2.2.2.1).Meta.Name),dI ((o4.2.2.2.2.2.1).Meta.Uid),dI ((o4.2.2.2.2.2.1).Meta.Version),dI ((o4.2.2.2.2.2.1).Meta.Generation),dI ((o4.2.2.2.2.2.1).Meta.Created),dB ((o4.2.2.2.2.2.1).Meta.Deleting),dI ((o4.2.2.2.2.2.1).Meta.DeleteAt),dM (((o4.2.2.2.2.2.1).Meta.Labels).map eLabel),dM (((o4.2.2.2.2.2.1).Meta.Owners).map eOwner),dM (((o4.2.2.2.2.2.1).Meta.Finalizers).map eS),dM (((o4.2.2.2.2.2.1).Meta.Managers).map eManager),dI ((o4.2.2.2.2.2.1).Spec.Kind),dI ((o4.2.2.2.2.2.1).Spec.N),dS ((o4.2.2.2.2.2.1).Spec.S),dM (((o4.2.2.2.2.2.1).Spec.List_).map eTValue),dM (((o4.2.2.2.2.2.1).Spec.Fields).map eTField),dI ((o4.2.2.2.2.2.1).Status.Kind),dI ((o4.2.2.2.2.2.1).Status.N),dS ((o4.2.2.2.2.2.1).Status.S),dM (((o4.2.2.2.2.2.1).Status.List_).map eTValue),dM (((o4.2.2.2.2.2.1).Status.Fields).map eTField)]),some (.box [dS ((t8.2.2.2.2.2.1).Meta.Kind),dS ((t8.2.2.2.2.2.1).Meta.Namespace),dS ((t8.2.2.2.2.2.1).Meta.Name),dI ((t8.2.2.2.2.2.1).Meta.Uid),dI ((t8.2.2.2.2.2.1).Meta.Version),dI ((t8.2.2.2.2.2.1).Meta.Generation),dI ((t8.2.2.2.2.2.1).Meta.Created),dB ((t8.2.2.2.2.2.1).Meta.Deleting),dI ((t8.2.2.2.2.2.1).Meta.DeleteAt),dM (((t8.2.2.2.2.2.1).Meta.Labels).map eLabel),dM (((t8.2.2.2.2.2.1).Meta.Owners).map eOwner),dM (((t8.2.2.2.2.2.1).Meta.Finalizers).map eS),dM (((t8.2.2.2.2.2.1).Meta.Managers).map eManager),dI ((t8.2.2.2.2.2.1).Spec.Kind),dI ((t8.2.2.2.2.2.1).Spec.N),dS ((t8.2.2.2.2.2.1).Spec.S),dM (((t8.2.2.2.2.2.1).Spec.List_).map eTValue),dM (((t8.2.2.2.2.2.1).Spec.Fields).map eTField),dI ((t8.2.2.2.2.2.1).Status.Kind),dI ((t8.2.2.2.2.2.1).Status.N),dS ((t8.2.2.2.2.2.1).Status.S),dM (((t8.2.2.2.2.2.1).Status.List_).map eTValue),dM (((t8.2.2.2.2.2.1).Status.Fields).map eTField)])]⟩) ?_ ?_
 ·have h:=ho
  clear ho
  refine ww ?_
  refine guardSh h (fun g13 h=>?_) (fun g13 h=>?_)
  ·refine ww ?_
   cases h
   exact eM [some 0,some 1,some 2,some 3] rfl
  refine ww ?_
  refine guardSh h (fun g14 h=>?_) (fun g14 h=>?_)
  ·refine ww ?_
   cases h
   exact eM [some 0,some 1,some 2,some 3] rfl
  refine ww ?_
  refine guardSh h (fun g15 h=>?_) (fun g15 h=>?_)
  ·refine ww ?_
   cases h
   exact eM [some 0,some 1,some 2,some 3] rfl
  refine ww ?_
  refine guardSh h (fun g16 h=>?_) (fun g16 h=>?_)
  ·refine ww ?_
   cases h
   exact eM [some 0,some 1,some 2,some 3] rfl
  refine ww ?_
  refine guardSh h (fun g17 h=>?_) (fun g17 h=>?_)
  ·refine ww ?_
   cases h
   exact eM [some 0,some 1,some 2,some 3] rfl
  refine ww ?_
  refine guardSh h (fun g18 h=>?_) (fun g18 h=>?_)
  ·refine ww ?_
   cases h
   exact eM [some 0,some 1,some 2,some 3] rfl
  refine ww ?_
  cases h
  exact eM [some 0,some 1,some 2,some 3] rfl
 rintro _ rfl
 clear ho
 refine ww ?_
 refine condBh h (fun c19 h=>?_) (fun c19 h=>?_)
 ·refine ww ?_
  cases h
  exact eF []
 refine ww ?_
 obtain⟨o20,ho,h⟩:=bi h
 refine cutS (fun s=>s=⟨[(0,.one (.c (dB o20)))],[]⟩) ?_ ?_
 ·have h:=ho
  clear ho
  refine ww ?_
  refine guardSh h (fun g21 h=>?_) (fun g21 h=>?_)
  ·refine ww ?_
   refine guardSh h (fun g22 h=>?_) (fun g22 h=>?_)
   ·refine ww ?_
    refine guardSh h (fun g23 h=>?_) (fun g23 h=>?_)
    ·refine ww ?_
     refine guardSh h (fun g24 h=>?_) (fun g24 h=>?_)
     ·refine ww ?_
      refine guardSh h (fun g25 h=>?_) (fun g25 h=>?_)
      ·refine ww ?_
       refine guardSh h (fun g26 h=>?_) (fun g26 h=>?_)
       ·refine ww ?_
        refine guardSh h (fun g27 h=>?_) (fun g27 h=>?_)
        ·refine ww ?_
         obtain⟨y28,hy28,h⟩:=bi h
         refine t_idxF (enc:=eObject) (xs:=t7.1) rfl rfl hy28 rfl (ww ?_)
         refine guardSh h (fun g29 h=>?_) (fun g29 h=>?_)
         ·refine ww ?_
          refine guardSh h (fun g30 h=>?_) (fun g30 h=>?_)
          ·refine ww ?_
           refine guardSh h (fun g31 h=>?_) (fun g31 h=>?_)
           ·refine ww ?_
            refine guardSh h (fun g32 h=>?_) (fun g32 h=>?_)
            ·refine ww ?_
             cases h
             exact eM [] rfl
            refine ww ?_
            cases h
            exact eM [] rfl
           refine ww ?_
           cases h
           exact eM [] rfl
          refine ww ?_
          cases h
          exact eM [] rfl
         refine ww ?_
         cases h
         exact eM [] rfl
        refine ww ?_
        cases h
        exact eM [] rfl
       refine ww ?_
       cases h
       exact eM [] rfl
      refine ww ?_
      cases h
      exact eM [] rfl
     refine ww ?_
     cases h
     exact eM [] rfl
    refine ww ?_
    cases h
    exact eM [] rfl
   refine ww ?_
   cases h
   exact eM [] rfl
  refine ww ?_
  cases h
  exact eM [] rfl
 rintro _ rfl
 clear ho
 refine ww ?_
 cases h
 exact eF []
def F22(x0:TStore)(x1:TOp):Option (Int×Int×Int×(List Object)×(List Object)×(List Change)×Object×Int):=(F58 x0 x1).bind fun t1=>(if x1.Kind=1 then(F32 x0 ((⟨(⟨x1.O.Meta.Kind,x1.O.Meta.Namespace,x1.O.Meta.Name,x1.O.Meta.Uid,t1.1,x1.O.Meta.Generation,x1.O.Meta.Created,x1.O.Meta.Deleting,x1.O.Meta.DeleteAt,x1.O.Meta.Labels,x1.O.Meta.Owners,x1.O.Meta.Finalizers,x1.O.Meta.Managers⟩:Meta),x1.O.Spec,x1.O.Status⟩:Object)) x1.Now).bind fun t3=>some ((t3.1,t3.2.1,t3.2.2.1,t3.2.2.2.1,t3.2.2.2.2.1,t3.2.2.2.2.2.1,(⟨(⟨(t3.2.2.2.2.2.2.1).Meta.Kind,(t3.2.2.2.2.2.2.1).Meta.Namespace,(t3.2.2.2.2.2.2.1).Meta.Name,(t3.2.2.2.2.2.2.1).Meta.Uid,(t3.2.2.2.2.2.2.1).Meta.Version,(t3.2.2.2.2.2.2.1).Meta.Generation,(t3.2.2.2.2.2.2.1).Meta.Created,(t3.2.2.2.2.2.2.1).Meta.Deleting,(t3.2.2.2.2.2.2.1).Meta.DeleteAt,(t3.2.2.2.2.2.2.1).Meta.Labels,(t3.2.2.2.2.2.2.1).Meta.Owners,(t3.2.2.2.2.2.2.1).Meta.Finalizers,(t3.2.2.2.2.2.2.1).Meta.Managers⟩:Meta),(⟨(t3.2.2.2.2.2.2.1).Spec.Kind,(t3.2.2.2.2.2.2.1).Spec.N,(t3.2.2.2.2.2.2.1).Spec.S,(t3.2.2.2.2.2.2.1).Spec.List_,(t3.2.2.2.2.2.2.1).Spec.Fields⟩:TValue),(⟨(t3.2.2.2.2.2.2.1).Status.Kind,(t3.2.2.2.2.2.2.1).Status.N,(t3.2.2.2.2.2.2.1).Status.S,(t3.2.2.2.2.2.2.1).Status.List_,(t3.2.2.2.2.2.2.1).Status.Fields⟩:TValue)⟩:Object),t3.2.2.2.2.2.2.2))else(if x1.Kind=2 then(F12 x0 ((⟨(⟨x1.O.Meta.Kind,x1.O.Meta.Namespace,x1.O.Meta.Name,x1.O.Meta.Uid,t1.1,x1.O.Meta.Generation,x1.O.Meta.Created,x1.O.Meta.Deleting,x1.O.Meta.DeleteAt,x1.O.Meta.Labels,x1.O.Meta.Owners,x1.O.Meta.Finalizers,x1.O.Meta.Managers⟩:Meta),x1.O.Spec,x1.O.Status⟩:Object))).bind fun t5=>some ((t5.1,t5.2.1,x0.NextUid,t5.2.2.1,t5.2.2.2.1,t5.2.2.2.2.1,(⟨(⟨t5.2.2.2.2.2.1,t5.2.2.2.2.2.2.1,t5.2.2.2.2.2.2.2.1,t5.2.2.2.2.2.2.2.2.1,t5.2.2.2.2.2.2.2.2.2.1,t5.2.2.2.2.2.2.2.2.2.2.1,t5.2.2.2.2.2.2.2.2.2.2.2.1,t5.2.2.2.2.2.2.2.2.2.2.2.2.1,t5.2.2.2.2.2.2.2.2.2.2.2.2.2.1,t5.2.2.2.2.2.2.2.2.2.2.2.2.2.2.1,t5.2.2.2.2.2.2.2.2.2.2.2.2.2.2.2.1,t5.2.2.2.2.2.2.2.2.2.2.2.2.2.2.2.2.1,t5.2.2.2.2.2.2.2.2.2.2.2.2.2.2.2.2.2.1⟩:Meta),(⟨t5.2.2.2.2.2.2.2.2.2.2.2.2.2.2.2.2.2.2.1,t5.2.2.2.2.2.2.2.2.2.2.2.2.2.2.2.2.2.2.2.1,t5.2.2.2.2.2.2.2.2.2.2.2.2.2.2.2.2.2.2.2.2.1,t5.2.2.2.2.2.2.2.2.2.2.2.2.2.2.2.2.2.2.2.2.2.1,t5.2.2.2.2.2.2.2.2.2.2.2.2.2.2.2.2.2.2.2.2.2.2.1⟩:TValue),(⟨t5.2.2.2.2.2.2.2.2.2.2.2.2.2.2.2.2.2.2.2.2.2.2.2.1,t5.2.2.2.2.2.2.2.2.2.2.2.2.2.2.2.2.2.2.2.2.2.2.2.2.1,t5.2.2.2.2.2.2.2.2.2.2.2.2.2.2.2.2.2.2.2.2.2.2.2.2.2.1,t5.2.2.2.2.2.2.2.2.2.2.2.2.2.2.2.2.2.2.2.2.2.2.2.2.2.2.1,t5.2.2.2.2.2.2.2.2.2.2.2.2.2.2.2.2.2.2.2.2.2.2.2.2.2.2.2.1⟩:TValue)⟩:Object),t5.2.2.2.2.2.2.2.2.2.2.2.2.2.2.2.2.2.2.2.2.2.2.2.2.2.2.2.2))else(if x1.Kind=3 then(F13 x0 x1.Key t1.2).bind fun t7=>some ((t7.1,t7.2.1,x0.NextUid,t7.2.2.1,t7.2.2.2.1,t7.2.2.2.2.1,(⟨(⟨(t7.2.2.2.2.2.1).Meta.Kind,(t7.2.2.2.2.2.1).Meta.Namespace,(t7.2.2.2.2.2.1).Meta.Name,(t7.2.2.2.2.2.1).Meta.Uid,(t7.2.2.2.2.2.1).Meta.Version,(t7.2.2.2.2.2.1).Meta.Generation,(t7.2.2.2.2.2.1).Meta.Created,(t7.2.2.2.2.2.1).Meta.Deleting,(t7.2.2.2.2.2.1).Meta.DeleteAt,(t7.2.2.2.2.2.1).Meta.Labels,(t7.2.2.2.2.2.1).Meta.Owners,(t7.2.2.2.2.2.1).Meta.Finalizers,(t7.2.2.2.2.2.1).Meta.Managers⟩:Meta),(⟨(t7.2.2.2.2.2.1).Spec.Kind,(t7.2.2.2.2.2.1).Spec.N,(t7.2.2.2.2.2.1).Spec.S,(t7.2.2.2.2.2.1).Spec.List_,(t7.2.2.2.2.2.1).Spec.Fields⟩:TValue),(⟨(t7.2.2.2.2.2.1).Status.Kind,(t7.2.2.2.2.2.1).Status.N,(t7.2.2.2.2.2.1).Status.S,(t7.2.2.2.2.2.1).Status.List_,(t7.2.2.2.2.2.1).Status.Fields⟩:TValue)⟩:Object),t7.2.2.2.2.2.2))else(F34 x0 x1.Rev).bind fun t8=>some ((x0.Rev,t8.1,x0.NextUid,t8.2.1,t8.2.2.1,t8.2.2.2.1,(⟨(⟨(⟨#[]⟩:ByteArray),(⟨#[]⟩:ByteArray),(⟨#[]⟩:ByteArray),0,0,0,0,false,0,[],[],[],[]⟩:Meta),(⟨0,0,(⟨#[]⟩:ByteArray),[],[]⟩:TValue),(⟨0,0,(⟨#[]⟩:ByteArray),[],[]⟩:TValue)⟩:Object),t8.2.2.2.2)))))
def a22:AFn:=⟨57,[(.cell 4 (some 6)),(.cell 5 (some 23)),(.tmp 6)],
 (.seq (.reg [sq 2 (.box (.t 0)),
sq 3 (.box (.t 1)),
sq 4 (.zbox [dI 0,dI 0,dI 0,dN,dN,dN]),
sq 5 (.zbox [dS ⟨#[]⟩,dS ⟨#[]⟩,dS ⟨#[]⟩,dI 0,dI 0,dI 0,dI 0,dB false,dI 0,dN,dN,dN,dN,dI 0,dI 0,dS ⟨#[]⟩,dN,dN,dI 0,dI 0,dS ⟨#[]⟩,dN,dN]),
sq 6 (.mv (kI 0))])
 (.seq (.reg [sq 12 (.load (some 6) (.t 2)),
sq 13 (.load (some 28) (.t 3)),
sq 14 (.call 58 [(.t 12),(.t 13)]),
sq 11 (.mv (.t 14)),
sq 15 (.ext (.t 11) 0),
sq 16 (.ext (.t 11) 1),
sq 7 (.zbox [dS ⟨#[]⟩,dS ⟨#[]⟩,dS ⟨#[]⟩,dI 0,dI 0,dI 0,dI 0,dB false,dI 0,dN,dN,dN,dN,dI 0,dI 0,dS ⟨#[]⟩,dN,dN,dI 0,dI 0,dS ⟨#[]⟩,dN,dN]),
su (.store 23 (.t 7) (.t 15)),
sq 8 (.mv (.t 16))])
 (.seq (.seq (.reg [sq 17 (.fieldA 0 (.t 3)),
sq 18 (.load none (.t 17))])
 (.block 0 (.seq (.reg [sq 20 (.bin .eql (.t 18) (kI 1)),
sq 19 (.mv (.t 20))])
 (.cond (.t 19)
 (.seq (.reg [sq 21 (.load (some 6) (.t 2)),
sq 22 (.load (some 23) (.t 7)),
sq 23 (.fieldA 26 (.t 3)),
sq 24 (.load none (.t 23)),
sq 25 (.call 32 [(.t 21),(.t 22),(.t 24)]),
sq 26 (.ext (.t 25) 0),
sq 27 (.ext (.t 25) 1),
sq 28 (.ext (.t 25) 2),
su (.store 6 (.t 4) (.t 26)),
su (.store 23 (.t 5) (.t 27)),
sq 6 (.mv (.t 28))])
 .ret)
 (.seq (.reg [sq 30 (.bin .eql (.t 18) (kI 2)),
sq 29 (.mv (.t 30))])
 (.cond (.t 29)
 (.seq (.reg [sq 31 (.load (some 6) (.t 2)),
sq 32 (.load (some 23) (.t 7)),
sq 33 (.call 12 [(.t 31),(.t 32)]),
sq 34 (.ext (.t 33) 0),
sq 35 (.ext (.t 33) 1),
sq 36 (.ext (.t 33) 2),
su (.store 6 (.t 4) (.t 34)),
su (.store 23 (.t 5) (.t 35)),
sq 6 (.mv (.t 36))])
 .ret)
 (.seq (.reg [sq 38 (.bin .eql (.t 18) (kI 3)),
sq 37 (.mv (.t 38))])
 (.cond (.t 37)
 (.seq (.reg [sq 39 (.load (some 6) (.t 2)),
sq 40 (.fieldA 24 (.t 3)),
sq 41 (.load none (.t 40)),
sq 42 (.mv (.t 8)),
sq 43 (.call 13 [(.t 39),(.t 41),(.t 42)]),
sq 44 (.ext (.t 43) 0),
sq 45 (.ext (.t 43) 1),
sq 46 (.ext (.t 43) 2),
su (.store 6 (.t 4) (.t 44)),
su (.store 23 (.t 5) (.t 45)),
sq 6 (.mv (.t 46))])
 .ret)
 .skip))))))))
 (.seq (.reg [sq 48 (.load (some 6) (.t 2)),
sq 49 (.fieldA 27 (.t 3)),
sq 50 (.load none (.t 49)),
sq 51 (.call 34 [(.t 48),(.t 50)]),
sq 47 (.mv (.t 51)),
sq 52 (.ext (.t 47) 0),
sq 53 (.ext (.t 47) 1),
sq 9 (.zbox [dI 0,dI 0,dI 0,dN,dN,dN]),
su (.store 6 (.t 9) (.t 52)),
sq 10 (.mv (.t 53))])
 (.seq (.reg [sq 54 (.load (some 6) (.t 9)),
sq 55 (.build [dS ⟨#[]⟩,dS ⟨#[]⟩,dS ⟨#[]⟩,dI 0,dI 0,dI 0,dI 0,dB false,dI 0,dN,dN,dN,dN,dI 0,dI 0,dS ⟨#[]⟩,dN,dN,dI 0,dI 0,dS ⟨#[]⟩,dN,dN] []),
sq 56 (.mv (.t 10)),
su (.store 6 (.t 4) (.t 54)),
su (.store 23 (.t 5) (.t 55)),
sq 6 (.mv (.t 56))])
 .ret)))))⟩
theorem a22_ok:afn Tryz.prog 22=some a22.er:=by kernel_rfl
theorem F22_ok{x0 x1 r}(h:F22 x0 x1=some r):CallD Tryz.prog 22 [.agg [dI x0.Rev,dI x0.Floor,dI x0.NextUid,dM (x0.Base.map eObject),dM (x0.Objects.map eObject),dM (x0.History.map eChange)],.agg [dI x1.Kind,dS x1.O.Meta.Kind,dS x1.O.Meta.Namespace,dS x1.O.Meta.Name,dI x1.O.Meta.Uid,dI x1.O.Meta.Version,dI x1.O.Meta.Generation,dI x1.O.Meta.Created,dB x1.O.Meta.Deleting,dI x1.O.Meta.DeleteAt,dM (x1.O.Meta.Labels.map eLabel),dM (x1.O.Meta.Owners.map eOwner),dM (x1.O.Meta.Finalizers.map eS),dM (x1.O.Meta.Managers.map eManager),dI x1.O.Spec.Kind,dI x1.O.Spec.N,dS x1.O.Spec.S,dM (x1.O.Spec.List_.map eTValue),dM (x1.O.Spec.Fields.map eTField),dI x1.O.Status.Kind,dI x1.O.Status.N,dS x1.O.Status.S,dM (x1.O.Status.List_.map eTValue),dM (x1.O.Status.Fields.map eTField),dS x1.Key,dI x1.Version,dI x1.Now,dI x1.Rev]] [] (tupV [.agg [dI r.1,dI r.2.1,dI r.2.2.1,.own 0 0 0 (r.2.2.2.1.length) none,.own 1 0 0 (r.2.2.2.2.1.length) none,.own 2 0 0 (r.2.2.2.2.2.1.length) none],.agg [dS ((r.2.2.2.2.2.2.1).Meta.Kind),dS ((r.2.2.2.2.2.2.1).Meta.Namespace),dS ((r.2.2.2.2.2.2.1).Meta.Name),dI ((r.2.2.2.2.2.2.1).Meta.Uid),dI ((r.2.2.2.2.2.2.1).Meta.Version),dI ((r.2.2.2.2.2.2.1).Meta.Generation),dI ((r.2.2.2.2.2.2.1).Meta.Created),dB ((r.2.2.2.2.2.2.1).Meta.Deleting),dI ((r.2.2.2.2.2.2.1).Meta.DeleteAt),dM (((r.2.2.2.2.2.2.1).Meta.Labels).map eLabel),dM (((r.2.2.2.2.2.2.1).Meta.Owners).map eOwner),dM (((r.2.2.2.2.2.2.1).Meta.Finalizers).map eS),dM (((r.2.2.2.2.2.2.1).Meta.Managers).map eManager),dI ((r.2.2.2.2.2.2.1).Spec.Kind),dI ((r.2.2.2.2.2.2.1).Spec.N),dS ((r.2.2.2.2.2.2.1).Spec.S),dM (((r.2.2.2.2.2.2.1).Spec.List_).map eTValue),dM (((r.2.2.2.2.2.2.1).Spec.Fields).map eTField),dI ((r.2.2.2.2.2.2.1).Status.Kind),dI ((r.2.2.2.2.2.2.1).Status.N),dS ((r.2.2.2.2.2.2.1).Status.S),dM (((r.2.2.2.2.2.2.1).Status.List_).map eTValue),dM (((r.2.2.2.2.2.2.1).Status.Fields).map eTField)],.c (dI r.2.2.2.2.2.2.2)]) [some (.arr 0 23 (r.2.2.2.1.map eObject)),some (.arr 0 23 (r.2.2.2.2.1.map eObject)),some (.arr 0 25 (r.2.2.2.2.2.1.map eChange))]:=by
 refine callS a22_ok (by simp[a22]) ?_
 rw[F22]at h
 simp only[a22,VW.down,Nat.reduceEqDiff,reduceCtorEq,Nat.reduceAdd,Nat.reduceLeDiff,Nat.reduceLT,Nat.reduceBEq,Nat.reduceSub,EE.down]
 obtain⟨t1,ht1,h⟩:=bi h
 refine cN [] (F58_ok ht1) trivial (ww ?_)
 refine condSh h (fun c2 h=>?_) (fun c2 h=>?_)
 ·refine ww ?_
  obtain⟨t3,ht3,h⟩:=bi h
  refine cN [] (F32_ok ht3) trivial (ww ?_)
  cases h
  exact eF [some 5,some 6,some 7]
 refine ww ?_
 refine condSh h (fun c4 h=>?_) (fun c4 h=>?_)
 ·refine ww ?_
  obtain⟨t5,ht5,h⟩:=bi h
  refine cN [] (F12_ok ht5) trivial (ww ?_)
  cases h
  exact eF [some 5,some 6,some 7]
 refine ww ?_
 refine condSh h (fun c6 h=>?_) (fun c6 h=>?_)
 ·refine ww ?_
  obtain⟨t7,ht7,h⟩:=bi h
  refine cN [] (F13_ok ht7) trivial (ww ?_)
  cases h
  exact eF [some 5,some 6,some 7]
 refine ww ?_
 obtain⟨t8,ht8,h⟩:=bi h
 refine cN [] (F34_ok ht8) trivial (ww ?_)
 cases h
 exact eF [some 5,some 6,some 7]
def F9_l2:List TOp→Nat→Int→Int→Int→(List Object)→(List Object)→(List Change)→Option (TStore)
 |[],o2_6,o2_0,o2_1,o2_2,o2_3,o2_4,o2_5=>some ((⟨o2_0,o2_1,o2_2,o2_3,o2_4,o2_5⟩:TStore))
 |xo2::xs,o2_6,o2_0,o2_1,o2_2,o2_3,o2_4,o2_5=>(F22 ((⟨o2_0,o2_1,o2_2,o2_3,o2_4,o2_5⟩:TStore)) xo2).bind fun t4=>F9_l2 xs (o2_6+1) t4.1 t4.2.1 t4.2.2.1 t4.2.2.2.1 t4.2.2.2.2.1 t4.2.2.2.2.2.1
def F9(x0:(List TOp)):Option (TStore):=(F20).bind fun t1=>(((ck (0≤x0.length∧x0.length≤4294967290)).bind fun u5=>F9_l2 x0 0 0 0 1 ([]) ([]) ([])).bind fun o2=>some ((⟨(o2).Rev,(o2).Floor,(o2).NextUid,(o2).Base,(o2).Objects,(o2).History⟩:TStore)))
def a9:AFn:=⟨23,[(.cell 2 (some 6))],
 (.seq (.reg [zl 2 (.zbox [dI 0,dI 0,dI 0,dN,dN,dN]) [] []])
 (.seq (.reg [sq 5 (.call 20 []),
sq 3 (.zbox [dI 0,dI 0,dI 0,dN,dN,dN]),
su (.store 6 (.t 3) (.t 5))])
 (.seq (.seq (.reg [sq 4 (.mv (kI 0))])
 (.sem (.block 0 (.loop (.seq (.seq (.reg [sq 6 (.mv (.t 4)),
sq 7 (.mv (.t 0)),
sq 8 (.len (.t 7)),
sq 9 (.bin .lss (.t 6) (.t 8))])
 (.cond (.t 9)
 .skip
 (.exit 0)))
 (.seq (.block 1 (.regd [sq 13 (.load (some 6) (.t 3)),
sq 14 (.mv (.t 0)),
sq 15 (.mv (.t 4)),
sd 16 (.indexA 28 (.t 14) (.t 15)) [1,2],
sd 17 (.load (some 28) (.t 16)) [1,2,3],
zl 18 (.call 22 [(.t 13),(.t 17)]) [0,1,2,3,4] [],
sd 12 (.mv (.t 18)) [0,1,2,3,4,5],
sd 19 (.ext (.t 12) 0) [0,1,2,3,4,5,6],
sd 20 (.ext (.t 12) 1) [0,1,2,3,4,5,6],
sd 21 (.ext (.t 12) 2) [0,1,2,3,4,5,6],
⟨none,none,.store 6 (.t 3) (.t 19),[0,1,2,3,4,5,6,7],(.lone [])⟩]))
 (.reg [sq 10 (.mv (.t 4)),
sq 11 (.bin .add (.t 10) (kI 1)),
sq 4 (.mv (.t 11))])))))))
 (.seq (.reg [sq 22 (.load (some 6) (.t 3)),
⟨none,none,.store 6 (.t 2) (.t 22),[],(.lone [3])⟩])
 .ret))))⟩
theorem a9_ok:afn Tryz.prog 9=some a9.er:=by kernel_rfl
theorem F9_ok{x0 r}(h:F9 x0=some r):CallD Tryz.prog 9 [.c (dM (x0.map eTOp))] [] (tupV [.agg [dI ((r).Rev),dI ((r).Floor),dI ((r).NextUid),dM (((r).Base).map eObject),dM (((r).Objects).map eObject),dM (((r).History).map eChange)]]) []:=by
 refine callS a9_ok (by simp[a9]) ?_
 rw[F9]at h
 simp only[a9,VW.down,Nat.reduceEqDiff,reduceCtorEq,Nat.reduceAdd,Nat.reduceLeDiff,Nat.reduceLT,Nat.reduceBEq,Nat.reduceSub,EE.down]
 obtain⟨t1,ht1,h⟩:=bi h
 refine cN [] (F20_ok ht1) trivial (ww ?_)
 obtain⟨o2,ho,h⟩:=bi h
 refine cutS (fun s=>s=⟨[(2,.one (.c (.pt 0 0))),(3,.one (.c (.pt 1 0)))],[some (.box [dI 0,dI 0,dI 0,dN,dN,dN]),some (.box [dI ((o2).Rev),dI ((o2).Floor),dI ((o2).NextUid),dM (((o2).Base).map eObject),dM (((o2).Objects).map eObject),dM (((o2).History).map eChange)])]⟩) ?_ ?_
 ·have h:=ho
  clear ho
  obtain⟨_,hk,h⟩:=bi h
  have hk:=ck_some hk
  refine ww ?_
  refine bL (fun j s=>∃(o2_6:Nat) (o2_0:Int) (o2_1:Int) (o2_2:Int) (o2_3:List Object) (o2_4:List Object) (o2_5:List Change),(o2_6≤x0.length∧j=x0.length-o2_6)∧s=⟨[(0,.one (.c (dM (x0.map eTOp)))),(2,.one (.c (.pt 0 0))),(3,.one (.c (.pt 1 0))),(4,.one (.c (dI ((o2_6:Int)))))],[some (.box [dI 0,dI 0,dI 0,dN,dN,dN]),some (.box [dI o2_0,dI o2_1,dI o2_2,dM (o2_3.map eObject),dM (o2_4.map eObject),dM (o2_5.map eChange)])]⟩∧F9_l2 (x0.drop o2_6) o2_6 o2_0 o2_1 o2_2 o2_3 o2_4 o2_5=some o2) (x0.length-0) [some 0,some 1] ⟨0,0,0,1,[],[],[],⟨hk.1,rfl⟩,rfl,h⟩ ?_
  rintro _ _ ⟨o2_6,o2_0,o2_1,o2_2,o2_3,o2_4,o2_5,⟨hi,rfl⟩,rfl,h⟩
  refine ww ?_
  refine condS (fun c3=>?_) (fun c3=>?_)
  ·obtain⟨xo2,hxo2,hd⟩:=countY (show(o2_6:Int)<(x0.length:Int)from c3)
   rw[hd,F9_l2]at h
   refine ww ?_
   refine t_idxF (enc:=eTOp) (xs:=x0) rfl rfl hxo2 rfl (ww ?_)
   obtain⟨t4,ht4,h⟩:=bi h
   refine cN [] (F22_ok ht4) trivial (ww ?_)
   rw[wrapN (by omega)]
   exact eL' (x0.length-(o2_6+1)) [some 0,some 1] ⟨o2_6+1,t4.1,t4.2.1,t4.2.2.1,t4.2.2.2.1,t4.2.2.2.2.1,t4.2.2.2.2.2.1,⟨by omega,rfl⟩,rfl,h⟩ (by omega)
  rw[countN (show¬((o2_6:Int)<(x0.length:Int))from c3),F9_l2]at h
  refine ww ?_
  cases h
  exact eM [some 0,some 1] rfl
 rintro _ rfl
 clear ho
 refine ww ?_
 cases h
 exact eF []
def F3(x0:(List TOp))(x1:Object)(x2:Int):Option (Bool):=(((F6 x0).bind fun t2=>(if(nb t2)=true then some true else(F7 x1).bind fun t4=>some (decide (500<t4)))).bind fun o1=>(if o1=true then(F8).bind fun t6=>some t6 else(F9 x0).bind fun t7=>(F11 x1).bind fun t8=>(F10 ((⟨(t7).Rev,(t7).Floor,(t7).NextUid,(t7).Base,(t7).Objects,(t7).History⟩:TStore)) t8).bind fun t9=>(((if(nb t9.2.2.2.2.2.2.2.2.2.2.2.2.2.2.2.2.2.2.2.2.2.2.2)=true then some true else(if x2=0 then some true else some (decide (x2=t9.2.2.2.2.1))))).bind fun o10=>(if o10=true then(F8).bind fun t14=>some t14 else(F12 ((⟨(t7).Rev,(t7).Floor,(t7).NextUid,(t7).Base,(t7).Objects,(t7).History⟩:TStore)) ((⟨(⟨x1.Meta.Kind,x1.Meta.Namespace,x1.Meta.Name,x1.Meta.Uid,x2,x1.Meta.Generation,x1.Meta.Created,x1.Meta.Deleting,x1.Meta.DeleteAt,x1.Meta.Labels,x1.Meta.Owners,x1.Meta.Finalizers,x1.Meta.Managers⟩:Meta),x1.Spec,x1.Status⟩:Object))).bind fun t15=>(F11 ((⟨(⟨x1.Meta.Kind,x1.Meta.Namespace,x1.Meta.Name,x1.Meta.Uid,x2,x1.Meta.Generation,x1.Meta.Created,x1.Meta.Deleting,x1.Meta.DeleteAt,x1.Meta.Labels,x1.Meta.Owners,x1.Meta.Finalizers,x1.Meta.Managers⟩:Meta),x1.Spec,x1.Status⟩:Object))).bind fun t16=>(F13 ((⟨(t7).Rev,(t7).Floor,(t7).NextUid,(t7).Base,(t7).Objects,(t7).History⟩:TStore)) t16 x2).bind fun t17=>(((F8).bind fun t19=>(if t19=true then(if t15.2.2.2.2.2.2.2.2.2.2.2.2.2.2.2.2.2.2.2.2.2.2.2.2.2.2.2.2=9 then(if t17.2.2.2.2.2.2=9 then(F15 ((⟨(t7).Rev,(t7).Floor,(t7).NextUid,(t7).Base,(t7).Objects,(t7).History⟩:TStore)) ((⟨t15.1,t15.2.1,((t7).NextUid),t15.2.2.1,t15.2.2.2.1,t15.2.2.2.2.1⟩:TStore))).bind fun t23=>(if t23=true then(F15 ((⟨(t7).Rev,(t7).Floor,(t7).NextUid,(t7).Base,(t7).Objects,(t7).History⟩:TStore)) ((⟨t17.1,t17.2.1,((t7).NextUid),t17.2.2.1,t17.2.2.2.1,t17.2.2.2.2.1⟩:TStore))).bind fun t25=>(if t25=true then(F16 ((⟨(⟨t15.2.2.2.2.2.1,t15.2.2.2.2.2.2.1,t15.2.2.2.2.2.2.2.1,t15.2.2.2.2.2.2.2.2.1,t15.2.2.2.2.2.2.2.2.2.1,t15.2.2.2.2.2.2.2.2.2.2.1,t15.2.2.2.2.2.2.2.2.2.2.2.1,t15.2.2.2.2.2.2.2.2.2.2.2.2.1,t15.2.2.2.2.2.2.2.2.2.2.2.2.2.1,t15.2.2.2.2.2.2.2.2.2.2.2.2.2.2.1,t15.2.2.2.2.2.2.2.2.2.2.2.2.2.2.2.1,t15.2.2.2.2.2.2.2.2.2.2.2.2.2.2.2.2.1,t15.2.2.2.2.2.2.2.2.2.2.2.2.2.2.2.2.2.1⟩:Meta),(⟨t15.2.2.2.2.2.2.2.2.2.2.2.2.2.2.2.2.2.2.1,t15.2.2.2.2.2.2.2.2.2.2.2.2.2.2.2.2.2.2.2.1,t15.2.2.2.2.2.2.2.2.2.2.2.2.2.2.2.2.2.2.2.2.1,t15.2.2.2.2.2.2.2.2.2.2.2.2.2.2.2.2.2.2.2.2.2.1,t15.2.2.2.2.2.2.2.2.2.2.2.2.2.2.2.2.2.2.2.2.2.2.1⟩:TValue),(⟨t15.2.2.2.2.2.2.2.2.2.2.2.2.2.2.2.2.2.2.2.2.2.2.2.1,t15.2.2.2.2.2.2.2.2.2.2.2.2.2.2.2.2.2.2.2.2.2.2.2.2.1,t15.2.2.2.2.2.2.2.2.2.2.2.2.2.2.2.2.2.2.2.2.2.2.2.2.2.1,t15.2.2.2.2.2.2.2.2.2.2.2.2.2.2.2.2.2.2.2.2.2.2.2.2.2.2.1,t15.2.2.2.2.2.2.2.2.2.2.2.2.2.2.2.2.2.2.2.2.2.2.2.2.2.2.2.1⟩:TValue)⟩:Object)) ((⟨(⟨(⟨#[]⟩:ByteArray),(⟨#[]⟩:ByteArray),(⟨#[]⟩:ByteArray),0,0,0,0,false,0,[],[],[],[]⟩:Meta),(⟨0,0,(⟨#[]⟩:ByteArray),[],[]⟩:TValue),(⟨0,0,(⟨#[]⟩:ByteArray),[],[]⟩:TValue)⟩:Object))).bind fun t27=>(if t27=true then(F16 ((⟨(⟨(t17.2.2.2.2.2.1).Meta.Kind,(t17.2.2.2.2.2.1).Meta.Namespace,(t17.2.2.2.2.2.1).Meta.Name,(t17.2.2.2.2.2.1).Meta.Uid,(t17.2.2.2.2.2.1).Meta.Version,(t17.2.2.2.2.2.1).Meta.Generation,(t17.2.2.2.2.2.1).Meta.Created,(t17.2.2.2.2.2.1).Meta.Deleting,(t17.2.2.2.2.2.1).Meta.DeleteAt,(t17.2.2.2.2.2.1).Meta.Labels,(t17.2.2.2.2.2.1).Meta.Owners,(t17.2.2.2.2.2.1).Meta.Finalizers,(t17.2.2.2.2.2.1).Meta.Managers⟩:Meta),(⟨(t17.2.2.2.2.2.1).Spec.Kind,(t17.2.2.2.2.2.1).Spec.N,(t17.2.2.2.2.2.1).Spec.S,(t17.2.2.2.2.2.1).Spec.List_,(t17.2.2.2.2.2.1).Spec.Fields⟩:TValue),(⟨(t17.2.2.2.2.2.1).Status.Kind,(t17.2.2.2.2.2.1).Status.N,(t17.2.2.2.2.2.1).Status.S,(t17.2.2.2.2.2.1).Status.List_,(t17.2.2.2.2.2.1).Status.Fields⟩:TValue)⟩:Object)) ((⟨(⟨(⟨#[]⟩:ByteArray),(⟨#[]⟩:ByteArray),(⟨#[]⟩:ByteArray),0,0,0,0,false,0,[],[],[],[]⟩:Meta),(⟨0,0,(⟨#[]⟩:ByteArray),[],[]⟩:TValue),(⟨0,0,(⟨#[]⟩:ByteArray),[],[]⟩:TValue)⟩:Object))).bind fun t29=>some t29 else some false)else some false)else some false)else some false)else(if t15.2.2.2.2.2.2.2.2.2.2.2.2.2.2.2.2.2.2.2.2.2.2.2.2.2.2.2.2=1 then(F14 ((⟨(⟨x1.Meta.Kind,x1.Meta.Namespace,x1.Meta.Name,x1.Meta.Uid,x2,x1.Meta.Generation,x1.Meta.Created,x1.Meta.Deleting,x1.Meta.DeleteAt,x1.Meta.Labels,x1.Meta.Owners,x1.Meta.Finalizers,x1.Meta.Managers⟩:Meta),x1.Spec,x1.Status⟩:Object))).bind fun t31=>(if(nb t31)=true then(if t17.2.2.2.2.2.2=9 then(F15 ((⟨(t7).Rev,(t7).Floor,(t7).NextUid,(t7).Base,(t7).Objects,(t7).History⟩:TStore)) ((⟨t15.1,t15.2.1,((t7).NextUid),t15.2.2.1,t15.2.2.2.1,t15.2.2.2.2.1⟩:TStore))).bind fun t34=>(if t34=true then(F15 ((⟨(t7).Rev,(t7).Floor,(t7).NextUid,(t7).Base,(t7).Objects,(t7).History⟩:TStore)) ((⟨t17.1,t17.2.1,((t7).NextUid),t17.2.2.1,t17.2.2.2.1,t17.2.2.2.2.1⟩:TStore))).bind fun t36=>(if t36=true then(F16 ((⟨(⟨t15.2.2.2.2.2.1,t15.2.2.2.2.2.2.1,t15.2.2.2.2.2.2.2.1,t15.2.2.2.2.2.2.2.2.1,t15.2.2.2.2.2.2.2.2.2.1,t15.2.2.2.2.2.2.2.2.2.2.1,t15.2.2.2.2.2.2.2.2.2.2.2.1,t15.2.2.2.2.2.2.2.2.2.2.2.2.1,t15.2.2.2.2.2.2.2.2.2.2.2.2.2.1,t15.2.2.2.2.2.2.2.2.2.2.2.2.2.2.1,t15.2.2.2.2.2.2.2.2.2.2.2.2.2.2.2.1,t15.2.2.2.2.2.2.2.2.2.2.2.2.2.2.2.2.1,t15.2.2.2.2.2.2.2.2.2.2.2.2.2.2.2.2.2.1⟩:Meta),(⟨t15.2.2.2.2.2.2.2.2.2.2.2.2.2.2.2.2.2.2.1,t15.2.2.2.2.2.2.2.2.2.2.2.2.2.2.2.2.2.2.2.1,t15.2.2.2.2.2.2.2.2.2.2.2.2.2.2.2.2.2.2.2.2.1,t15.2.2.2.2.2.2.2.2.2.2.2.2.2.2.2.2.2.2.2.2.2.1,t15.2.2.2.2.2.2.2.2.2.2.2.2.2.2.2.2.2.2.2.2.2.2.1⟩:TValue),(⟨t15.2.2.2.2.2.2.2.2.2.2.2.2.2.2.2.2.2.2.2.2.2.2.2.1,t15.2.2.2.2.2.2.2.2.2.2.2.2.2.2.2.2.2.2.2.2.2.2.2.2.1,t15.2.2.2.2.2.2.2.2.2.2.2.2.2.2.2.2.2.2.2.2.2.2.2.2.2.1,t15.2.2.2.2.2.2.2.2.2.2.2.2.2.2.2.2.2.2.2.2.2.2.2.2.2.2.1,t15.2.2.2.2.2.2.2.2.2.2.2.2.2.2.2.2.2.2.2.2.2.2.2.2.2.2.2.1⟩:TValue)⟩:Object)) ((⟨(⟨(⟨#[]⟩:ByteArray),(⟨#[]⟩:ByteArray),(⟨#[]⟩:ByteArray),0,0,0,0,false,0,[],[],[],[]⟩:Meta),(⟨0,0,(⟨#[]⟩:ByteArray),[],[]⟩:TValue),(⟨0,0,(⟨#[]⟩:ByteArray),[],[]⟩:TValue)⟩:Object))).bind fun t38=>(if t38=true then(F16 ((⟨(⟨(t17.2.2.2.2.2.1).Meta.Kind,(t17.2.2.2.2.2.1).Meta.Namespace,(t17.2.2.2.2.2.1).Meta.Name,(t17.2.2.2.2.2.1).Meta.Uid,(t17.2.2.2.2.2.1).Meta.Version,(t17.2.2.2.2.2.1).Meta.Generation,(t17.2.2.2.2.2.1).Meta.Created,(t17.2.2.2.2.2.1).Meta.Deleting,(t17.2.2.2.2.2.1).Meta.DeleteAt,(t17.2.2.2.2.2.1).Meta.Labels,(t17.2.2.2.2.2.1).Meta.Owners,(t17.2.2.2.2.2.1).Meta.Finalizers,(t17.2.2.2.2.2.1).Meta.Managers⟩:Meta),(⟨(t17.2.2.2.2.2.1).Spec.Kind,(t17.2.2.2.2.2.1).Spec.N,(t17.2.2.2.2.2.1).Spec.S,(t17.2.2.2.2.2.1).Spec.List_,(t17.2.2.2.2.2.1).Spec.Fields⟩:TValue),(⟨(t17.2.2.2.2.2.1).Status.Kind,(t17.2.2.2.2.2.1).Status.N,(t17.2.2.2.2.2.1).Status.S,(t17.2.2.2.2.2.1).Status.List_,(t17.2.2.2.2.2.1).Status.Fields⟩:TValue)⟩:Object)) ((⟨(⟨(⟨#[]⟩:ByteArray),(⟨#[]⟩:ByteArray),(⟨#[]⟩:ByteArray),0,0,0,0,false,0,[],[],[],[]⟩:Meta),(⟨0,0,(⟨#[]⟩:ByteArray),[],[]⟩:TValue),(⟨0,0,(⟨#[]⟩:ByteArray),[],[]⟩:TValue)⟩:Object))).bind fun t40=>some t40 else some false)else some false)else some false)else some false)else some false)else some false))else some false)).bind fun o18=>some o18)))))
def a3:AFn:=⟨105,[(.tmp 6)],
 (.seq (.reg [sq 4 (.box (.t 1)),
sq 6 (.mv (kB false))])
 (.seq (.seq (.sem (.reg [sq 16 (.mv (.t 0)),
sq 17 (.call 6 [(.t 16)]),
sq 18 (.not (.t 17)),
sq 19 (.mv (.t 18)),
zg 20 19 false (.load (some 23) (.t 4)),
zg 21 19 false (.call 7 [(.t 20)]),
zg 22 19 false (.bin .gtr (.t 21) (kI 500)),
sq 23 (.pick (.t 19) (kB true) (.t 22))]))
 (.cond (.t 23)
 (.seq (.reg [sq 24 (.call 8 []),
sq 6 (.mv (.t 24))])
 .ret)
 .skip))
 (.seq (.reg [sq 25 (.mv (.t 0)),
sq 26 (.call 9 [(.t 25)]),
sq 7 (.zbox [dI 0,dI 0,dI 0,dN,dN,dN]),
su (.store 6 (.t 7) (.t 26))])
 (.seq (.regd [sq 28 (.load (some 6) (.t 7)),
sq 29 (.load (some 23) (.t 4)),
zn 30 (.call 11 [(.t 29)]) [1] [1],
zn 31 (.call 10 [(.t 28),(.t 30)]) [0,1,2] [0,1,2],
sd 27 (.mv (.t 31)) [0,1,2,3],
sd 32 (.ext (.t 27) 0) [0,1,2,3,4],
sd 33 (.ext (.t 27) 1) [0,1,2,3,4],
sq 8 (.zbox [dS ⟨#[]⟩,dS ⟨#[]⟩,dS ⟨#[]⟩,dI 0,dI 0,dI 0,dI 0,dB false,dI 0,dN,dN,dN,dN,dI 0,dI 0,dS ⟨#[]⟩,dN,dN,dI 0,dI 0,dS ⟨#[]⟩,dN,dN]),
⟨none,none,.store 23 (.t 8) (.t 32),[0,1,2,3,4,5,7],(.lone [])⟩,
sd 9 (.mv (.t 33)) [0,1,2,3,4,5,6,7,8]])
 (.seq (.seq (.sem (.reg [sq 34 (.mv (.t 9)),
sq 35 (.not (.t 34)),
sq 36 (.mv (.t 35)),
zg 37 36 false (.mv (.t 2)),
zg 38 36 false (.bin .eql (.t 37) (kI 0)),
sq 39 (.pick (.t 36) (kB true) (.t 38)),
sq 40 (.mv (.t 39)),
zg 41 40 false (.mv (.t 2)),
zg 42 40 false (.fieldA 0 (.t 8)),
zg 43 40 false (.fieldA 4 (.t 42)),
zg 44 40 false (.load none (.t 43)),
zg 45 40 false (.bin .eql (.t 41) (.t 44)),
sq 46 (.pick (.t 40) (kB true) (.t 45))]))
 (.cond (.t 46)
 (.seq (.reg [sq 47 (.call 8 []),
sq 6 (.mv (.t 47))])
 .ret)
 .skip))
 (.seq (.reg [sq 48 (.mv (.t 2)),
sq 49 (.fieldA 0 (.t 4)),
sq 50 (.fieldA 4 (.t 49)),
⟨none,none,.store 1 (.t 50) (.t 48),[],(.lone [4,49])⟩])
 (.seq (.reg [sq 52 (.load (some 6) (.t 7)),
sq 53 (.load (some 23) (.t 4)),
sq 54 (.call 12 [(.t 52),(.t 53)]),
sq 51 (.mv (.t 54)),
sq 55 (.ext (.t 51) 0),
sq 56 (.ext (.t 51) 1),
sq 57 (.ext (.t 51) 2),
sq 10 (.zbox [dI 0,dI 0,dI 0,dN,dN,dN]),
sq 11 (.zbox [dS ⟨#[]⟩,dS ⟨#[]⟩,dS ⟨#[]⟩,dI 0,dI 0,dI 0,dI 0,dB false,dI 0,dN,dN,dN,dN,dI 0,dI 0,dS ⟨#[]⟩,dN,dN,dI 0,dI 0,dS ⟨#[]⟩,dN,dN]),
su (.store 6 (.t 10) (.t 55)),
su (.store 23 (.t 11) (.t 56)),
sq 12 (.mv (.t 57))])
 (.seq (.regd [sq 59 (.load (some 6) (.t 7)),
sq 60 (.load (some 23) (.t 4)),
zn 61 (.call 11 [(.t 60)]) [1] [1],
sq 62 (.mv (.t 2)),
zn 63 (.call 13 [(.t 59),(.t 61),(.t 62)]) [0,1,2,3] [0,1,2,3],
sd 58 (.mv (.t 63)) [0,1,2,3,4],
sd 64 (.ext (.t 58) 0) [0,1,2,3,4,5],
sd 65 (.ext (.t 58) 1) [0,1,2,3,4,5],
sd 66 (.ext (.t 58) 2) [0,1,2,3,4,5],
sq 13 (.zbox [dI 0,dI 0,dI 0,dN,dN,dN]),
sq 14 (.zbox [dS ⟨#[]⟩,dS ⟨#[]⟩,dS ⟨#[]⟩,dI 0,dI 0,dI 0,dI 0,dB false,dI 0,dN,dN,dN,dN,dI 0,dI 0,dS ⟨#[]⟩,dN,dN,dI 0,dI 0,dS ⟨#[]⟩,dN,dN]),
⟨none,none,.store 6 (.t 13) (.t 64),[0,1,2,3,4,5,6,9,10],(.lone [])⟩,
⟨none,none,.store 23 (.t 14) (.t 65),[0,1,2,3,4,5,6,7,9,10,11],(.lone [])⟩,
sd 15 (.mv (.t 66)) [0,1,2,3,4,5,6,7,8,9,10,11,12]])
 (.seq (.sem (.reg [sq 67 (.call 8 []),
sq 68 (.mv (.t 67)),
zg 69 68 true (.mv (.t 12)),
zg 70 68 true (.bin .eql (.t 69) (kI 9)),
zg 71 68 true (.mv (.t 70)),
zg 72 71 false (.mv (.t 12)),
zg 73 71 false (.bin .eql (.t 72) (kI 1)),
zg 74 71 false (.mv (.t 73)),
zg 75 74 true (.load (some 23) (.t 4)),
zg 76 74 true (.call 14 [(.t 75)]),
zg 77 74 true (.not (.t 76)),
zg 78 71 false (.pick (.t 74) (.t 77) (kB false)),
zg 79 68 true (.pick (.t 71) (kB true) (.t 78)),
sq 80 (.pick (.t 68) (.t 79) (kB false)),
sq 81 (.mv (.t 80)),
zg 82 81 true (.mv (.t 15)),
zg 83 81 true (.bin .eql (.t 82) (kI 9)),
sq 84 (.pick (.t 81) (.t 83) (kB false)),
sq 85 (.mv (.t 84)),
zg 86 85 true (.load (some 6) (.t 7)),
zg 87 85 true (.load (some 6) (.t 10)),
zg 88 85 true (.call 15 [(.t 86),(.t 87)]),
sq 89 (.pick (.t 85) (.t 88) (kB false)),
sq 90 (.mv (.t 89)),
zg 91 90 true (.load (some 6) (.t 7)),
zg 92 90 true (.load (some 6) (.t 13)),
zg 93 90 true (.call 15 [(.t 91),(.t 92)]),
sq 94 (.pick (.t 90) (.t 93) (kB false)),
sq 95 (.mv (.t 94)),
zg 96 95 true (.load (some 23) (.t 11)),
zg 97 95 true (.build [dS ⟨#[]⟩,dS ⟨#[]⟩,dS ⟨#[]⟩,dI 0,dI 0,dI 0,dI 0,dB false,dI 0,dN,dN,dN,dN,dI 0,dI 0,dS ⟨#[]⟩,dN,dN,dI 0,dI 0,dS ⟨#[]⟩,dN,dN] []),
zg 98 95 true (.call 16 [(.t 96),(.t 97)]),
sq 99 (.pick (.t 95) (.t 98) (kB false)),
sq 100 (.mv (.t 99)),
zg 101 100 true (.load (some 23) (.t 14)),
zg 102 100 true (.build [dS ⟨#[]⟩,dS ⟨#[]⟩,dS ⟨#[]⟩,dI 0,dI 0,dI 0,dI 0,dB false,dI 0,dN,dN,dN,dN,dI 0,dI 0,dS ⟨#[]⟩,dN,dN,dI 0,dI 0,dS ⟨#[]⟩,dN,dN] []),
zg 103 100 true (.call 16 [(.t 101),(.t 102)]),
sq 104 (.pick (.t 100) (.t 103) (kB false)),
sq 6 (.mv (.t 104))]))
 .ret)))))))))⟩
theorem a3_ok:afn Tryz.prog 3=some a3.er:=by kernel_rfl
theorem F3_ok{x0 x1 x2 r}(h:F3 x0 x1 x2=some r):CallD Tryz.prog 3 [.c (dM (x0.map eTOp)),.agg [dS x1.Meta.Kind,dS x1.Meta.Namespace,dS x1.Meta.Name,dI x1.Meta.Uid,dI x1.Meta.Version,dI x1.Meta.Generation,dI x1.Meta.Created,dB x1.Meta.Deleting,dI x1.Meta.DeleteAt,dM (x1.Meta.Labels.map eLabel),dM (x1.Meta.Owners.map eOwner),dM (x1.Meta.Finalizers.map eS),dM (x1.Meta.Managers.map eManager),dI x1.Spec.Kind,dI x1.Spec.N,dS x1.Spec.S,dM (x1.Spec.List_.map eTValue),dM (x1.Spec.Fields.map eTField),dI x1.Status.Kind,dI x1.Status.N,dS x1.Status.S,dM (x1.Status.List_.map eTValue),dM (x1.Status.Fields.map eTField)],.c (dI x2)] [] (tupV [.c (dB r)]) []:=by
 refine callS a3_ok (by simp[a3]) ?_
 rw[F3]at h
 simp only[a3,VW.down,Nat.reduceEqDiff,reduceCtorEq,Nat.reduceAdd,Nat.reduceLeDiff,Nat.reduceLT,Nat.reduceBEq,Nat.reduceSub,EE.down]
 obtain⟨o1,ho,h⟩:=bi h
 refine cutS (fun s=>s=⟨[(0,.one (.c (dM (x0.map eTOp)))),(2,.one (.c (dI x2))),(4,.one (.c (.pt 0 0))),(23,.one (.c (dB o1)))],[some (.box [dS x1.Meta.Kind,dS x1.Meta.Namespace,dS x1.Meta.Name,dI x1.Meta.Uid,dI x1.Meta.Version,dI x1.Meta.Generation,dI x1.Meta.Created,dB x1.Meta.Deleting,dI x1.Meta.DeleteAt,dM (x1.Meta.Labels.map eLabel),dM (x1.Meta.Owners.map eOwner),dM (x1.Meta.Finalizers.map eS),dM (x1.Meta.Managers.map eManager),dI x1.Spec.Kind,dI x1.Spec.N,dS x1.Spec.S,dM (x1.Spec.List_.map eTValue),dM (x1.Spec.Fields.map eTField),dI x1.Status.Kind,dI x1.Status.N,dS x1.Status.S,dM (x1.Status.List_.map eTValue),dM (x1.Status.Fields.map eTField)])]⟩) ?_ ?_
 ·have h:=ho
  clear ho
  refine ww ?_
  obtain⟨t2,ht2,h⟩:=bi h
  refine cN [] (F6_ok ht2) trivial (ww ?_)
  refine guardSBh h (fun g3 h=>?_) (fun g3 h=>?_)
  ·refine ww ?_
   cases h
   exact eM [some 0] rfl
  refine ww ?_
  obtain⟨t4,ht4,h⟩:=bi h
  refine cN [] (F7_ok ht4) trivial (ww ?_)
  cases h
  exact eM [some 0] rfl
 rintro _ rfl
 clear ho
 refine ww ?_
 refine condBh h (fun c5 h=>?_) (fun c5 h=>?_)
 ·refine ww ?_
  obtain⟨t6,ht6,h⟩:=bi h
  refine cN [] (F8_ok ht6) trivial (ww ?_)
  cases h
  exact eF []
 refine ww ?_
 obtain⟨t7,ht7,h⟩:=bi h
 refine cN [] (F9_ok ht7) trivial (ww ?_)
 obtain⟨t8,ht8,h⟩:=bi h
 refine cN [] (F11_ok ht8) trivial (ww ?_)
 obtain⟨t9,ht9,h⟩:=bi h
 refine cN [] (F10_ok ht9) trivial (ww ?_)
 refine kD_new (by simp[wrs,allW,hset]) (ww ?_)
 refine kD_new (by simp[wrs,allW,hset]) (ww ?_)
 obtain⟨o10,ho,h⟩:=bi h
 refine cutS (fun s=>s=⟨[(2,.one (.c (dI x2))),(4,.one (.c (.pt 0 0))),(7,.one (.c (.pt 1 0))),(46,.one (.c (dB o10)))],[some (.box [dS x1.Meta.Kind,dS x1.Meta.Namespace,dS x1.Meta.Name,dI x1.Meta.Uid,dI x1.Meta.Version,dI x1.Meta.Generation,dI x1.Meta.Created,dB x1.Meta.Deleting,dI x1.Meta.DeleteAt,dM (x1.Meta.Labels.map eLabel),dM (x1.Meta.Owners.map eOwner),dM (x1.Meta.Finalizers.map eS),dM (x1.Meta.Managers.map eManager),dI x1.Spec.Kind,dI x1.Spec.N,dS x1.Spec.S,dM (x1.Spec.List_.map eTValue),dM (x1.Spec.Fields.map eTField),dI x1.Status.Kind,dI x1.Status.N,dS x1.Status.S,dM (x1.Status.List_.map eTValue),dM (x1.Status.Fields.map eTField)]),some (.box [dI ((t7).Rev),dI ((t7).Floor),dI ((t7).NextUid),dM (((t7).Base).map eObject),dM (((t7).Objects).map eObject),dM (((t7).History).map eChange)])]⟩) ?_ ?_
 ·have h:=ho
  clear ho
  refine ww ?_
  refine guardSBh h (fun g11 h=>?_) (fun g11 h=>?_)
  ·refine ww ?_
   cases h
   exact eM [some 0,some 1] rfl
  refine ww ?_
  refine guardSh h (fun g12 h=>?_) (fun g12 h=>?_)
  ·refine ww ?_
   cases h
   exact eM [some 0,some 1] rfl
  refine ww ?_
  cases h
  exact eM [some 0,some 1] rfl
 rintro _ rfl
 clear ho
 refine ww ?_
 refine condBh h (fun c13 h=>?_) (fun c13 h=>?_)
 ·refine ww ?_
  obtain⟨t14,ht14,h⟩:=bi h
  refine cN [] (F8_ok ht14) trivial (ww ?_)
  cases h
  exact eF []
 refine ww ?_
 obtain⟨t15,ht15,h⟩:=bi h
 refine cN [] (F12_ok ht15) trivial (ww ?_)
 obtain⟨t16,ht16,h⟩:=bi h
 refine cN [] (F11_ok ht16) trivial (ww ?_)
 obtain⟨t17,ht17,h⟩:=bi h
 refine cN [] (F13_ok ht17) trivial (ww ?_)
 refine kD_new (by simp[wrs,allW,hset]) (ww ?_)
 refine kD_new (by simp[wrs,allW,hset]) (ww ?_)
 refine kD_new (by simp[wrs,allW,hset]) (ww ?_)
 obtain⟨o18,ho,h⟩:=bi h
 refine cutS (fun s=>s=⟨[(6,.one (.c (dB o18)))],[]⟩) ?_ ?_
 ·have h:=ho
  clear ho
  refine ww ?_
  obtain⟨t19,ht19,h⟩:=bi h
  refine cN [] (F8_ok ht19) trivial (ww ?_)
  refine guardSBh h (fun g20 h=>?_) (fun g20 h=>?_)
  ·refine ww ?_
   refine guardSh h (fun g21 h=>?_) (fun g21 h=>?_)
   ·refine ww ?_
    refine guardSh h (fun g22 h=>?_) (fun g22 h=>?_)
    ·refine ww ?_
     obtain⟨t23,ht23,h⟩:=bi h
     refine callX_bor (F15_ok ht23) (by simp only[borAs,bors,hp,List.getElem?_cons_zero,List.getElem?_cons_succ,Option.join_some,List.drop_zero,bor_full',true_and,Nat.zero_add,List.length_map,Nat.le_refl,nrm,List.length_cons,List.length_nil,Nat.reduceAdd,Nat.reduceLeDiff,List.take_succ_cons,List.take_zero,List.take_nil,List.map_cons,List.map_nil,List.length_set,EE.down]) rfl ?_
     refine ww ?_
     refine guardSBh h (fun g24 h=>?_) (fun g24 h=>?_)
     ·refine ww ?_
      obtain⟨t25,ht25,h⟩:=bi h
      refine callX_bor (F15_ok ht25) (by simp only[borAs,bors,hp,List.getElem?_cons_zero,List.getElem?_cons_succ,Option.join_some,List.drop_zero,bor_full',true_and,Nat.zero_add,List.length_map,Nat.le_refl,nrm,List.length_cons,List.length_nil,Nat.reduceAdd,Nat.reduceLeDiff,List.take_succ_cons,List.take_zero,List.take_nil,List.map_cons,List.map_nil,List.length_set,EE.down]) rfl ?_
      refine ww ?_
      refine guardSBh h (fun g26 h=>?_) (fun g26 h=>?_)
      ·refine ww ?_
       obtain⟨t27,ht27,h⟩:=bi h
       refine cN [] (F16_ok ht27) trivial (ww ?_)
       refine guardSBh h (fun g28 h=>?_) (fun g28 h=>?_)
       ·refine ww ?_
        obtain⟨t29,ht29,h⟩:=bi h
        refine cN [] (F16_ok ht29) trivial (ww ?_)
        cases h
        exact eM [] rfl
       refine ww ?_
       cases h
       exact eM [] rfl
      refine ww ?_
      cases h
      exact eM [] rfl
     refine ww ?_
     cases h
     exact eM [] rfl
    refine ww ?_
    cases h
    exact eM [] rfl
   refine ww ?_
   refine guardSh h (fun g30 h=>?_) (fun g30 h=>?_)
   ·refine ww ?_
    obtain⟨t31,ht31,h⟩:=bi h
    refine cN [] (F14_ok ht31) trivial (ww ?_)
    refine guardSBh h (fun g32 h=>?_) (fun g32 h=>?_)
    ·refine ww ?_
     refine guardSh h (fun g33 h=>?_) (fun g33 h=>?_)
     ·refine ww ?_
      obtain⟨t34,ht34,h⟩:=bi h
      refine callX_bor (F15_ok ht34) (by simp only[borAs,bors,hp,List.getElem?_cons_zero,List.getElem?_cons_succ,Option.join_some,List.drop_zero,bor_full',true_and,Nat.zero_add,List.length_map,Nat.le_refl,nrm,List.length_cons,List.length_nil,Nat.reduceAdd,Nat.reduceLeDiff,List.take_succ_cons,List.take_zero,List.take_nil,List.map_cons,List.map_nil,List.length_set,EE.down]) rfl ?_
      refine ww ?_
      refine guardSBh h (fun g35 h=>?_) (fun g35 h=>?_)
      ·refine ww ?_
       obtain⟨t36,ht36,h⟩:=bi h
       refine callX_bor (F15_ok ht36) (by simp only[borAs,bors,hp,List.getElem?_cons_zero,List.getElem?_cons_succ,Option.join_some,List.drop_zero,bor_full',true_and,Nat.zero_add,List.length_map,Nat.le_refl,nrm,List.length_cons,List.length_nil,Nat.reduceAdd,Nat.reduceLeDiff,List.take_succ_cons,List.take_zero,List.take_nil,List.map_cons,List.map_nil,List.length_set,EE.down]) rfl ?_
       refine ww ?_
       refine guardSBh h (fun g37 h=>?_) (fun g37 h=>?_)
       ·refine ww ?_
        obtain⟨t38,ht38,h⟩:=bi h
        refine cN [] (F16_ok ht38) trivial (ww ?_)
        refine guardSBh h (fun g39 h=>?_) (fun g39 h=>?_)
        ·refine ww ?_
         obtain⟨t40,ht40,h⟩:=bi h
         refine cN [] (F16_ok ht40) trivial (ww ?_)
         cases h
         exact eM [] rfl
        refine ww ?_
        cases h
        exact eM [] rfl
       refine ww ?_
       cases h
       exact eM [] rfl
      refine ww ?_
      cases h
      exact eM [] rfl
     refine ww ?_
     cases h
     exact eM [] rfl
    refine ww ?_
    cases h
    exact eM [] rfl
   refine ww ?_
   cases h
   exact eM [] rfl
  refine ww ?_
  cases h
  exact eM [] rfl
 rintro _ rfl
 clear ho
 refine ww ?_
 cases h
 exact eF []
end Go.Proofs.YtbopaemngpbdgaaGreat
