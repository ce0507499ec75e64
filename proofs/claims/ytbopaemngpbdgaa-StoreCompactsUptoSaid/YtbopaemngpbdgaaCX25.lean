/- Each Go function as a function over typed data, and its walk. -/
import Derived.Test.YtbopaemngpbdgaaCX
import Derived.Test.YtbopaemngpbdgaaCX3
import Derived.Test.YtbopaemngpbdgaaCX5
import Derived.Test.YtbopaemngpbdgaaCX13
import Derived.Test.YtbopaemngpbdgaaCX15
import Derived.Test.YtbopaemngpbdgaaCX17
import Derived.Test.YtbopaemngpbdgaaCX18
import Derived.Test.YtbopaemngpbdgaaCX19
import Derived.Test.YtbopaemngpbdgaaCX21
import Derived.Test.YtbopaemngpbdgaaCX22
import Derived.Test.YtbopaemngpbdgaaCX23
import Derived.Test.YtbopaemngpbdgaaCX24
namespace Go.Proofs.Ytbopaemngpbdgaa
open Go Go.Fw Go.Shelf
set_option maxRecDepth 100000
set_option maxHeartbeats 4000000
set_option linter.unusedSimpArgs false
set_option linter.unusedVariables false
def F8:Option (Bool):=(F9).bind fun t1=>(F26 ((⟨#[97]⟩:ByteArray)) 1).bind fun t2=>(F25 ((⟨0,0,1,[],[],[]⟩:TStore)) ((⟨(⟨(⟨#[80,111,100]⟩:ByteArray),(⟨#[110]⟩:ByteArray),((⟨#[97]⟩:ByteArray)),0,0,0,0,false,0,[],[],[],[]⟩:Meta),(⟨2,(1:Int),(⟨#[]⟩:ByteArray),[],[]⟩:TValue),(⟨0,0,(⟨#[]⟩:ByteArray),[],[]⟩:TValue)⟩:Object)) 5).bind fun t3=>(((F12 ((⟨t3.1,t3.2.1,t3.2.2.1,t3.2.2.2.1,t3.2.2.2.2.1,t3.2.2.2.2.2.1⟩:TStore)) ((⟨(⟨(t3.2.2.2.2.2.2.1).Meta.Kind,(t3.2.2.2.2.2.2.1).Meta.Namespace,(t3.2.2.2.2.2.2.1).Meta.Name,(t3.2.2.2.2.2.2.1).Meta.Uid,(t3.2.2.2.2.2.2.1).Meta.Version,(t3.2.2.2.2.2.2.1).Meta.Generation,(t3.2.2.2.2.2.2.1).Meta.Created,(t3.2.2.2.2.2.2.1).Meta.Deleting,(t3.2.2.2.2.2.2.1).Meta.DeleteAt,(t3.2.2.2.2.2.2.1).Meta.Labels,(t3.2.2.2.2.2.2.1).Meta.Owners,(t3.2.2.2.2.2.2.1).Meta.Finalizers,(t3.2.2.2.2.2.2.1).Meta.Managers⟩:Meta),(⟨2,2,(⟨#[]⟩:ByteArray),[],[]⟩:TValue),(⟨(t3.2.2.2.2.2.2.1).Status.Kind,(t3.2.2.2.2.2.2.1).Status.N,(t3.2.2.2.2.2.2.1).Status.S,(t3.2.2.2.2.2.2.1).Status.List_,(t3.2.2.2.2.2.2.1).Status.Fields⟩:TValue)⟩:Object))).bind fun t5=>some ((t5.1,t5.2.1,t5.2.2.1,t5.2.2.2.1,t5.2.2.2.2.1,(⟨(⟨t5.2.2.2.2.2.1,t5.2.2.2.2.2.2.1,t5.2.2.2.2.2.2.2.1,t5.2.2.2.2.2.2.2.2.1,t5.2.2.2.2.2.2.2.2.2.1,t5.2.2.2.2.2.2.2.2.2.2.1,t5.2.2.2.2.2.2.2.2.2.2.2.1,t5.2.2.2.2.2.2.2.2.2.2.2.2.1,t5.2.2.2.2.2.2.2.2.2.2.2.2.2.1,t5.2.2.2.2.2.2.2.2.2.2.2.2.2.2.1,t5.2.2.2.2.2.2.2.2.2.2.2.2.2.2.2.1,t5.2.2.2.2.2.2.2.2.2.2.2.2.2.2.2.2.1,t5.2.2.2.2.2.2.2.2.2.2.2.2.2.2.2.2.2.1⟩:Meta),(⟨t5.2.2.2.2.2.2.2.2.2.2.2.2.2.2.2.2.2.2.1,t5.2.2.2.2.2.2.2.2.2.2.2.2.2.2.2.2.2.2.2.1,t5.2.2.2.2.2.2.2.2.2.2.2.2.2.2.2.2.2.2.2.2.1,t5.2.2.2.2.2.2.2.2.2.2.2.2.2.2.2.2.2.2.2.2.2.1,t5.2.2.2.2.2.2.2.2.2.2.2.2.2.2.2.2.2.2.2.2.2.2.1⟩:TValue),(⟨t5.2.2.2.2.2.2.2.2.2.2.2.2.2.2.2.2.2.2.2.2.2.2.2.1,t5.2.2.2.2.2.2.2.2.2.2.2.2.2.2.2.2.2.2.2.2.2.2.2.2.1,t5.2.2.2.2.2.2.2.2.2.2.2.2.2.2.2.2.2.2.2.2.2.2.2.2.2.1,t5.2.2.2.2.2.2.2.2.2.2.2.2.2.2.2.2.2.2.2.2.2.2.2.2.2.2.1,t5.2.2.2.2.2.2.2.2.2.2.2.2.2.2.2.2.2.2.2.2.2.2.2.2.2.2.2.1⟩:TValue)⟩:Object),t5.2.2.2.2.2.2.2.2.2.2.2.2.2.2.2.2.2.2.2.2.2.2.2.2.2.2.2.2))).bind fun o4=>(F12 ((⟨o4.1,o4.2.1,t3.2.2.1,o4.2.2.1,o4.2.2.2.1,o4.2.2.2.2.1⟩:TStore)) ((⟨(⟨(t3.2.2.2.2.2.2.1).Meta.Kind,(t3.2.2.2.2.2.2.1).Meta.Namespace,(t3.2.2.2.2.2.2.1).Meta.Name,(t3.2.2.2.2.2.2.1).Meta.Uid,(t3.2.2.2.2.2.2.1).Meta.Version,(t3.2.2.2.2.2.2.1).Meta.Generation,(t3.2.2.2.2.2.2.1).Meta.Created,(t3.2.2.2.2.2.2.1).Meta.Deleting,(t3.2.2.2.2.2.2.1).Meta.DeleteAt,(t3.2.2.2.2.2.2.1).Meta.Labels,(t3.2.2.2.2.2.2.1).Meta.Owners,(t3.2.2.2.2.2.2.1).Meta.Finalizers,(t3.2.2.2.2.2.2.1).Meta.Managers⟩:Meta),(⟨2,2,(⟨#[]⟩:ByteArray),[],[]⟩:TValue),(⟨(t3.2.2.2.2.2.2.1).Status.Kind,(t3.2.2.2.2.2.2.1).Status.N,(t3.2.2.2.2.2.2.1).Status.S,(t3.2.2.2.2.2.2.1).Status.List_,(t3.2.2.2.2.2.2.1).Status.Fields⟩:TValue)⟩:Object))).bind fun t6=>(F16 ((⟨o4.1,o4.2.1,t3.2.2.1,o4.2.2.1,o4.2.2.2.1,o4.2.2.2.2.1⟩:TStore)) 1).bind fun t7=>(F27 ((⟨o4.1,o4.2.1,t3.2.2.1,o4.2.2.1,o4.2.2.2.1,o4.2.2.2.2.1⟩:TStore)) ((⟨#[80,111,100,47,110,47,97]⟩:ByteArray)) 0).bind fun t8=>(((F19 ((⟨t8.1,t8.2.1,t3.2.2.1,t8.2.2.1,t8.2.2.2.1,t8.2.2.2.2.1⟩:TStore)) 2).bind fun t10=>some ((t10.1,t10.2.1,t10.2.2.1,t10.2.2.2.1,t10.2.2.2.2))).bind fun o9=>(F16 ((⟨t8.1,o9.1,t3.2.2.1,o9.2.1,o9.2.2.1,o9.2.2.2.1⟩:TStore)) 1).bind fun t11=>(((if¬(t3.2.2.2.2.2.2.2=0)then some true else(if¬(o4.2.2.2.2.2.2=0)then some true else(if¬(t6.2.2.2.2.2.2.2.2.2.2.2.2.2.2.2.2.2.2.2.2.2.2.2.2.2.2.2.2=9)then some true else(if¬(t7.2=0)then some true else(if¬(t8.2.2.2.2.2.2=0)then some true else(if¬(o9.2.2.2.2=0)then some true else some (decide (¬(t11.2=10)))))))))).bind fun o12=>(if o12=true then some false else(((if(t3.2.2.2.2.2.2.1).Meta.Uid=1 then(if(t3.2.2.2.2.2.2.1).Meta.Version=1 then(if(t3.2.2.2.2.2.2.1).Meta.Generation=1 then(if(t3.2.2.2.2.2.2.1).Meta.Created=5 then(if(o4.2.2.2.2.2.1).Meta.Version=2 then(if(o4.2.2.2.2.2.1).Meta.Generation=2 then(if(t7.1.length:Int)=1 then(rdI t7.1 0).bind fun y28=>(if y28.Spec.N=1 then(if(t8.2.2.2.2.2.1).Meta.Version=3 then(if t8.1=3 then(if(o9.2.2.1.length:Int)=0 then some (decide ((o9.2.2.2.1.length:Int)=1))else some false)else some false)else some false)else some false)else some false)else some false)else some false)else some false)else some false)else some false)else some false)).bind fun o20=>some o20)))))
def a8:AFn:=⟨158,[(.tmp 0)],
 (.seq (.reg [sq 0 (.mv (kB false))])
 (.seq (.reg [sq 18 (.call 9 []),
sq 19 (.call 26 [(kS ⟨#[97]⟩),(kI 1)]),
sq 20 (.call 25 [(.t 18),(.t 19),(kI 5)]),
sq 17 (.mv (.t 20)),
sq 21 (.ext (.t 17) 0),
sq 22 (.ext (.t 17) 1),
sq 23 (.ext (.t 17) 2),
sq 1 (.zbox [dI 0,dI 0,dI 0,dN,dN,dN]),
sq 2 (.zbox [dS ⟨#[]⟩,dS ⟨#[]⟩,dS ⟨#[]⟩,dI 0,dI 0,dI 0,dI 0,dB false,dI 0,dN,dN,dN,dN,dI 0,dI 0,dS ⟨#[]⟩,dN,dN,dI 0,dI 0,dS ⟨#[]⟩,dN,dN]),
su (.store 6 (.t 1) (.t 21)),
su (.store 23 (.t 2) (.t 22)),
sq 3 (.mv (.t 23))])
 (.seq (.reg [sq 24 (.load (some 23) (.t 2)),
sq 4 (.zbox [dS ⟨#[]⟩,dS ⟨#[]⟩,dS ⟨#[]⟩,dI 0,dI 0,dI 0,dI 0,dB false,dI 0,dN,dN,dN,dN,dI 0,dI 0,dS ⟨#[]⟩,dN,dN,dI 0,dI 0,dS ⟨#[]⟩,dN,dN]),
su (.store 23 (.t 4) (.t 24))])
 (.seq (.reg [sq 25 (.build [dI 0,dI 0,dS ⟨#[]⟩,dN,dN] [(0,1,(kI 2)),(1,1,(kI 2))]),
sq 26 (.fieldA 13 (.t 4)),
su (.store 5 (.t 26) (.t 25))])
 (.seq (.sem (.reg [sq 28 (.load (some 6) (.t 1)),
sq 29 (.load (some 23) (.t 4)),
sq 30 (.call 12 [(.t 28),(.t 29)]),
sq 27 (.mv (.t 30)),
sq 31 (.ext (.t 27) 0),
sq 32 (.ext (.t 27) 1),
sq 33 (.ext (.t 27) 2),
sq 5 (.zbox [dS ⟨#[]⟩,dS ⟨#[]⟩,dS ⟨#[]⟩,dI 0,dI 0,dI 0,dI 0,dB false,dI 0,dN,dN,dN,dN,dI 0,dI 0,dS ⟨#[]⟩,dN,dN,dI 0,dI 0,dS ⟨#[]⟩,dN,dN]),
su (.store 6 (.t 1) (.t 31)),
su (.store 23 (.t 5) (.t 32)),
sq 6 (.mv (.t 33))]))
 (.seq (.reg [sq 35 (.load (some 6) (.t 1)),
sq 36 (.load (some 23) (.t 4)),
sq 37 (.call 12 [(.t 35),(.t 36)]),
sq 34 (.mv (.t 37)),
sq 38 (.ext (.t 34) 0),
sq 39 (.ext (.t 34) 1),
sq 40 (.ext (.t 34) 2),
sq 7 (.zbox [dI 0,dI 0,dI 0,dN,dN,dN]),
sq 8 (.zbox [dS ⟨#[]⟩,dS ⟨#[]⟩,dS ⟨#[]⟩,dI 0,dI 0,dI 0,dI 0,dB false,dI 0,dN,dN,dN,dN,dI 0,dI 0,dS ⟨#[]⟩,dN,dN,dI 0,dI 0,dS ⟨#[]⟩,dN,dN]),
su (.store 6 (.t 7) (.t 38)),
su (.store 23 (.t 8) (.t 39)),
sq 9 (.mv (.t 40))])
 (.seq (.reg [sq 42 (.load (some 6) (.t 1)),
sq 43 (.call 16 [(.t 42),(kI 1)]),
sq 41 (.mv (.t 43)),
sq 44 (.ext (.t 41) 0),
sq 45 (.ext (.t 41) 1),
sq 10 (.mv (.t 44)),
sq 11 (.mv (.t 45))])
 (.seq (.reg [sq 47 (.load (some 6) (.t 1)),
sq 48 (.call 27 [(.t 47),(kS ⟨#[80,111,100,47,110,47,97]⟩),(kI 0)]),
sq 46 (.mv (.t 48)),
sq 49 (.ext (.t 46) 0),
sq 50 (.ext (.t 46) 1),
sq 51 (.ext (.t 46) 2),
sq 12 (.zbox [dS ⟨#[]⟩,dS ⟨#[]⟩,dS ⟨#[]⟩,dI 0,dI 0,dI 0,dI 0,dB false,dI 0,dN,dN,dN,dN,dI 0,dI 0,dS ⟨#[]⟩,dN,dN,dI 0,dI 0,dS ⟨#[]⟩,dN,dN]),
su (.store 6 (.t 1) (.t 49)),
su (.store 23 (.t 12) (.t 50)),
sq 13 (.mv (.t 51))])
 (.seq (.sem (.reg [sq 53 (.load (some 6) (.t 1)),
sq 54 (.call 19 [(.t 53),(kI 2)]),
sq 52 (.mv (.t 54)),
sq 55 (.ext (.t 52) 0),
sq 56 (.ext (.t 52) 1),
su (.store 6 (.t 1) (.t 55)),
sq 14 (.mv (.t 56))]))
 (.seq (.reg [sq 58 (.load (some 6) (.t 1)),
sq 59 (.call 16 [(.t 58),(kI 1)]),
sq 57 (.mv (.t 59)),
sq 60 (.ext (.t 57) 0),
sq 61 (.ext (.t 57) 1),
sq 15 (.mv (.t 60)),
sq 16 (.mv (.t 61))])
 (.seq (.seq (.sem (.reg [sq 62 (.mv (.t 3)),
sq 63 (.bin .neq (.t 62) (kI 0)),
sq 64 (.mv (.t 63)),
zg 65 64 false (.mv (.t 6)),
zg 66 64 false (.bin .neq (.t 65) (kI 0)),
sq 67 (.pick (.t 64) (kB true) (.t 66)),
sq 68 (.mv (.t 67)),
zg 69 68 false (.mv (.t 9)),
zg 70 68 false (.bin .neq (.t 69) (kI 9)),
sq 71 (.pick (.t 68) (kB true) (.t 70)),
sq 72 (.mv (.t 71)),
zg 73 72 false (.mv (.t 11)),
zg 74 72 false (.bin .neq (.t 73) (kI 0)),
sq 75 (.pick (.t 72) (kB true) (.t 74)),
sq 76 (.mv (.t 75)),
zg 77 76 false (.mv (.t 13)),
zg 78 76 false (.bin .neq (.t 77) (kI 0)),
sq 79 (.pick (.t 76) (kB true) (.t 78)),
sq 80 (.mv (.t 79)),
zg 81 80 false (.mv (.t 14)),
zg 82 80 false (.bin .neq (.t 81) (kI 0)),
sq 83 (.pick (.t 80) (kB true) (.t 82)),
sq 84 (.mv (.t 83)),
zg 85 84 false (.mv (.t 16)),
zg 86 84 false (.bin .neq (.t 85) (kI 10)),
sq 87 (.pick (.t 84) (kB true) (.t 86))]))
 (.cond (.t 87)
 (.seq (.reg [sq 0 (.mv (kB false))])
 .ret)
 .skip))
 (.seq (.sem (.reg [sq 88 (.fieldA 0 (.t 2)),
sq 89 (.fieldA 3 (.t 88)),
sq 90 (.load none (.t 89)),
sq 91 (.bin .eql (.t 90) (kI 1)),
sq 92 (.mv (.t 91)),
zg 93 92 true (.fieldA 0 (.t 2)),
zg 94 92 true (.fieldA 4 (.t 93)),
zg 95 92 true (.load none (.t 94)),
zg 96 92 true (.bin .eql (.t 95) (kI 1)),
sq 97 (.pick (.t 92) (.t 96) (kB false)),
sq 98 (.mv (.t 97)),
zg 99 98 true (.fieldA 0 (.t 2)),
zg 100 98 true (.fieldA 5 (.t 99)),
zg 101 98 true (.load none (.t 100)),
zg 102 98 true (.bin .eql (.t 101) (kI 1)),
sq 103 (.pick (.t 98) (.t 102) (kB false)),
sq 104 (.mv (.t 103)),
zg 105 104 true (.fieldA 0 (.t 2)),
zg 106 104 true (.fieldA 6 (.t 105)),
zg 107 104 true (.load none (.t 106)),
zg 108 104 true (.bin .eql (.t 107) (kI 5)),
sq 109 (.pick (.t 104) (.t 108) (kB false)),
sq 110 (.mv (.t 109)),
zg 111 110 true (.fieldA 0 (.t 5)),
zg 112 110 true (.fieldA 4 (.t 111)),
zg 113 110 true (.load none (.t 112)),
zg 114 110 true (.bin .eql (.t 113) (kI 2)),
sq 115 (.pick (.t 110) (.t 114) (kB false)),
sq 116 (.mv (.t 115)),
zg 117 116 true (.fieldA 0 (.t 5)),
zg 118 116 true (.fieldA 5 (.t 117)),
zg 119 116 true (.load none (.t 118)),
zg 120 116 true (.bin .eql (.t 119) (kI 2)),
sq 121 (.pick (.t 116) (.t 120) (kB false)),
sq 122 (.mv (.t 121)),
zg 123 122 true (.mv (.t 10)),
zg 124 122 true (.len (.t 123)),
zg 125 122 true (.bin .eql (.t 124) (kI 1)),
sq 126 (.pick (.t 122) (.t 125) (kB false)),
sq 127 (.mv (.t 126)),
zg 128 127 true (.mv (.t 10)),
zg 129 127 true (.indexA 23 (.t 128) (kI 0)),
zg 130 127 true (.fieldA 13 (.t 129)),
zg 131 127 true (.fieldA 1 (.t 130)),
zg 132 127 true (.load none (.t 131)),
zg 133 127 true (.bin .eql (.t 132) (kI 1)),
sq 134 (.pick (.t 127) (.t 133) (kB false)),
sq 135 (.mv (.t 134)),
zg 136 135 true (.fieldA 0 (.t 12)),
zg 137 135 true (.fieldA 4 (.t 136)),
zg 138 135 true (.load none (.t 137)),
zg 139 135 true (.bin .eql (.t 138) (kI 3)),
sq 140 (.pick (.t 135) (.t 139) (kB false)),
sq 141 (.mv (.t 140)),
zg 142 141 true (.fieldA 0 (.t 1)),
zg 143 141 true (.load none (.t 142)),
zg 144 141 true (.bin .eql (.t 143) (kI 3)),
sq 145 (.pick (.t 141) (.t 144) (kB false)),
sq 146 (.mv (.t 145)),
zg 147 146 true (.fieldA 4 (.t 1)),
zg 148 146 true (.load none (.t 147)),
zg 149 146 true (.len (.t 148)),
zg 150 146 true (.bin .eql (.t 149) (kI 0)),
sq 151 (.pick (.t 146) (.t 150) (kB false)),
sq 152 (.mv (.t 151)),
zg 153 152 true (.fieldA 5 (.t 1)),
zg 154 152 true (.load none (.t 153)),
zg 155 152 true (.len (.t 154)),
zg 156 152 true (.bin .eql (.t 155) (kI 1)),
sq 157 (.pick (.t 152) (.t 156) (kB false)),
sq 0 (.mv (.t 157))]))
 .ret))))))))))))⟩
theorem a8_ok:afn Try.prog 8=some a8.er:=by kernel_rfl
theorem F8_ok{r}(h:F8=some r):CallD Try.prog 8 [] [] (tupV [.c (dB r)]) []:=by
 refine callS a8_ok (by simp[a8]) ?_
 rw[F8]at h
 simp only[a8,VW.down,Nat.reduceEqDiff,reduceCtorEq,Nat.reduceAdd,Nat.reduceLeDiff,Nat.reduceLT,Nat.reduceBEq,Nat.reduceSub,EE.down]
 obtain⟨t1,ht1,h⟩:=bi h
 refine cN [] (F9_ok ht1) trivial (ww ?_)
 obtain⟨t2,ht2,h⟩:=bi h
 refine cN [] (F26_ok ht2) trivial (ww ?_)
 obtain⟨t3,ht3,h⟩:=bi h
 refine cN [] (F25_ok ht3) trivial (ww ?_)
 obtain⟨o4,ho,h⟩:=bi h
 refine cutS (fun s=>s=⟨[(1,.one (.c (.pt 0 0))),(2,.one (.c (.pt 1 0))),(3,.one (.c (dI t3.2.2.2.2.2.2.2))),(4,.one (.c (.pt 2 0))),(5,.one (.c (.pt 3 0))),(6,.one (.c (dI o4.2.2.2.2.2.2)))],[some (.box [dI o4.1,dI o4.2.1,dI t3.2.2.1,dM (o4.2.2.1.map eObject),dM (o4.2.2.2.1.map eObject),dM (o4.2.2.2.2.1.map eChange)]),some (.box [dS ((t3.2.2.2.2.2.2.1).Meta.Kind),dS ((t3.2.2.2.2.2.2.1).Meta.Namespace),dS ((t3.2.2.2.2.2.2.1).Meta.Name),dI ((t3.2.2.2.2.2.2.1).Meta.Uid),dI ((t3.2.2.2.2.2.2.1).Meta.Version),dI ((t3.2.2.2.2.2.2.1).Meta.Generation),dI ((t3.2.2.2.2.2.2.1).Meta.Created),dB ((t3.2.2.2.2.2.2.1).Meta.Deleting),dI ((t3.2.2.2.2.2.2.1).Meta.DeleteAt),dM (((t3.2.2.2.2.2.2.1).Meta.Labels).map eLabel),dM (((t3.2.2.2.2.2.2.1).Meta.Owners).map eOwner),dM (((t3.2.2.2.2.2.2.1).Meta.Finalizers).map eS),dM (((t3.2.2.2.2.2.2.1).Meta.Managers).map eManager),dI ((t3.2.2.2.2.2.2.1).Spec.Kind),dI ((t3.2.2.2.2.2.2.1).Spec.N),dS ((t3.2.2.2.2.2.2.1).Spec.S),dM (((t3.2.2.2.2.2.2.1).Spec.List_).map eTValue),dM (((t3.2.2.2.2.2.2.1).Spec.Fields).map eTField),dI ((t3.2.2.2.2.2.2.1).Status.Kind),dI ((t3.2.2.2.2.2.2.1).Status.N),dS ((t3.2.2.2.2.2.2.1).Status.S),dM (((t3.2.2.2.2.2.2.1).Status.List_).map eTValue),dM (((t3.2.2.2.2.2.2.1).Status.Fields).map eTField)]),some (.box [dS ((t3.2.2.2.2.2.2.1).Meta.Kind),dS ((t3.2.2.2.2.2.2.1).Meta.Namespace),dS ((t3.2.2.2.2.2.2.1).Meta.Name),dI ((t3.2.2.2.2.2.2.1).Meta.Uid),dI ((t3.2.2.2.2.2.2.1).Meta.Version),dI ((t3.2.2.2.2.2.2.1).Meta.Generation),dI ((t3.2.2.2.2.2.2.1).Meta.Created),dB ((t3.2.2.2.2.2.2.1).Meta.Deleting),dI ((t3.2.2.2.2.2.2.1).Meta.DeleteAt),dM (((t3.2.2.2.2.2.2.1).Meta.Labels).map eLabel),dM (((t3.2.2.2.2.2.2.1).Meta.Owners).map eOwner),dM (((t3.2.2.2.2.2.2.1).Meta.Finalizers).map eS),dM (((t3.2.2.2.2.2.2.1).Meta.Managers).map eManager),dI 2,dI 2,dS ((⟨#[]⟩:ByteArray)),dN,dN,dI ((t3.2.2.2.2.2.2.1).Status.Kind),dI ((t3.2.2.2.2.2.2.1).Status.N),dS ((t3.2.2.2.2.2.2.1).Status.S),dM (((t3.2.2.2.2.2.2.1).Status.List_).map eTValue),dM (((t3.2.2.2.2.2.2.1).Status.Fields).map eTField)]),some (.box [dS ((o4.2.2.2.2.2.1).Meta.Kind),dS ((o4.2.2.2.2.2.1).Meta.Namespace),dS ((o4.2.2.2.2.2.1).Meta.Name),dI ((o4.2.2.2.2.2.1).Meta.Uid),dI ((o4.2.2.2.2.2.1).Meta.Version),dI ((o4.2.2.2.2.2.1).Meta.Generation),dI ((o4.2.2.2.2.2.1).Meta.Created),dB ((o4.2.2.2.2.2.1).Meta.Deleting),dI ((o4.2.2.2.2.2.1).Meta.DeleteAt),dM (((o4.2.2.2.2.2.1).Meta.Labels).map eLabel),dM (((o4.2.2.2.2.2.1).Meta.Owners).map eOwner),dM (((o4.2.2.2.2.2.1).Meta.Finalizers).map eS),dM (((o4.2.2.2.2.2.1).Meta.Managers).map eManager),dI ((o4.2.2.2.2.2.1).Spec.Kind),dI ((o4.2.2.2.2.2.1).Spec.N),dS ((o4.2.2.2.2.2.1).Spec.S),dM (((o4.2.2.2.2.2.1).Spec.List_).map eTValue),dM (((o4.2.2.2.2.2.1).Spec.Fields).map eTField),dI ((o4.2.2.2.2.2.1).Status.Kind),dI ((o4.2.2.2.2.2.1).Status.N),dS ((o4.2.2.2.2.2.1).Status.S),dM (((o4.2.2.2.2.2.1).Status.List_).map eTValue),dM (((o4.2.2.2.2.2.1).Status.Fields).map eTField)])]⟩) ?_ ?_
 ·have h:=ho
  clear ho
  refine ww ?_
  obtain⟨t5,ht5,h⟩:=bi h
  refine callX_gen (as1:=[.agg [dI t3.1,dI t3.2.1,dI t3.2.2.1,dM (t3.2.2.2.1.map eObject),dM (t3.2.2.2.2.1.map eObject),dM (t3.2.2.2.2.2.1.map eChange)],.agg [dS ((t3.2.2.2.2.2.2.1).Meta.Kind),dS ((t3.2.2.2.2.2.2.1).Meta.Namespace),dS ((t3.2.2.2.2.2.2.1).Meta.Name),dI ((t3.2.2.2.2.2.2.1).Meta.Uid),dI ((t3.2.2.2.2.2.2.1).Meta.Version),dI ((t3.2.2.2.2.2.2.1).Meta.Generation),dI ((t3.2.2.2.2.2.2.1).Meta.Created),dB ((t3.2.2.2.2.2.2.1).Meta.Deleting),dI ((t3.2.2.2.2.2.2.1).Meta.DeleteAt),dM (((t3.2.2.2.2.2.2.1).Meta.Labels).map eLabel),dM (((t3.2.2.2.2.2.2.1).Meta.Owners).map eOwner),dM (((t3.2.2.2.2.2.2.1).Meta.Finalizers).map eS),dM (((t3.2.2.2.2.2.2.1).Meta.Managers).map eManager),dI 2,dI 2,dS ((⟨#[]⟩:ByteArray)),dM [],dM [],dI ((t3.2.2.2.2.2.2.1).Status.Kind),dI ((t3.2.2.2.2.2.2.1).Status.N),dS ((t3.2.2.2.2.2.2.1).Status.S),dM (((t3.2.2.2.2.2.2.1).Status.List_).map eTValue),dM (((t3.2.2.2.2.2.2.1).Status.Fields).map eTField)]]) [(0,.arr 1 23 []),(1,.arr 1 23 []),(2,.arr 1 25 []),(3,.box [dI t3.1,dI t3.2.1,dI t3.2.2.1,.own 0 0 0 0 (some 0),.own 1 0 0 0 (some 0),.own 2 0 0 0 (some 0)])] [none,none,none,some 3,some 4,some 5] [] (F12_ok ht5) ⟨?_,rfl,?_⟩ ?_ ?_ ?_ ?_ ?_ ?_ ?_ ?_
  ·simp only[ZZ.down,Nat.reduceEqDiff,reduceCtorEq,Nat.reduceAdd,Nat.reduceLeDiff,Nat.reduceLT,Nat.reduceBNe,EE.down]
  ·simp only[ZZ.down,Nat.reduceEqDiff,reduceCtorEq,Nat.reduceAdd,Nat.reduceLeDiff,Nat.reduceLT,Nat.reduceBNe,EE.down]
  ·simp only[ZZ.down,Nat.reduceEqDiff,reduceCtorEq,Nat.reduceAdd,Nat.reduceLeDiff,Nat.reduceLT,Nat.reduceBNe,EE.down]
  ·rfl
  ·rfl
  ·simp[liveAll,A1.live,C.live]
  ·rfl
  ·decide
  ·exact trivial
  refine ww ?_
  cases h
  exact eM [some 3,some 4,some 5,some 9] rfl
 rintro _ rfl
 clear ho
 refine ww ?_
 obtain⟨t6,ht6,h⟩:=bi h
 refine cN [] (F12_ok ht6) trivial (ww ?_)
 obtain⟨t7,ht7,h⟩:=bi h
 refine cN [] (F16_ok ht7) trivial (ww ?_)
 obtain⟨t8,ht8,h⟩:=bi h
 refine cN [] (F27_ok ht8) trivial (ww ?_)
 obtain⟨o9,ho,h⟩:=bi h
 refine cutS (fun s=>s=⟨[(1,.one (.c (.pt 0 0))),(2,.one (.c (.pt 1 0))),(3,.one (.c (dI t3.2.2.2.2.2.2.2))),(5,.one (.c (.pt 2 0))),(6,.one (.c (dI o4.2.2.2.2.2.2))),(9,.one (.c (dI t6.2.2.2.2.2.2.2.2.2.2.2.2.2.2.2.2.2.2.2.2.2.2.2.2.2.2.2.2))),(10,.one (.c (dM (t7.1.map eObject)))),(11,.one (.c (dI t7.2))),(12,.one (.c (.pt 3 0))),(13,.one (.c (dI t8.2.2.2.2.2.2))),(14,.one (.c (dI o9.2.2.2.2)))],[some (.box [dI t8.1,dI o9.1,dI t3.2.2.1,dM (o9.2.1.map eObject),dM (o9.2.2.1.map eObject),dM (o9.2.2.2.1.map eChange)]),some (.box [dS ((t3.2.2.2.2.2.2.1).Meta.Kind),dS ((t3.2.2.2.2.2.2.1).Meta.Namespace),dS ((t3.2.2.2.2.2.2.1).Meta.Name),dI ((t3.2.2.2.2.2.2.1).Meta.Uid),dI ((t3.2.2.2.2.2.2.1).Meta.Version),dI ((t3.2.2.2.2.2.2.1).Meta.Generation),dI ((t3.2.2.2.2.2.2.1).Meta.Created),dB ((t3.2.2.2.2.2.2.1).Meta.Deleting),dI ((t3.2.2.2.2.2.2.1).Meta.DeleteAt),dM (((t3.2.2.2.2.2.2.1).Meta.Labels).map eLabel),dM (((t3.2.2.2.2.2.2.1).Meta.Owners).map eOwner),dM (((t3.2.2.2.2.2.2.1).Meta.Finalizers).map eS),dM (((t3.2.2.2.2.2.2.1).Meta.Managers).map eManager),dI ((t3.2.2.2.2.2.2.1).Spec.Kind),dI ((t3.2.2.2.2.2.2.1).Spec.N),dS ((t3.2.2.2.2.2.2.1).Spec.S),dM (((t3.2.2.2.2.2.2.1).Spec.List_).map eTValue),dM (((t3.2.2.2.2.2.2.1).Spec.Fields).map eTField),dI ((t3.2.2.2.2.2.2.1).Status.Kind),dI ((t3.2.2.2.2.2.2.1).Status.N),dS ((t3.2.2.2.2.2.2.1).Status.S),dM (((t3.2.2.2.2.2.2.1).Status.List_).map eTValue),dM (((t3.2.2.2.2.2.2.1).Status.Fields).map eTField)]),some (.box [dS ((o4.2.2.2.2.2.1).Meta.Kind),dS ((o4.2.2.2.2.2.1).Meta.Namespace),dS ((o4.2.2.2.2.2.1).Meta.Name),dI ((o4.2.2.2.2.2.1).Meta.Uid),dI ((o4.2.2.2.2.2.1).Meta.Version),dI ((o4.2.2.2.2.2.1).Meta.Generation),dI ((o4.2.2.2.2.2.1).Meta.Created),dB ((o4.2.2.2.2.2.1).Meta.Deleting),dI ((o4.2.2.2.2.2.1).Meta.DeleteAt),dM (((o4.2.2.2.2.2.1).Meta.Labels).map eLabel),dM (((o4.2.2.2.2.2.1).Meta.Owners).map eOwner),dM (((o4.2.2.2.2.2.1).Meta.Finalizers).map eS),dM (((o4.2.2.2.2.2.1).Meta.Managers).map eManager),dI ((o4.2.2.2.2.2.1).Spec.Kind),dI ((o4.2.2.2.2.2.1).Spec.N),dS ((o4.2.2.2.2.2.1).Spec.S),dM (((o4.2.2.2.2.2.1).Spec.List_).map eTValue),dM (((o4.2.2.2.2.2.1).Spec.Fields).map eTField),dI ((o4.2.2.2.2.2.1).Status.Kind),dI ((o4.2.2.2.2.2.1).Status.N),dS ((o4.2.2.2.2.2.1).Status.S),dM (((o4.2.2.2.2.2.1).Status.List_).map eTValue),dM (((o4.2.2.2.2.2.1).Status.Fields).map eTField)]),some (.box [dS ((t8.2.2.2.2.2.1).Meta.Kind),dS ((t8.2.2.2.2.2.1).Meta.Namespace),dS ((t8.2.2.2.2.2.1).Meta.Name),dI ((t8.2.2.2.2.2.1).Meta.Uid),dI ((t8.2.2.2.2.2.1).Meta.Version),dI ((t8.2.2.2.2.2.1).Meta.Generation),dI ((t8.2.2.2.2.2.1).Meta.Created),dB ((t8.2.2.2.2.2.1).Meta.Deleting),dI ((t8.2.2.2.2.2.1).Meta.DeleteAt),dM (((t8.2.2.2.2.2.1).Meta.Labels).map eLabel),dM (((t8.2.2.2.2.2.1).Meta.Owners).map eOwner),dM (((t8.2.2.2.2.2.1).Meta.Finalizers).map eS),dM (((t8.2.2.2.2.2.1).Meta.Managers).map eManager),dI ((t8.2.2.2.2.2.1).Spec.Kind),dI ((t8.2.2.2.2.2.1).Spec.N),dS ((t8.2.2.2.2.2.1).Spec.S),dM (((t8.2.2.2.2.2.1).Spec.List_).map eTValue),dM (((t8.2.2.2.2.2.1).Spec.Fields).map eTField),dI ((t8.2.2.2.2.2.1).Status.Kind),dI ((t8.2.2.2.2.2.1).Status.N),dS ((t8.2.2.2.2.2.1).Status.S),dM (((t8.2.2.2.2.2.1).Status.List_).map eTValue),dM (((t8.2.2.2.2.2.1).Status.Fields).map eTField)])]⟩) ?_ ?_
 ·have h:=ho
  clear ho
  refine ww ?_
  obtain⟨t10,ht10,h⟩:=bi h
  refine callX_gen (as1:=[.agg [dI t8.1,dI t8.2.1,dI t3.2.2.1,dM (t8.2.2.1.map eObject),dM (t8.2.2.2.1.map eObject),dM (t8.2.2.2.2.1.map eChange)],.c (dI 2)]) [(10,.arr 1 23 []),(11,.arr 1 23 []),(12,.arr 1 25 []),(0,.box [dI t8.1,dI t8.2.1,dI t3.2.2.1,.own 10 0 0 0 (some 0),.own 11 0 0 0 (some 0),.own 12 0 0 0 (some 0)])] [some 0,some 1,some 2,some 3,some 4,some 5,some 6,some 7,some 8,some 9,none,none,none,some 13] [] (F19_ok ht10) ⟨?_,rfl,?_⟩ ?_ ?_ ?_ ?_ ?_ ?_ ?_ ?_
  ·simp only[ZZ.down,Nat.reduceEqDiff,reduceCtorEq,Nat.reduceAdd,Nat.reduceLeDiff,Nat.reduceLT,Nat.reduceBNe,EE.down]
  ·simp only[ZZ.down,Nat.reduceEqDiff,reduceCtorEq,Nat.reduceAdd,Nat.reduceLeDiff,Nat.reduceLT,Nat.reduceBNe,EE.down]
  ·simp only[ZZ.down,Nat.reduceEqDiff,reduceCtorEq,Nat.reduceAdd,Nat.reduceLeDiff,Nat.reduceLT,Nat.reduceBNe,EE.down]
  ·rfl
  ·rfl
  ·simp[liveAll,A1.live,C.live]
  ·rfl
  ·decide
  ·exact trivial
  refine ww ?_
  cases h
  exact eM [some 0,some 1,some 3,some 13] rfl
 rintro _ rfl
 clear ho
 refine ww ?_
 obtain⟨t11,ht11,h⟩:=bi h
 refine cN [] (F16_ok ht11) trivial (ww ?_)
 obtain⟨o12,ho,h⟩:=bi h
 refine cutS (fun s=>s=⟨[(1,.one (.c (.pt 0 0))),(2,.one (.c (.pt 1 0))),(5,.one (.c (.pt 2 0))),(10,.one (.c (dM (t7.1.map eObject)))),(12,.one (.c (.pt 3 0))),(87,.one (.c (dB o12)))],[some (.box [dI t8.1,dI o9.1,dI t3.2.2.1,dM (o9.2.1.map eObject),dM (o9.2.2.1.map eObject),dM (o9.2.2.2.1.map eChange)]),some (.box [dS ((t3.2.2.2.2.2.2.1).Meta.Kind),dS ((t3.2.2.2.2.2.2.1).Meta.Namespace),dS ((t3.2.2.2.2.2.2.1).Meta.Name),dI ((t3.2.2.2.2.2.2.1).Meta.Uid),dI ((t3.2.2.2.2.2.2.1).Meta.Version),dI ((t3.2.2.2.2.2.2.1).Meta.Generation),dI ((t3.2.2.2.2.2.2.1).Meta.Created),dB ((t3.2.2.2.2.2.2.1).Meta.Deleting),dI ((t3.2.2.2.2.2.2.1).Meta.DeleteAt),dM (((t3.2.2.2.2.2.2.1).Meta.Labels).map eLabel),dM (((t3.2.2.2.2.2.2.1).Meta.Owners).map eOwner),dM (((t3.2.2.2.2.2.2.1).Meta.Finalizers).map eS),dM (((t3.2.2.2.2.2.2.1).Meta.Managers).map eManager),dI ((t3.2.2.2.2.2.2.1).Spec.Kind),dI ((t3.2.2.2.2.2.2.1).Spec.N),dS ((t3.2.2.2.2.2.2.1).Spec.S),dM (((t3.2.2.2.2.2.2.1).Spec.List_).map eTValue),dM (((t3.2.2.2.2.2.2.1).Spec.Fields).map eTField),dI ((t3.2.2.2.2.2.2.1).Status.Kind),dI ((t3.2.2.2.2.2.2.1).Status.N),dS ((t3.2.2.2.2.2.2.1).Status.S),dM (((t3.2.2.2.2.2.2.1).Status.List_).map eTValue),dM (((t3.2.2.2.2.2.2.1).Status.Fields).map eTField)]),some (.box [dS ((o4.2.2.2.2.2.1).Meta.Kind),dS ((o4.2.2.2.2.2.1).Meta.Namespace),dS ((o4.2.2.2.2.2.1).Meta.Name),dI ((o4.2.2.2.2.2.1).Meta.Uid),dI ((o4.2.2.2.2.2.1).Meta.Version),dI ((o4.2.2.2.2.2.1).Meta.Generation),dI ((o4.2.2.2.2.2.1).Meta.Created),dB ((o4.2.2.2.2.2.1).Meta.Deleting),dI ((o4.2.2.2.2.2.1).Meta.DeleteAt),dM (((o4.2.2.2.2.2.1).Meta.Labels).map eLabel),dM (((o4.2.2.2.2.2.1).Meta.Owners).map eOwner),dM (((o4.2.2.2.2.2.1).Meta.Finalizers).map eS),dM (((o4.2.2.2.2.2.1).Meta.Managers).map eManager),dI ((o4.2.2.2.2.2.1).Spec.Kind),dI ((o4.2.2.2.2.2.1).Spec.N),dS ((o4.2.2.2.2.2.1).Spec.S),dM (((o4.2.2.2.2.2.1).Spec.List_).map eTValue),dM (((o4.2.2.2.2.2.1).Spec.Fields).map eTField),dI ((o4.2.2.2.2.2.1).Status.Kind),dI ((o4.2.2.2.2.2.1).Status.N),dS ((o4.2.2.2.2.2.1).Status.S),dM (((o4.2.2.2.2.2.1).Status.List_).map eTValue),dM (((o4.2.2.2.2.2.1).Status.Fields).map eTField)]),some (.box [dS ((t8.2.2.2.2.2.1).Meta.Kind),dS ((t8.2.2.2.2.2.1).Meta.Namespace),dS ((t8.2.2.2.2.2.1).Meta.Name),dI ((t8.2.2.2.2.2.1).Meta.Uid),dI ((t8.2.2.2.2.2.1).Meta.Version),dI ((t8.2.2.2.2.2.1).Meta.Generation),dI ((t8.2.2.2.2.2.1).Meta.Created),dB ((t8.2.2.2.2.2.1).Meta.Deleting),dI ((t8.2.2.2.2.2.1).Meta.DeleteAt),dM (((t8.2.2.2.2.2.1).Meta.Labels).map eLabel),dM (((t8.2.2.2.2.2.1).Meta.Owners).map eOwner),dM (((t8.2.2.2.2.2.1).Meta.Finalizers).map eS),dM (((t8.2.2.2.2.2.1).Meta.Managers).map eManager),dI ((t8.2.2.2.2.2.1).Spec.Kind),dI ((t8.2.2.2.2.2.1).Spec.N),dS ((t8.2.2.2.2.2.1).Spec.S),dM (((t8.2.2.2.2.2.1).Spec.List_).map eTValue),dM (((t8.2.2.2.2.2.1).Spec.Fields).map eTField),dI ((t8.2.2.2.2.2.1).Status.Kind),dI ((t8.2.2.2.2.2.1).Status.N),dS ((t8.2.2.2.2.2.1).Status.S),dM (((t8.2.2.2.2.2.1).Status.List_).map eTValue),dM (((t8.2.2.2.2.2.1).Status.Fields).map eTField)])]⟩) ?_ ?_
 ·have h:=ho
  clear ho
  refine ww ?_
  refine guardSh h (fun g13 h=>?_) (fun g13 h=>?_)
  ·refine ww ?_
   cases h
   exact eM [some 0,some 1,some 2,some 3] rfl
  refine ww ?_
  refine guardSh h (fun g14 h=>?_) (fun g14 h=>?_)
  ·refine ww ?_
   cases h
   exact eM [some 0,some 1,some 2,some 3] rfl
  refine ww ?_
  refine guardSh h (fun g15 h=>?_) (fun g15 h=>?_)
  ·refine ww ?_
   cases h
   exact eM [some 0,some 1,some 2,some 3] rfl
  refine ww ?_
  refine guardSh h (fun g16 h=>?_) (fun g16 h=>?_)
  ·refine ww ?_
   cases h
   exact eM [some 0,some 1,some 2,some 3] rfl
  refine ww ?_
  refine guardSh h (fun g17 h=>?_) (fun g17 h=>?_)
  ·refine ww ?_
   cases h
   exact eM [some 0,some 1,some 2,some 3] rfl
  refine ww ?_
  refine guardSh h (fun g18 h=>?_) (fun g18 h=>?_)
  ·refine ww ?_
   cases h
   exact eM [some 0,some 1,some 2,some 3] rfl
  refine ww ?_
  cases h
  exact eM [some 0,some 1,some 2,some 3] rfl
 rintro _ rfl
 clear ho
 refine ww ?_
 refine condBh h (fun c19 h=>?_) (fun c19 h=>?_)
 ·refine ww ?_
  cases h
  exact eF []
 refine ww ?_
 obtain⟨o20,ho,h⟩:=bi h
 refine cutS (fun s=>s=⟨[(0,.one (.c (dB o20)))],[]⟩) ?_ ?_
 ·have h:=ho
  clear ho
  refine ww ?_
  refine guardSh h (fun g21 h=>?_) (fun g21 h=>?_)
  ·refine ww ?_
   refine guardSh h (fun g22 h=>?_) (fun g22 h=>?_)
   ·refine ww ?_
    refine guardSh h (fun g23 h=>?_) (fun g23 h=>?_)
    ·refine ww ?_
     refine guardSh h (fun g24 h=>?_) (fun g24 h=>?_)
     ·refine ww ?_
      refine guardSh h (fun g25 h=>?_) (fun g25 h=>?_)
      ·refine ww ?_
       refine guardSh h (fun g26 h=>?_) (fun g26 h=>?_)
       ·refine ww ?_
        refine guardSh h (fun g27 h=>?_) (fun g27 h=>?_)
        ·refine ww ?_
         obtain⟨y28,hy28,h⟩:=bi h
         refine t_idxF (enc:=eObject) (xs:=t7.1) rfl rfl hy28 rfl (ww ?_)
         refine guardSh h (fun g29 h=>?_) (fun g29 h=>?_)
         ·refine ww ?_
          refine guardSh h (fun g30 h=>?_) (fun g30 h=>?_)
          ·refine ww ?_
           refine guardSh h (fun g31 h=>?_) (fun g31 h=>?_)
           ·refine ww ?_
            refine guardSh h (fun g32 h=>?_) (fun g32 h=>?_)
            ·refine ww ?_
             cases h
             exact eM [] rfl
            refine ww ?_
            cases h
            exact eM [] rfl
           refine ww ?_
           cases h
           exact eM [] rfl
          refine ww ?_
          cases h
          exact eM [] rfl
         refine ww ?_
         cases h
         exact eM [] rfl
        refine ww ?_
        cases h
        exact eM [] rfl
       refine ww ?_
       cases h
       exact eM [] rfl
      refine ww ?_
      cases h
      exact eM [] rfl
     refine ww ?_
     cases h
     exact eM [] rfl
    refine ww ?_
    cases h
    exact eM [] rfl
   refine ww ?_
   cases h
   exact eM [] rfl
  refine ww ?_
  cases h
  exact eM [] rfl
 rintro _ rfl
 clear ho
 refine ww ?_
 cases h
 exact eF []
def F10(x0:TStore)(x1:TOp):Option (Int×Int×Int×(List Object)×(List Object)×(List Change)×Object×Int):=(F28 x0 x1).bind fun t1=>(if x1.Kind=1 then(F25 x0 ((⟨(⟨x1.O.Meta.Kind,x1.O.Meta.Namespace,x1.O.Meta.Name,x1.O.Meta.Uid,t1.1,x1.O.Meta.Generation,x1.O.Meta.Created,x1.O.Meta.Deleting,x1.O.Meta.DeleteAt,x1.O.Meta.Labels,x1.O.Meta.Owners,x1.O.Meta.Finalizers,x1.O.Meta.Managers⟩:Meta),x1.O.Spec,x1.O.Status⟩:Object)) x1.Now).bind fun t3=>some ((t3.1,t3.2.1,t3.2.2.1,t3.2.2.2.1,t3.2.2.2.2.1,t3.2.2.2.2.2.1,(⟨(⟨(t3.2.2.2.2.2.2.1).Meta.Kind,(t3.2.2.2.2.2.2.1).Meta.Namespace,(t3.2.2.2.2.2.2.1).Meta.Name,(t3.2.2.2.2.2.2.1).Meta.Uid,(t3.2.2.2.2.2.2.1).Meta.Version,(t3.2.2.2.2.2.2.1).Meta.Generation,(t3.2.2.2.2.2.2.1).Meta.Created,(t3.2.2.2.2.2.2.1).Meta.Deleting,(t3.2.2.2.2.2.2.1).Meta.DeleteAt,(t3.2.2.2.2.2.2.1).Meta.Labels,(t3.2.2.2.2.2.2.1).Meta.Owners,(t3.2.2.2.2.2.2.1).Meta.Finalizers,(t3.2.2.2.2.2.2.1).Meta.Managers⟩:Meta),(⟨(t3.2.2.2.2.2.2.1).Spec.Kind,(t3.2.2.2.2.2.2.1).Spec.N,(t3.2.2.2.2.2.2.1).Spec.S,(t3.2.2.2.2.2.2.1).Spec.List_,(t3.2.2.2.2.2.2.1).Spec.Fields⟩:TValue),(⟨(t3.2.2.2.2.2.2.1).Status.Kind,(t3.2.2.2.2.2.2.1).Status.N,(t3.2.2.2.2.2.2.1).Status.S,(t3.2.2.2.2.2.2.1).Status.List_,(t3.2.2.2.2.2.2.1).Status.Fields⟩:TValue)⟩:Object),t3.2.2.2.2.2.2.2))else(if x1.Kind=2 then(F12 x0 ((⟨(⟨x1.O.Meta.Kind,x1.O.Meta.Namespace,x1.O.Meta.Name,x1.O.Meta.Uid,t1.1,x1.O.Meta.Generation,x1.O.Meta.Created,x1.O.Meta.Deleting,x1.O.Meta.DeleteAt,x1.O.Meta.Labels,x1.O.Meta.Owners,x1.O.Meta.Finalizers,x1.O.Meta.Managers⟩:Meta),x1.O.Spec,x1.O.Status⟩:Object))).bind fun t5=>some ((t5.1,t5.2.1,x0.NextUid,t5.2.2.1,t5.2.2.2.1,t5.2.2.2.2.1,(⟨(⟨t5.2.2.2.2.2.1,t5.2.2.2.2.2.2.1,t5.2.2.2.2.2.2.2.1,t5.2.2.2.2.2.2.2.2.1,t5.2.2.2.2.2.2.2.2.2.1,t5.2.2.2.2.2.2.2.2.2.2.1,t5.2.2.2.2.2.2.2.2.2.2.2.1,t5.2.2.2.2.2.2.2.2.2.2.2.2.1,t5.2.2.2.2.2.2.2.2.2.2.2.2.2.1,t5.2.2.2.2.2.2.2.2.2.2.2.2.2.2.1,t5.2.2.2.2.2.2.2.2.2.2.2.2.2.2.2.1,t5.2.2.2.2.2.2.2.2.2.2.2.2.2.2.2.2.1,t5.2.2.2.2.2.2.2.2.2.2.2.2.2.2.2.2.2.1⟩:Meta),(⟨t5.2.2.2.2.2.2.2.2.2.2.2.2.2.2.2.2.2.2.1,t5.2.2.2.2.2.2.2.2.2.2.2.2.2.2.2.2.2.2.2.1,t5.2.2.2.2.2.2.2.2.2.2.2.2.2.2.2.2.2.2.2.2.1,t5.2.2.2.2.2.2.2.2.2.2.2.2.2.2.2.2.2.2.2.2.2.1,t5.2.2.2.2.2.2.2.2.2.2.2.2.2.2.2.2.2.2.2.2.2.2.1⟩:TValue),(⟨t5.2.2.2.2.2.2.2.2.2.2.2.2.2.2.2.2.2.2.2.2.2.2.2.1,t5.2.2.2.2.2.2.2.2.2.2.2.2.2.2.2.2.2.2.2.2.2.2.2.2.1,t5.2.2.2.2.2.2.2.2.2.2.2.2.2.2.2.2.2.2.2.2.2.2.2.2.2.1,t5.2.2.2.2.2.2.2.2.2.2.2.2.2.2.2.2.2.2.2.2.2.2.2.2.2.2.1,t5.2.2.2.2.2.2.2.2.2.2.2.2.2.2.2.2.2.2.2.2.2.2.2.2.2.2.2.1⟩:TValue)⟩:Object),t5.2.2.2.2.2.2.2.2.2.2.2.2.2.2.2.2.2.2.2.2.2.2.2.2.2.2.2.2))else(if x1.Kind=3 then(F27 x0 x1.Key t1.2).bind fun t7=>some ((t7.1,t7.2.1,x0.NextUid,t7.2.2.1,t7.2.2.2.1,t7.2.2.2.2.1,(⟨(⟨(t7.2.2.2.2.2.1).Meta.Kind,(t7.2.2.2.2.2.1).Meta.Namespace,(t7.2.2.2.2.2.1).Meta.Name,(t7.2.2.2.2.2.1).Meta.Uid,(t7.2.2.2.2.2.1).Meta.Version,(t7.2.2.2.2.2.1).Meta.Generation,(t7.2.2.2.2.2.1).Meta.Created,(t7.2.2.2.2.2.1).Meta.Deleting,(t7.2.2.2.2.2.1).Meta.DeleteAt,(t7.2.2.2.2.2.1).Meta.Labels,(t7.2.2.2.2.2.1).Meta.Owners,(t7.2.2.2.2.2.1).Meta.Finalizers,(t7.2.2.2.2.2.1).Meta.Managers⟩:Meta),(⟨(t7.2.2.2.2.2.1).Spec.Kind,(t7.2.2.2.2.2.1).Spec.N,(t7.2.2.2.2.2.1).Spec.S,(t7.2.2.2.2.2.1).Spec.List_,(t7.2.2.2.2.2.1).Spec.Fields⟩:TValue),(⟨(t7.2.2.2.2.2.1).Status.Kind,(t7.2.2.2.2.2.1).Status.N,(t7.2.2.2.2.2.1).Status.S,(t7.2.2.2.2.2.1).Status.List_,(t7.2.2.2.2.2.1).Status.Fields⟩:TValue)⟩:Object),t7.2.2.2.2.2.2))else(F19 x0 x1.Rev).bind fun t8=>some ((x0.Rev,t8.1,x0.NextUid,t8.2.1,t8.2.2.1,t8.2.2.2.1,(⟨(⟨(⟨#[]⟩:ByteArray),(⟨#[]⟩:ByteArray),(⟨#[]⟩:ByteArray),0,0,0,0,false,0,[],[],[],[]⟩:Meta),(⟨0,0,(⟨#[]⟩:ByteArray),[],[]⟩:TValue),(⟨0,0,(⟨#[]⟩:ByteArray),[],[]⟩:TValue)⟩:Object),t8.2.2.2.2)))))
def a10:AFn:=⟨57,[(.cell 4 (some 6)),(.cell 5 (some 23)),(.tmp 6)],
 (.seq (.reg [sq 2 (.box (.t 0)),
sq 3 (.box (.t 1)),
sq 4 (.zbox [dI 0,dI 0,dI 0,dN,dN,dN]),
sq 5 (.zbox [dS ⟨#[]⟩,dS ⟨#[]⟩,dS ⟨#[]⟩,dI 0,dI 0,dI 0,dI 0,dB false,dI 0,dN,dN,dN,dN,dI 0,dI 0,dS ⟨#[]⟩,dN,dN,dI 0,dI 0,dS ⟨#[]⟩,dN,dN]),
sq 6 (.mv (kI 0))])
 (.seq (.reg [sq 12 (.load (some 6) (.t 2)),
sq 13 (.load (some 28) (.t 3)),
sq 14 (.call 28 [(.t 12),(.t 13)]),
sq 11 (.mv (.t 14)),
sq 15 (.ext (.t 11) 0),
sq 16 (.ext (.t 11) 1),
sq 7 (.zbox [dS ⟨#[]⟩,dS ⟨#[]⟩,dS ⟨#[]⟩,dI 0,dI 0,dI 0,dI 0,dB false,dI 0,dN,dN,dN,dN,dI 0,dI 0,dS ⟨#[]⟩,dN,dN,dI 0,dI 0,dS ⟨#[]⟩,dN,dN]),
su (.store 23 (.t 7) (.t 15)),
sq 8 (.mv (.t 16))])
 (.seq (.seq (.reg [sq 17 (.fieldA 0 (.t 3)),
sq 18 (.load none (.t 17))])
 (.block 0 (.seq (.reg [sq 20 (.bin .eql (.t 18) (kI 1)),
sq 19 (.mv (.t 20))])
 (.cond (.t 19)
 (.seq (.reg [sq 21 (.load (some 6) (.t 2)),
sq 22 (.load (some 23) (.t 7)),
sq 23 (.fieldA 26 (.t 3)),
sq 24 (.load none (.t 23)),
sq 25 (.call 25 [(.t 21),(.t 22),(.t 24)]),
sq 26 (.ext (.t 25) 0),
sq 27 (.ext (.t 25) 1),
sq 28 (.ext (.t 25) 2),
su (.store 6 (.t 4) (.t 26)),
su (.store 23 (.t 5) (.t 27)),
sq 6 (.mv (.t 28))])
 .ret)
 (.seq (.reg [sq 30 (.bin .eql (.t 18) (kI 2)),
sq 29 (.mv (.t 30))])
 (.cond (.t 29)
 (.seq (.reg [sq 31 (.load (some 6) (.t 2)),
sq 32 (.load (some 23) (.t 7)),
sq 33 (.call 12 [(.t 31),(.t 32)]),
sq 34 (.ext (.t 33) 0),
sq 35 (.ext (.t 33) 1),
sq 36 (.ext (.t 33) 2),
su (.store 6 (.t 4) (.t 34)),
su (.store 23 (.t 5) (.t 35)),
sq 6 (.mv (.t 36))])
 .ret)
 (.seq (.reg [sq 38 (.bin .eql (.t 18) (kI 3)),
sq 37 (.mv (.t 38))])
 (.cond (.t 37)
 (.seq (.reg [sq 39 (.load (some 6) (.t 2)),
sq 40 (.fieldA 24 (.t 3)),
sq 41 (.load none (.t 40)),
sq 42 (.mv (.t 8)),
sq 43 (.call 27 [(.t 39),(.t 41),(.t 42)]),
sq 44 (.ext (.t 43) 0),
sq 45 (.ext (.t 43) 1),
sq 46 (.ext (.t 43) 2),
su (.store 6 (.t 4) (.t 44)),
su (.store 23 (.t 5) (.t 45)),
sq 6 (.mv (.t 46))])
 .ret)
 .skip))))))))
 (.seq (.reg [sq 48 (.load (some 6) (.t 2)),
sq 49 (.fieldA 27 (.t 3)),
sq 50 (.load none (.t 49)),
sq 51 (.call 19 [(.t 48),(.t 50)]),
sq 47 (.mv (.t 51)),
sq 52 (.ext (.t 47) 0),
sq 53 (.ext (.t 47) 1),
sq 9 (.zbox [dI 0,dI 0,dI 0,dN,dN,dN]),
su (.store 6 (.t 9) (.t 52)),
sq 10 (.mv (.t 53))])
 (.seq (.reg [sq 54 (.load (some 6) (.t 9)),
sq 55 (.build [dS ⟨#[]⟩,dS ⟨#[]⟩,dS ⟨#[]⟩,dI 0,dI 0,dI 0,dI 0,dB false,dI 0,dN,dN,dN,dN,dI 0,dI 0,dS ⟨#[]⟩,dN,dN,dI 0,dI 0,dS ⟨#[]⟩,dN,dN] []),
sq 56 (.mv (.t 10)),
su (.store 6 (.t 4) (.t 54)),
su (.store 23 (.t 5) (.t 55)),
sq 6 (.mv (.t 56))])
 .ret)))))⟩
theorem a10_ok:afn Try.prog 10=some a10.er:=by kernel_rfl
theorem F10_ok{x0 x1 r}(h:F10 x0 x1=some r):CallD Try.prog 10 [.agg [dI x0.Rev,dI x0.Floor,dI x0.NextUid,dM (x0.Base.map eObject),dM (x0.Objects.map eObject),dM (x0.History.map eChange)],.agg [dI x1.Kind,dS x1.O.Meta.Kind,dS x1.O.Meta.Namespace,dS x1.O.Meta.Name,dI x1.O.Meta.Uid,dI x1.O.Meta.Version,dI x1.O.Meta.Generation,dI x1.O.Meta.Created,dB x1.O.Meta.Deleting,dI x1.O.Meta.DeleteAt,dM (x1.O.Meta.Labels.map eLabel),dM (x1.O.Meta.Owners.map eOwner),dM (x1.O.Meta.Finalizers.map eS),dM (x1.O.Meta.Managers.map eManager),dI x1.O.Spec.Kind,dI x1.O.Spec.N,dS x1.O.Spec.S,dM (x1.O.Spec.List_.map eTValue),dM (x1.O.Spec.Fields.map eTField),dI x1.O.Status.Kind,dI x1.O.Status.N,dS x1.O.Status.S,dM (x1.O.Status.List_.map eTValue),dM (x1.O.Status.Fields.map eTField),dS x1.Key,dI x1.Version,dI x1.Now,dI x1.Rev]] [] (tupV [.agg [dI r.1,dI r.2.1,dI r.2.2.1,.own 0 0 0 (r.2.2.2.1.length) none,.own 1 0 0 (r.2.2.2.2.1.length) none,.own 2 0 0 (r.2.2.2.2.2.1.length) none],.agg [dS ((r.2.2.2.2.2.2.1).Meta.Kind),dS ((r.2.2.2.2.2.2.1).Meta.Namespace),dS ((r.2.2.2.2.2.2.1).Meta.Name),dI ((r.2.2.2.2.2.2.1).Meta.Uid),dI ((r.2.2.2.2.2.2.1).Meta.Version),dI ((r.2.2.2.2.2.2.1).Meta.Generation),dI ((r.2.2.2.2.2.2.1).Meta.Created),dB ((r.2.2.2.2.2.2.1).Meta.Deleting),dI ((r.2.2.2.2.2.2.1).Meta.DeleteAt),dM (((r.2.2.2.2.2.2.1).Meta.Labels).map eLabel),dM (((r.2.2.2.2.2.2.1).Meta.Owners).map eOwner),dM (((r.2.2.2.2.2.2.1).Meta.Finalizers).map eS),dM (((r.2.2.2.2.2.2.1).Meta.Managers).map eManager),dI ((r.2.2.2.2.2.2.1).Spec.Kind),dI ((r.2.2.2.2.2.2.1).Spec.N),dS ((r.2.2.2.2.2.2.1).Spec.S),dM (((r.2.2.2.2.2.2.1).Spec.List_).map eTValue),dM (((r.2.2.2.2.2.2.1).Spec.Fields).map eTField),dI ((r.2.2.2.2.2.2.1).Status.Kind),dI ((r.2.2.2.2.2.2.1).Status.N),dS ((r.2.2.2.2.2.2.1).Status.S),dM (((r.2.2.2.2.2.2.1).Status.List_).map eTValue),dM (((r.2.2.2.2.2.2.1).Status.Fields).map eTField)],.c (dI r.2.2.2.2.2.2.2)]) [some (.arr 0 23 (r.2.2.2.1.map eObject)),some (.arr 0 23 (r.2.2.2.2.1.map eObject)),some (.arr 0 25 (r.2.2.2.2.2.1.map eChange))]:=by
 refine callS a10_ok (by simp[a10]) ?_
 rw[F10]at h
 simp only[a10,VW.down,Nat.reduceEqDiff,reduceCtorEq,Nat.reduceAdd,Nat.reduceLeDiff,Nat.reduceLT,Nat.reduceBEq,Nat.reduceSub,EE.down]
 obtain⟨t1,ht1,h⟩:=bi h
 refine cN [] (F28_ok ht1) trivial (ww ?_)
 refine condSh h (fun c2 h=>?_) (fun c2 h=>?_)
 ·refine ww ?_
  obtain⟨t3,ht3,h⟩:=bi h
  refine cN [] (F25_ok ht3) trivial (ww ?_)
  cases h
  exact eF [some 5,some 6,some 7]
 refine ww ?_
 refine condSh h (fun c4 h=>?_) (fun c4 h=>?_)
 ·refine ww ?_
  obtain⟨t5,ht5,h⟩:=bi h
  refine cN [] (F12_ok ht5) trivial (ww ?_)
  cases h
  exact eF [some 5,some 6,some 7]
 refine ww ?_
 refine condSh h (fun c6 h=>?_) (fun c6 h=>?_)
 ·refine ww ?_
  obtain⟨t7,ht7,h⟩:=bi h
  refine cN [] (F27_ok ht7) trivial (ww ?_)
  cases h
  exact eF [some 5,some 6,some 7]
 refine ww ?_
 obtain⟨t8,ht8,h⟩:=bi h
 refine cN [] (F19_ok ht8) trivial (ww ?_)
 cases h
 exact eF [some 5,some 6,some 7]
def F14_l2:List TOp→Nat→Int→Int→Int→(List Object)→(List Object)→(List Change)→Option (TStore)
 |[],o2_6,o2_0,o2_1,o2_2,o2_3,o2_4,o2_5=>some ((⟨o2_0,o2_1,o2_2,o2_3,o2_4,o2_5⟩:TStore))
 |xo2::xs,o2_6,o2_0,o2_1,o2_2,o2_3,o2_4,o2_5=>(F10 ((⟨o2_0,o2_1,o2_2,o2_3,o2_4,o2_5⟩:TStore)) xo2).bind fun t4=>F14_l2 xs (o2_6+1) t4.1 t4.2.1 t4.2.2.1 t4.2.2.2.1 t4.2.2.2.2.1 t4.2.2.2.2.2.1
def F14(x0:(List TOp)):Option (TStore):=(F9).bind fun t1=>(((ck (0≤x0.length∧x0.length≤4294967290)).bind fun u5=>F14_l2 x0 0 0 0 1 ([]) ([]) ([])).bind fun o2=>some ((⟨(o2).Rev,(o2).Floor,(o2).NextUid,(o2).Base,(o2).Objects,(o2).History⟩:TStore)))
def a14:AFn:=⟨23,[(.cell 2 (some 6))],
 (.seq (.reg [zl 2 (.zbox [dI 0,dI 0,dI 0,dN,dN,dN]) [] []])
 (.seq (.reg [sq 5 (.call 9 []),
sq 3 (.zbox [dI 0,dI 0,dI 0,dN,dN,dN]),
su (.store 6 (.t 3) (.t 5))])
 (.seq (.seq (.reg [sq 4 (.mv (kI 0))])
 (.sem (.block 0 (.loop (.seq (.seq (.reg [sq 6 (.mv (.t 4)),
sq 7 (.mv (.t 0)),
sq 8 (.len (.t 7)),
sq 9 (.bin .lss (.t 6) (.t 8))])
 (.cond (.t 9)
 .skip
 (.exit 0)))
 (.seq (.block 1 (.regd [sq 13 (.load (some 6) (.t 3)),
sq 14 (.mv (.t 0)),
sq 15 (.mv (.t 4)),
sd 16 (.indexA 28 (.t 14) (.t 15)) [1,2],
sd 17 (.load (some 28) (.t 16)) [1,2,3],
zl 18 (.call 10 [(.t 13),(.t 17)]) [0,1,2,3,4] [],
sd 12 (.mv (.t 18)) [0,1,2,3,4,5],
sd 19 (.ext (.t 12) 0) [0,1,2,3,4,5,6],
sd 20 (.ext (.t 12) 1) [0,1,2,3,4,5,6],
sd 21 (.ext (.t 12) 2) [0,1,2,3,4,5,6],
⟨none,none,.store 6 (.t 3) (.t 19),[0,1,2,3,4,5,6,7],(.lone [])⟩]))
 (.reg [sq 10 (.mv (.t 4)),
sq 11 (.bin .add (.t 10) (kI 1)),
sq 4 (.mv (.t 11))])))))))
 (.seq (.reg [sq 22 (.load (some 6) (.t 3)),
⟨none,none,.store 6 (.t 2) (.t 22),[],(.lone [3])⟩])
 .ret))))⟩
theorem a14_ok:afn Try.prog 14=some a14.er:=by kernel_rfl
theorem F14_ok{x0 r}(h:F14 x0=some r):CallD Try.prog 14 [.c (dM (x0.map eTOp))] [] (tupV [.agg [dI ((r).Rev),dI ((r).Floor),dI ((r).NextUid),dM (((r).Base).map eObject),dM (((r).Objects).map eObject),dM (((r).History).map eChange)]]) []:=by
 refine callS a14_ok (by simp[a14]) ?_
 rw[F14]at h
 simp only[a14,VW.down,Nat.reduceEqDiff,reduceCtorEq,Nat.reduceAdd,Nat.reduceLeDiff,Nat.reduceLT,Nat.reduceBEq,Nat.reduceSub,EE.down]
 obtain⟨t1,ht1,h⟩:=bi h
 refine cN [] (F9_ok ht1) trivial (ww ?_)
 obtain⟨o2,ho,h⟩:=bi h
 refine cutS (fun s=>s=⟨[(2,.one (.c (.pt 0 0))),(3,.one (.c (.pt 1 0)))],[some (.box [dI 0,dI 0,dI 0,dN,dN,dN]),some (.box [dI ((o2).Rev),dI ((o2).Floor),dI ((o2).NextUid),dM (((o2).Base).map eObject),dM (((o2).Objects).map eObject),dM (((o2).History).map eChange)])]⟩) ?_ ?_
 ·have h:=ho
  clear ho
  obtain⟨_,hk,h⟩:=bi h
  have hk:=ck_some hk
  refine ww ?_
  refine bL (fun j s=>∃(o2_6:Nat) (o2_0:Int) (o2_1:Int) (o2_2:Int) (o2_3:List Object) (o2_4:List Object) (o2_5:List Change),(o2_6≤x0.length∧j=x0.length-o2_6)∧s=⟨[(0,.one (.c (dM (x0.map eTOp)))),(2,.one (.c (.pt 0 0))),(3,.one (.c (.pt 1 0))),(4,.one (.c (dI ((o2_6:Int)))))],[some (.box [dI 0,dI 0,dI 0,dN,dN,dN]),some (.box [dI o2_0,dI o2_1,dI o2_2,dM (o2_3.map eObject),dM (o2_4.map eObject),dM (o2_5.map eChange)])]⟩∧F14_l2 (x0.drop o2_6) o2_6 o2_0 o2_1 o2_2 o2_3 o2_4 o2_5=some o2) (x0.length-0) [some 0,some 1] ⟨0,0,0,1,[],[],[],⟨hk.1,rfl⟩,rfl,h⟩ ?_
  rintro _ _ ⟨o2_6,o2_0,o2_1,o2_2,o2_3,o2_4,o2_5,⟨hi,rfl⟩,rfl,h⟩
  refine ww ?_
  refine condS (fun c3=>?_) (fun c3=>?_)
  ·obtain⟨xo2,hxo2,hd⟩:=countY (show(o2_6:Int)<(x0.length:Int)from c3)
   rw[hd,F14_l2]at h
   refine ww ?_
   refine t_idxF (enc:=eTOp) (xs:=x0) rfl rfl hxo2 rfl (ww ?_)
   obtain⟨t4,ht4,h⟩:=bi h
   refine cN [] (F10_ok ht4) trivial (ww ?_)
   rw[wrapN (by omega)]
   exact eL' (x0.length-(o2_6+1)) [some 0,some 1] ⟨o2_6+1,t4.1,t4.2.1,t4.2.2.1,t4.2.2.2.1,t4.2.2.2.2.1,t4.2.2.2.2.2.1,⟨by omega,rfl⟩,rfl,h⟩ (by omega)
  rw[countN (show¬((o2_6:Int)<(x0.length:Int))from c3),F14_l2]at h
  refine ww ?_
  cases h
  exact eM [some 0,some 1] rfl
 rintro _ rfl
 clear ho
 refine ww ?_
 cases h
 exact eF []
def F5_l23(t4:TStore)(t5:Int×(List Object)×(List Object)×(List Change)×Int):Nat→Int→Option ((Bool) ⊕ (Unit))
 |0,_=>none
 |k+1,o23_0=>(if o23_0≤(t4).Rev then(((F16 ((⟨(t4).Rev,(t4).Floor,(t4).NextUid,(t4).Base,(t4).Objects,(t4).History⟩:TStore)) o23_0).bind fun t26=>some ((t26.1,t26.2))).bind fun o25=>(F16 ((⟨((t4).Rev),t5.1,((t4).NextUid),t5.2.1,t5.2.2.1,t5.2.2.2.1⟩:TStore)) o23_0).bind fun t27=>(((if¬(o25.2=0)then some true else(if¬(t27.2=0)then some true else(F17 o25.1 t27.1).bind fun t31=>some (nb t31)))).bind fun o28=>(if o28=true then(some false).map Sum.inl else F5_l23 t4 t5 k ((IntKind.i64.wrap (o23_0+1))))))else some (Sum.inr (())))
def F5(x0:(List TOp))(x1:Int):Option (Bool):=(F7 x0).bind fun t1=>(if(nb t1)=true then(F8).bind fun t3=>some t3 else(F14 x0).bind fun t4=>(F19 ((⟨(t4).Rev,(t4).Floor,(t4).NextUid,(t4).Base,(t4).Objects,(t4).History⟩:TStore)) x1).bind fun t5=>(((if x1<(t4).Floor then some true else some (decide ((t4).Rev<x1)))).bind fun o6=>(if o6=true then(((F8).bind fun t10=>(if t10=true then(if t5.2.2.2.2=5 then(F11 ((⟨(t4).Rev,(t4).Floor,(t4).NextUid,(t4).Base,(t4).Objects,(t4).History⟩:TStore)) ((⟨((t4).Rev),t5.1,((t4).NextUid),t5.2.1,t5.2.2.1,t5.2.2.2.1⟩:TStore))).bind fun t13=>some t13 else some false)else some false)).bind fun o9=>some o9)else(((if¬(t5.2.2.2.2=0)then some true else(if¬(t5.1=x1)then some true else(if¬(True)then some true else(if¬(True)then some true else(F17 ((t4).Objects) t5.2.2.1).bind fun t19=>(if(nb t19)=true then some true else(F15 ((⟨((t4).Rev),t5.1,((t4).NextUid),t5.2.1,t5.2.2.1,t5.2.2.2.1⟩:TStore))).bind fun t21=>some (nb t21))))))).bind fun o14=>(if o14=true then some false else((F5_l23 t4 t5 1099511627776 x1:Option ((Bool) ⊕ (Unit))).bind fun o23=>match o23 with|Sum.inl f=>some f|Sum.inr po23=>(F16 ((⟨((t4).Rev),t5.1,((t4).NextUid),t5.2.1,t5.2.2.1,t5.2.2.2.1⟩:TStore)) ((IntKind.i64.wrap (x1-1)))).bind fun t33=>(((F8).bind fun t35=>(if t35=true then(if x1=0 then some true else some (decide (t33.2=10)))else some false)).bind fun o34=>some o34)))))))
def a5:AFn:=⟨129,[(.tmp 4)],
 (.seq (.reg [sq 4 (.mv (kB false))])
 (.seq (.seq (.reg [sq 15 (.mv (.t 0)),
sq 16 (.call 7 [(.t 15)]),
sq 17 (.not (.t 16))])
 (.cond (.t 17)
 (.seq (.reg [sq 18 (.call 8 []),
sq 4 (.mv (.t 18))])
 .ret)
 .skip))
 (.seq (.reg [sq 19 (.mv (.t 0)),
sq 20 (.call 14 [(.t 19)]),
sq 5 (.zbox [dI 0,dI 0,dI 0,dN,dN,dN]),
su (.store 6 (.t 5) (.t 20))])
 (.seq (.reg [sq 22 (.load (some 6) (.t 5)),
sq 23 (.mv (.t 1)),
sq 24 (.call 19 [(.t 22),(.t 23)]),
sq 21 (.mv (.t 24)),
sq 25 (.ext (.t 21) 0),
sq 26 (.ext (.t 21) 1),
sq 6 (.zbox [dI 0,dI 0,dI 0,dN,dN,dN]),
su (.store 6 (.t 6) (.t 25)),
sq 7 (.mv (.t 26))])
 (.seq (.seq (.sem (.reg [sq 27 (.mv (.t 1)),
sq 28 (.fieldA 1 (.t 5)),
sq 29 (.load none (.t 28)),
sq 30 (.bin .lss (.t 27) (.t 29)),
sq 31 (.mv (.t 30)),
zg 32 31 false (.mv (.t 1)),
zg 33 31 false (.fieldA 0 (.t 5)),
zg 34 31 false (.load none (.t 33)),
zg 35 31 false (.bin .gtr (.t 32) (.t 34)),
zl 36 (.pick (.t 31) (kB true) (.t 35)) [] [5,28,5,33]]))
 (.cond (.t 36)
 (.seq (.sem (.reg [sq 37 (.call 8 []),
sq 38 (.mv (.t 37)),
zg 39 38 true (.mv (.t 7)),
zg 40 38 true (.bin .eql (.t 39) (kI 5)),
sq 41 (.pick (.t 38) (.t 40) (kB false)),
sq 42 (.mv (.t 41)),
zg 43 42 true (.load (some 6) (.t 5)),
zg 44 42 true (.load (some 6) (.t 6)),
zg 45 42 true (.call 11 [(.t 43),(.t 44)]),
sq 46 (.pick (.t 42) (.t 45) (kB false)),
sq 4 (.mv (.t 46))]))
 .ret)
 .skip))
 (.seq (.seq (.sem (.reg [sq 47 (.mv (.t 7)),
sq 48 (.bin .neq (.t 47) (kI 0)),
sq 49 (.mv (.t 48)),
zg 50 49 false (.fieldA 1 (.t 6)),
zg 51 49 false (.load none (.t 50)),
zg 52 49 false (.mv (.t 1)),
zg 53 49 false (.bin .neq (.t 51) (.t 52)),
sq 54 (.pick (.t 49) (kB true) (.t 53)),
sq 55 (.mv (.t 54)),
zg 56 55 false (.fieldA 0 (.t 6)),
zg 57 55 false (.load none (.t 56)),
zg 58 55 false (.fieldA 0 (.t 5)),
zg 59 55 false (.load none (.t 58)),
zg 60 55 false (.bin .neq (.t 57) (.t 59)),
sq 61 (.pick (.t 55) (kB true) (.t 60)),
sq 62 (.mv (.t 61)),
zg 63 62 false (.fieldA 2 (.t 6)),
zg 64 62 false (.load none (.t 63)),
zg 65 62 false (.fieldA 2 (.t 5)),
zg 66 62 false (.load none (.t 65)),
zg 67 62 false (.bin .neq (.t 64) (.t 66)),
sq 68 (.pick (.t 62) (kB true) (.t 67)),
sq 69 (.mv (.t 68)),
zg 70 69 false (.fieldA 4 (.t 5)),
zg 71 69 false (.load none (.t 70)),
zg 72 69 false (.fieldA 4 (.t 6)),
zg 73 69 false (.load none (.t 72)),
zg 74 69 false (.call 17 [(.t 71),(.t 73)]),
zg 75 69 false (.not (.t 74)),
sq 76 (.pick (.t 69) (kB true) (.t 75)),
sq 77 (.mv (.t 76)),
zg 78 77 false (.load (some 6) (.t 6)),
zg 79 77 false (.call 15 [(.t 78)]),
zg 80 77 false (.not (.t 79)),
sq 81 (.pick (.t 77) (kB true) (.t 80))]))
 (.cond (.t 81)
 (.seq (.reg [sq 4 (.mv (kB false))])
 .ret)
 .skip))
 (.seq (.seq (.reg [sq 82 (.mv (.t 1)),
sq 8 (.mv (.t 82))])
 (.sem (.block 0 (.loop (.seq (.seq (.reg [sq 83 (.mv (.t 8)),
sq 84 (.fieldA 0 (.t 5)),
sq 85 (.load none (.t 84)),
sq 86 (.bin .leq (.t 83) (.t 85))])
 (.cond (.t 86)
 .skip
 (.exit 0)))
 (.seq (.block 1 (.seq (.sem (.reg [sq 90 (.load (some 6) (.t 5)),
sq 91 (.mv (.t 8)),
sq 92 (.call 16 [(.t 90),(.t 91)]),
sq 89 (.mv (.t 92)),
sq 93 (.ext (.t 89) 0),
sq 94 (.ext (.t 89) 1),
sq 9 (.mv (.t 93)),
sq 10 (.mv (.t 94))]))
 (.seq (.reg [sq 96 (.load (some 6) (.t 6)),
sq 97 (.mv (.t 8)),
sq 98 (.call 16 [(.t 96),(.t 97)]),
sq 95 (.mv (.t 98)),
sq 99 (.ext (.t 95) 0),
sq 100 (.ext (.t 95) 1),
sq 11 (.mv (.t 99)),
sq 12 (.mv (.t 100))])
 (.seq (.sem (.reg [sq 101 (.mv (.t 10)),
sq 102 (.bin .neq (.t 101) (kI 0)),
sq 103 (.mv (.t 102)),
zg 104 103 false (.mv (.t 12)),
zg 105 103 false (.bin .neq (.t 104) (kI 0)),
sq 106 (.pick (.t 103) (kB true) (.t 105)),
sq 107 (.mv (.t 106)),
zg 108 107 false (.mv (.t 9)),
zg 109 107 false (.mv (.t 11)),
zg 110 107 false (.call 17 [(.t 108),(.t 109)]),
zg 111 107 false (.not (.t 110)),
sq 112 (.pick (.t 107) (kB true) (.t 111))]))
 (.cond (.t 112)
 (.seq (.reg [sq 4 (.mv (kB false))])
 .ret)
 .skip)))))
 (.reg [sq 87 (.mv (.t 8)),
sq 88 (.bin .add (.t 87) (kI 1)),
sq 8 (.mv (.t 88))])))))))
 (.seq (.reg [sq 114 (.load (some 6) (.t 6)),
sq 115 (.mv (.t 1)),
sq 116 (.bin .sub (.t 115) (kI 1)),
sq 117 (.call 16 [(.t 114),(.t 116)]),
sq 113 (.mv (.t 117)),
sq 118 (.ext (.t 113) 0),
sq 119 (.ext (.t 113) 1),
sq 13 (.mv (.t 118)),
sq 14 (.mv (.t 119))])
 (.seq (.sem (.reg [sq 120 (.call 8 []),
sq 121 (.mv (.t 120)),
zg 122 121 true (.mv (.t 1)),
zg 123 121 true (.bin .eql (.t 122) (kI 0)),
zg 124 121 true (.mv (.t 123)),
zg 125 124 false (.mv (.t 14)),
zg 126 124 false (.bin .eql (.t 125) (kI 10)),
zg 127 121 true (.pick (.t 124) (kB true) (.t 126)),
sq 128 (.pick (.t 121) (.t 127) (kB false)),
sq 4 (.mv (.t 128))]))
 .ret)))))))))⟩
theorem a5_ok:afn Try.prog 5=some a5.er:=by kernel_rfl
theorem F5_ok{x0 x1 r}(h:F5 x0 x1=some r):CallD Try.prog 5 [.c (dM (x0.map eTOp)),.c (dI x1)] [] (tupV [.c (dB r)]) []:=by
 refine callS a5_ok (by simp[a5]) ?_
 rw[F5]at h
 simp only[a5,VW.down,Nat.reduceEqDiff,reduceCtorEq,Nat.reduceAdd,Nat.reduceLeDiff,Nat.reduceLT,Nat.reduceBEq,Nat.reduceSub,EE.down]
 obtain⟨t1,ht1,h⟩:=bi h
 refine cN [] (F7_ok ht1) trivial (ww ?_)
 refine condBh h (fun c2 h=>?_) (fun c2 h=>?_)
 ·refine ww ?_
  obtain⟨t3,ht3,h⟩:=bi h
  refine cN [] (F8_ok ht3) trivial (ww ?_)
  cases h
  exact eF []
 refine ww ?_
 obtain⟨t4,ht4,h⟩:=bi h
 refine cN [] (F14_ok ht4) trivial (ww ?_)
 obtain⟨t5,ht5,h⟩:=bi h
 refine cN [] (F19_ok ht5) trivial (ww ?_)
 obtain⟨o6,ho,h⟩:=bi h
 refine cutS (fun s=>s=⟨[(1,.one (.c (dI x1))),(5,.one (.c (.pt 0 0))),(6,.one (.c (.pt 1 0))),(7,.one (.c (dI t5.2.2.2.2))),(36,.one (.c (dB o6)))],[some (.box [dI ((t4).Rev),dI ((t4).Floor),dI ((t4).NextUid),dM (((t4).Base).map eObject),dM (((t4).Objects).map eObject),dM (((t4).History).map eChange)]),some (.box [dI (((t4).Rev)),dI t5.1,dI (((t4).NextUid)),.own 2 0 0 (t5.2.1.length) none,.own 3 0 0 (t5.2.2.1.length) none,.own 4 0 0 (t5.2.2.2.1.length) none]),some (.arr 0 23 (t5.2.1.map eObject)),some (.arr 0 23 (t5.2.2.1.map eObject)),some (.arr 0 25 (t5.2.2.2.1.map eChange))]⟩) ?_ ?_
 ·have h:=ho
  clear ho
  refine ww ?_
  refine guardSh h (fun g7 h=>?_) (fun g7 h=>?_)
  ·refine ww ?_
   cases h
   exact eM [some 0,some 4,some 1,some 2,some 3] rfl
  refine ww ?_
  cases h
  exact eM [some 0,some 4,some 1,some 2,some 3] rfl
 rintro _ rfl
 clear ho
 refine ww ?_
 refine condBh h (fun c8 h=>?_) (fun c8 h=>?_)
 ·refine ww ?_
  obtain⟨o9,ho,h⟩:=bi h
  refine cutS (fun s=>s=⟨[(4,.one (.c (dB o9)))],[]⟩) ?_ ?_
  ·have h:=ho
   clear ho
   refine ww ?_
   obtain⟨t10,ht10,h⟩:=bi h
   refine cN [] (F8_ok ht10) trivial (ww ?_)
   refine guardSBh h (fun g11 h=>?_) (fun g11 h=>?_)
   ·refine ww ?_
    refine guardSh h (fun g12 h=>?_) (fun g12 h=>?_)
    ·refine ww ?_
     obtain⟨t13,ht13,h⟩:=bi h
     refine callX_bor (F11_ok ht13) (by simp only[borAs,bors,hp,List.getElem?_cons_zero,List.getElem?_cons_succ,Option.join_some,List.drop_zero,bor_full',true_and,Nat.zero_add,List.length_map,Nat.le_refl,nrm,List.length_cons,List.length_nil,Nat.reduceAdd,Nat.reduceLeDiff,List.take_succ_cons,List.take_zero,List.take_nil,List.map_cons,List.map_nil,List.length_set,EE.down]) rfl ?_
     refine ww ?_
     cases h
     exact eM [] rfl
    refine ww ?_
    cases h
    exact eM [] rfl
   refine ww ?_
   cases h
   exact eM [] rfl
  rintro _ rfl
  clear ho
  refine ww ?_
  cases h
  exact eF []
 refine ww ?_
 obtain⟨o14,ho,h⟩:=bi h
 refine cutS (fun s=>s=⟨[(1,.one (.c (dI x1))),(5,.one (.c (.pt 0 0))),(6,.one (.c (.pt 1 0))),(81,.one (.c (dB o14)))],[some (.box [dI ((t4).Rev),dI ((t4).Floor),dI ((t4).NextUid),dM (((t4).Base).map eObject),dM (((t4).Objects).map eObject),dM (((t4).History).map eChange)]),some (.box [dI (((t4).Rev)),dI t5.1,dI (((t4).NextUid)),.own 2 0 0 (t5.2.1.length) none,.own 3 0 0 (t5.2.2.1.length) none,.own 4 0 0 (t5.2.2.2.1.length) none]),some (.arr 0 23 (t5.2.1.map eObject)),some (.arr 0 23 (t5.2.2.1.map eObject)),some (.arr 0 25 (t5.2.2.2.1.map eChange))]⟩) ?_ ?_
 ·have h:=ho
  clear ho
  refine ww ?_
  refine guardSh h (fun g15 h=>?_) (fun g15 h=>?_)
  ·refine ww ?_
   cases h
   exact eM [some 0,some 1,some 2,some 3,some 4] rfl
  refine ww ?_
  refine guardSh h (fun g16 h=>?_) (fun g16 h=>?_)
  ·refine ww ?_
   cases h
   exact eM [some 0,some 1,some 2,some 3,some 4] rfl
  refine ww ?_
  refine guardSh h (fun g17 h=>?_) (fun g17 h=>?_)
  ·refine ww ?_
   cases h
   exact eM [some 0,some 1,some 2,some 3,some 4] rfl
  refine ww ?_
  refine guardSh h (fun g18 h=>?_) (fun g18 h=>?_)
  ·refine ww ?_
   cases h
   exact eM [some 0,some 1,some 2,some 3,some 4] rfl
  refine ww ?_
  obtain⟨t19,ht19,h⟩:=bi h
  refine callX_bor (F17_ok ht19) (by simp only[borAs,bors,hp,List.getElem?_cons_zero,List.getElem?_cons_succ,Option.join_some,List.drop_zero,bor_full',true_and,Nat.zero_add,List.length_map,Nat.le_refl,nrm,List.length_cons,List.length_nil,Nat.reduceAdd,Nat.reduceLeDiff,List.take_succ_cons,List.take_zero,List.take_nil,List.map_cons,List.map_nil,List.length_set,EE.down]) rfl ?_
  refine ww ?_
  refine guardSBh h (fun g20 h=>?_) (fun g20 h=>?_)
  ·refine ww ?_
   cases h
   exact eM [some 0,some 1,some 2,some 3,some 4] rfl
  refine ww ?_
  obtain⟨t21,ht21,h⟩:=bi h
  refine callX_bor (F15_ok ht21) (by simp only[borAs,bors,hp,List.getElem?_cons_zero,List.getElem?_cons_succ,Option.join_some,List.drop_zero,bor_full',true_and,Nat.zero_add,List.length_map,Nat.le_refl,nrm,List.length_cons,List.length_nil,Nat.reduceAdd,Nat.reduceLeDiff,List.take_succ_cons,List.take_zero,List.take_nil,List.map_cons,List.map_nil,List.length_set,EE.down]) rfl ?_
  refine ww ?_
  cases h
  exact eM [some 0,some 1,some 2,some 3,some 4] rfl
 rintro _ rfl
 clear ho
 refine ww ?_
 refine condBh h (fun c22 h=>?_) (fun c22 h=>?_)
 ·refine ww ?_
  cases h
  exact eF []
 refine ww ?_
 obtain⟨o23,ho,h⟩:=bi h
 refine cutS (fun s=>∃po23,o23=Sum.inr po23∧s=⟨[(1,.one (.c (dI x1))),(6,.one (.c (.pt 0 0)))],[some (.box [dI (((t4).Rev)),dI t5.1,dI (((t4).NextUid)),dM (t5.2.1.map eObject),dM (t5.2.2.1.map eObject),dM (t5.2.2.2.1.map eChange)])]⟩) ?_ ?_
 ·have h0o23:=h
  have h:=ho
  clear ho
  refine ww ?_
  refine bL (fun j s=>∃(o23_0:Int),s=⟨[(1,.one (.c (dI x1))),(5,.one (.c (.pt 0 0))),(6,.one (.c (.pt 1 0))),(8,.one (.c (dI o23_0)))],[some (.box [dI ((t4).Rev),dI ((t4).Floor),dI ((t4).NextUid),dM (((t4).Base).map eObject),dM (((t4).Objects).map eObject),dM (((t4).History).map eChange)]),some (.box [dI (((t4).Rev)),dI t5.1,dI (((t4).NextUid)),dM (t5.2.1.map eObject),dM (t5.2.2.1.map eObject),dM (t5.2.2.2.1.map eChange)])]⟩∧F5_l23 t4 t5 j o23_0=some o23) 1099511627776 [some 0,some 1] ⟨x1,rfl,h⟩ ?_
  rintro j _ ⟨o23_0,rfl,h⟩
  cases j with
  |zero=>cases(show(none:Option _)=some _ from h)
  |succ j=>
   rw[F5_l23]at h
   refine ww ?_
   refine condSh h (fun c24 h=>?_) (fun c24 h=>?_)
   ·refine ww ?_
    obtain⟨o25,ho,h⟩:=bi h
    refine cutS (fun s=>s=⟨[(1,.one (.c (dI x1))),(5,.one (.c (.pt 0 0))),(6,.one (.c (.pt 1 0))),(8,.one (.c (dI o23_0))),(9,.one (.c (dM (o25.1.map eObject)))),(10,.one (.c (dI o25.2)))],[some (.box [dI ((t4).Rev),dI ((t4).Floor),dI ((t4).NextUid),dM (((t4).Base).map eObject),dM (((t4).Objects).map eObject),dM (((t4).History).map eChange)]),some (.box [dI (((t4).Rev)),dI t5.1,dI (((t4).NextUid)),dM (t5.2.1.map eObject),dM (t5.2.2.1.map eObject),dM (t5.2.2.2.1.map eChange)])]⟩) ?_ ?_
    ·have h:=ho
     clear ho
     refine ww ?_
     obtain⟨t26,ht26,h⟩:=bi h
     refine cN [] (F16_ok ht26) trivial (ww ?_)
     cases h
     exact eM [some 0,some 1] rfl
    ·rintro _ rfl
     clear ho
     refine ww ?_
     obtain⟨t27,ht27,h⟩:=bi h
     refine cN [] (F16_ok ht27) trivial (ww ?_)
     obtain⟨o28,ho,h⟩:=bi h
     refine cutS (fun s=>s=⟨[(1,.one (.c (dI x1))),(5,.one (.c (.pt 0 0))),(6,.one (.c (.pt 1 0))),(8,.one (.c (dI o23_0))),(112,.one (.c (dB o28)))],[some (.box [dI ((t4).Rev),dI ((t4).Floor),dI ((t4).NextUid),dM (((t4).Base).map eObject),dM (((t4).Objects).map eObject),dM (((t4).History).map eChange)]),some (.box [dI (((t4).Rev)),dI t5.1,dI (((t4).NextUid)),dM (t5.2.1.map eObject),dM (t5.2.2.1.map eObject),dM (t5.2.2.2.1.map eChange)])]⟩) ?_ ?_
     ·have h:=ho
      clear ho
      refine ww ?_
      refine guardSh h (fun g29 h=>?_) (fun g29 h=>?_)
      ·refine ww ?_
       cases h
       exact eM [some 0,some 1] rfl
      ·refine ww ?_
       refine guardSh h (fun g30 h=>?_) (fun g30 h=>?_)
       ·refine ww ?_
        cases h
        exact eM [some 0,some 1] rfl
       ·refine ww ?_
        obtain⟨t31,ht31,h⟩:=bi h
        refine callX_bor (F17_ok ht31) (by simp only[borAs,bors,hp,List.getElem?_cons_zero,List.getElem?_cons_succ,Option.join_some,List.drop_zero,bor_full',true_and,Nat.zero_add,List.length_map,Nat.le_refl,nrm,List.length_cons,List.length_nil,Nat.reduceAdd,Nat.reduceLeDiff,List.take_succ_cons,List.take_zero,List.take_nil,List.map_cons,List.map_nil,List.length_set,EE.down]) rfl ?_
        refine ww ?_
        cases h
        exact eM [some 0,some 1] rfl
     ·rintro _ rfl
      clear ho
      refine ww ?_
      refine condBh h (fun c32 h=>?_) (fun c32 h=>?_)
      ·refine ww ?_
       obtain⟨fh0o23,hfh0o23,rfl⟩:=Option.map_eq_some_iff.1 h
       have h:=hfh0o23.trans h0o23
       cases h
       exact eF []
      ·refine ww ?_
       exact eL' j [some 0,some 1] ⟨(IntKind.i64.wrap (o23_0+1)),rfl,h⟩ (Nat.lt_succ_self _)
   ·refine ww ?_
    cases h
    exact eM [some 1] ⟨_,rfl,rfl⟩
 rintro _ ⟨po23,rfl,rfl⟩
 clear ho
 dsimp only at h
 refine ww ?_
 obtain⟨t33,ht33,h⟩:=bi h
 refine cN [] (F16_ok ht33) trivial (ww ?_)
 obtain⟨o34,ho,h⟩:=bi h
 refine cutS (fun s=>s=⟨[(4,.one (.c (dB o34)))],[]⟩) ?_ ?_
 ·have h:=ho
  clear ho
  refine ww ?_
  obtain⟨t35,ht35,h⟩:=bi h
  refine cN [] (F8_ok ht35) trivial (ww ?_)
  refine guardSBh h (fun g36 h=>?_) (fun g36 h=>?_)
  ·refine ww ?_
   refine guardSh h (fun g37 h=>?_) (fun g37 h=>?_)
   ·refine ww ?_
    cases h
    exact eM [] rfl
   refine ww ?_
   cases h
   exact eM [] rfl
  refine ww ?_
  cases h
  exact eM [] rfl
 rintro _ rfl
 clear ho
 refine ww ?_
 cases h
 exact eF []
end Go.Proofs.Ytbopaemngpbdgaa
