/- Each Go function as a function over typed data, and its walk. -/
import Derived.Test.YtbopaemngpbdgaaHX
import Derived.Test.YtbopaemngpbdgaaHX2
import Derived.Test.YtbopaemngpbdgaaHX4
import Derived.Test.YtbopaemngpbdgaaHX13
import Derived.Test.YtbopaemngpbdgaaHX17
import Derived.Test.YtbopaemngpbdgaaHX18
import Derived.Test.YtbopaemngpbdgaaHX19
import Derived.Test.YtbopaemngpbdgaaHX20
import Derived.Test.YtbopaemngpbdgaaHX21
namespace Go.Proofs.Ytbopaemngpbdgaa
open Go Go.Fw Go.Shelf
set_option maxRecDepth 100000
set_option maxHeartbeats 4000000
set_option linter.unusedSimpArgs false
set_option linter.unusedVariables false
def F8:Option (Bool):=(F9).bind fun t1=>(F26 ((⟨#[97]⟩:ByteArray)) 1).bind fun t2=>(F25 ((⟨0,0,1,[],[],[]⟩:TStore)) ((⟨(⟨(⟨#[80,111,100]⟩:ByteArray),(⟨#[110]⟩:ByteArray),((⟨#[97]⟩:ByteArray)),0,0,0,0,false,0,[],[],[],[]⟩:Meta),(⟨2,(1:Int),(⟨#[]⟩:ByteArray),[],[]⟩:TValue),(⟨0,0,(⟨#[]⟩:ByteArray),[],[]⟩:TValue)⟩:Object)) 5).bind fun t3=>(((F12 ((⟨t3.1,t3.2.1,t3.2.2.1,t3.2.2.2.1,t3.2.2.2.2.1,t3.2.2.2.2.2.1⟩:TStore)) ((⟨(⟨(t3.2.2.2.2.2.2.1).Meta.Kind,(t3.2.2.2.2.2.2.1).Meta.Namespace,(t3.2.2.2.2.2.2.1).Meta.Name,(t3.2.2.2.2.2.2.1).Meta.Uid,(t3.2.2.2.2.2.2.1).Meta.Version,(t3.2.2.2.2.2.2.1).Meta.Generation,(t3.2.2.2.2.2.2.1).Meta.Created,(t3.2.2.2.2.2.2.1).Meta.Deleting,(t3.2.2.2.2.2.2.1).Meta.DeleteAt,(t3.2.2.2.2.2.2.1).Meta.Labels,(t3.2.2.2.2.2.2.1).Meta.Owners,(t3.2.2.2.2.2.2.1).Meta.Finalizers,(t3.2.2.2.2.2.2.1).Meta.Managers⟩:Meta),(⟨2,2,(⟨#[]⟩:ByteArray),[],[]⟩:TValue),(⟨(t3.2.2.2.2.2.2.1).Status.Kind,(t3.2.2.2.2.2.2.1).Status.N,(t3.2.2.2.2.2.2.1).Status.S,(t3.2.2.2.2.2.2.1).Status.List_,(t3.2.2.2.2.2.2.1).Status.Fields⟩:TValue)⟩:Object))).bind fun t5=>some ((t5.1,t5.2.1,t5.2.2.1,t5.2.2.2.1,t5.2.2.2.2.1,(⟨(⟨t5.2.2.2.2.2.1,t5.2.2.2.2.2.2.1,t5.2.2.2.2.2.2.2.1,t5.2.2.2.2.2.2.2.2.1,t5.2.2.2.2.2.2.2.2.2.1,t5.2.2.2.2.2.2.2.2.2.2.1,t5.2.2.2.2.2.2.2.2.2.2.2.1,t5.2.2.2.2.2.2.2.2.2.2.2.2.1,t5.2.2.2.2.2.2.2.2.2.2.2.2.2.1,t5.2.2.2.2.2.2.2.2.2.2.2.2.2.2.1,t5.2.2.2.2.2.2.2.2.2.2.2.2.2.2.2.1,t5.2.2.2.2.2.2.2.2.2.2.2.2.2.2.2.2.1,t5.2.2.2.2.2.2.2.2.2.2.2.2.2.2.2.2.2.1⟩:Meta),(⟨t5.2.2.2.2.2.2.2.2.2.2.2.2.2.2.2.2.2.2.1,t5.2.2.2.2.2.2.2.2.2.2.2.2.2.2.2.2.2.2.2.1,t5.2.2.2.2.2.2.2.2.2.2.2.2.2.2.2.2.2.2.2.2.1,t5.2.2.2.2.2.2.2.2.2.2.2.2.2.2.2.2.2.2.2.2.2.1,t5.2.2.2.2.2.2.2.2.2.2.2.2.2.2.2.2.2.2.2.2.2.2.1⟩:TValue),(⟨t5.2.2.2.2.2.2.2.2.2.2.2.2.2.2.2.2.2.2.2.2.2.2.2.1,t5.2.2.2.2.2.2.2.2.2.2.2.2.2.2.2.2.2.2.2.2.2.2.2.2.1,t5.2.2.2.2.2.2.2.2.2.2.2.2.2.2.2.2.2.2.2.2.2.2.2.2.2.1,t5.2.2.2.2.2.2.2.2.2.2.2.2.2.2.2.2.2.2.2.2.2.2.2.2.2.2.1,t5.2.2.2.2.2.2.2.2.2.2.2.2.2.2.2.2.2.2.2.2.2.2.2.2.2.2.2.1⟩:TValue)⟩:Object),t5.2.2.2.2.2.2.2.2.2.2.2.2.2.2.2.2.2.2.2.2.2.2.2.2.2.2.2.2))).bind fun o4=>(F12 ((⟨o4.1,o4.2.1,t3.2.2.1,o4.2.2.1,o4.2.2.2.1,o4.2.2.2.2.1⟩:TStore)) ((⟨(⟨(t3.2.2.2.2.2.2.1).Meta.Kind,(t3.2.2.2.2.2.2.1).Meta.Namespace,(t3.2.2.2.2.2.2.1).Meta.Name,(t3.2.2.2.2.2.2.1).Meta.Uid,(t3.2.2.2.2.2.2.1).Meta.Version,(t3.2.2.2.2.2.2.1).Meta.Generation,(t3.2.2.2.2.2.2.1).Meta.Created,(t3.2.2.2.2.2.2.1).Meta.Deleting,(t3.2.2.2.2.2.2.1).Meta.DeleteAt,(t3.2.2.2.2.2.2.1).Meta.Labels,(t3.2.2.2.2.2.2.1).Meta.Owners,(t3.2.2.2.2.2.2.1).Meta.Finalizers,(t3.2.2.2.2.2.2.1).Meta.Managers⟩:Meta),(⟨2,2,(⟨#[]⟩:ByteArray),[],[]⟩:TValue),(⟨(t3.2.2.2.2.2.2.1).Status.Kind,(t3.2.2.2.2.2.2.1).Status.N,(t3.2.2.2.2.2.2.1).Status.S,(t3.2.2.2.2.2.2.1).Status.List_,(t3.2.2.2.2.2.2.1).Status.Fields⟩:TValue)⟩:Object))).bind fun t6=>(F16 ((⟨o4.1,o4.2.1,t3.2.2.1,o4.2.2.1,o4.2.2.2.1,o4.2.2.2.2.1⟩:TStore)) 1).bind fun t7=>(F27 ((⟨o4.1,o4.2.1,t3.2.2.1,o4.2.2.1,o4.2.2.2.1,o4.2.2.2.2.1⟩:TStore)) ((⟨#[80,111,100,47,110,47,97]⟩:ByteArray)) 0).bind fun t8=>(((F19 ((⟨t8.1,t8.2.1,t3.2.2.1,t8.2.2.1,t8.2.2.2.1,t8.2.2.2.2.1⟩:TStore)) 2).bind fun t10=>some ((t10.1,t10.2.1,t10.2.2.1,t10.2.2.2.1,t10.2.2.2.2))).bind fun o9=>(F16 ((⟨t8.1,o9.1,t3.2.2.1,o9.2.1,o9.2.2.1,o9.2.2.2.1⟩:TStore)) 1).bind fun t11=>(((if¬(t3.2.2.2.2.2.2.2=0)then some true else(if¬(o4.2.2.2.2.2.2=0)then some true else(if¬(t6.2.2.2.2.2.2.2.2.2.2.2.2.2.2.2.2.2.2.2.2.2.2.2.2.2.2.2.2=9)then some true else(if¬(t7.2=0)then some true else(if¬(t8.2.2.2.2.2.2=0)then some true else(if¬(o9.2.2.2.2=0)then some true else some (decide (¬(t11.2=10)))))))))).bind fun o12=>(if o12=true then some false else(((if(t3.2.2.2.2.2.2.1).Meta.Uid=1 then(if(t3.2.2.2.2.2.2.1).Meta.Version=1 then(if(t3.2.2.2.2.2.2.1).Meta.Generation=1 then(if(t3.2.2.2.2.2.2.1).Meta.Created=5 then(if(o4.2.2.2.2.2.1).Meta.Version=2 then(if(o4.2.2.2.2.2.1).Meta.Generation=2 then(if(t7.1.length:Int)=1 then(rdI t7.1 0).bind fun y28=>(if y28.Spec.N=1 then(if(t8.2.2.2.2.2.1).Meta.Version=3 then(if t8.1=3 then(if(o9.2.2.1.length:Int)=0 then some (decide ((o9.2.2.2.1.length:Int)=1))else some false)else some false)else some false)else some false)else some false)else some false)else some false)else some false)else some false)else some false)else some false)).bind fun o20=>some o20)))))
def a8:AFn:=⟨158,[(.tmp 0)],
 (.seq (.reg [sq 0 (.mv (kB false))])
 (.seq (.reg [sq 18 (.call 9 []),
sq 19 (.call 26 [(kS ⟨#[97]⟩),(kI 1)]),
sq 20 (.call 25 [(.t 18),(.t 19),(kI 5)]),
sq 17 (.mv (.t 20)),
sq 21 (.ext (.t 17) 0),
sq 22 (.ext (.t 17) 1),
sq 23 (.ext (.t 17) 2),
sq 1 (.zbox [dI 0,dI 0,dI 0,dN,dN,dN]),
sq 2 (.zbox [dS ⟨#[]⟩,dS ⟨#[]⟩,dS ⟨#[]⟩,dI 0,dI 0,dI 0,dI 0,dB false,dI 0,dN,dN,dN,dN,dI 0,dI 0,dS ⟨#[]⟩,dN,dN,dI 0,dI 0,dS ⟨#[]⟩,dN,dN]),
su (.store 6 (.t 1) (.t 21)),
su (.store 23 (.t 2) (.t 22)),
sq 3 (.mv (.t 23))])
 (.seq (.reg [sq 24 (.load (some 23) (.t 2)),
sq 4 (.zbox [dS ⟨#[]⟩,dS ⟨#[]⟩,dS ⟨#[]⟩,dI 0,dI 0,dI 0,dI 0,dB false,dI 0,dN,dN,dN,dN,dI 0,dI 0,dS ⟨#[]⟩,dN,dN,dI 0,dI 0,dS ⟨#[]⟩,dN,dN]),
su (.store 23 (.t 4) (.t 24))])
 (.seq (.reg [sq 25 (.build [dI 0,dI 0,dS ⟨#[]⟩,dN,dN] [(0,1,(kI 2)),(1,1,(kI 2))]),
sq 26 (.fieldA 13 (.t 4)),
su (.store 5 (.t 26) (.t 25))])
 (.seq (.sem (.reg [sq 28 (.load (some 6) (.t 1)),
sq 29 (.load (some 23) (.t 4)),
sq 30 (.call 12 [(.t 28),(.t 29)]),
sq 27 (.mv (.t 30)),
sq 31 (.ext (.t 27) 0),
sq 32 (.ext (.t 27) 1),
sq 33 (.ext (.t 27) 2),
sq 5 (.zbox [dS ⟨#[]⟩,dS ⟨#[]⟩,dS ⟨#[]⟩,dI 0,dI 0,dI 0,dI 0,dB false,dI 0,dN,dN,dN,dN,dI 0,dI 0,dS ⟨#[]⟩,dN,dN,dI 0,dI 0,dS ⟨#[]⟩,dN,dN]),
su (.store 6 (.t 1) (.t 31)),
su (.store 23 (.t 5) (.t 32)),
sq 6 (.mv (.t 33))]))
 (.seq (.reg [sq 35 (.load (some 6) (.t 1)),
sq 36 (.load (some 23) (.t 4)),
sq 37 (.call 12 [(.t 35),(.t 36)]),
sq 34 (.mv (.t 37)),
sq 38 (.ext (.t 34) 0),
sq 39 (.ext (.t 34) 1),
sq 40 (.ext (.t 34) 2),
sq 7 (.zbox [dI 0,dI 0,dI 0,dN,dN,dN]),
sq 8 (.zbox [dS ⟨#[]⟩,dS ⟨#[]⟩,dS ⟨#[]⟩,dI 0,dI 0,dI 0,dI 0,dB false,dI 0,dN,dN,dN,dN,dI 0,dI 0,dS ⟨#[]⟩,dN,dN,dI 0,dI 0,dS ⟨#[]⟩,dN,dN]),
su (.store 6 (.t 7) (.t 38)),
su (.store 23 (.t 8) (.t 39)),
sq 9 (.mv (.t 40))])
 (.seq (.reg [sq 42 (.load (some 6) (.t 1)),
sq 43 (.call 16 [(.t 42),(kI 1)]),
sq 41 (.mv (.t 43)),
sq 44 (.ext (.t 41) 0),
sq 45 (.ext (.t 41) 1),
sq 10 (.mv (.t 44)),
sq 11 (.mv (.t 45))])
 (.seq (.reg [sq 47 (.load (some 6) (.t 1)),
sq 48 (.call 27 [(.t 47),(kS ⟨#[80,111,100,47,110,47,97]⟩),(kI 0)]),
sq 46 (.mv (.t 48)),
sq 49 (.ext (.t 46) 0),
sq 50 (.ext (.t 46) 1),
sq 51 (.ext (.t 46) 2),
sq 12 (.zbox [dS ⟨#[]⟩,dS ⟨#[]⟩,dS ⟨#[]⟩,dI 0,dI 0,dI 0,dI 0,dB false,dI 0,dN,dN,dN,dN,dI 0,dI 0,dS ⟨#[]⟩,dN,dN,dI 0,dI 0,dS ⟨#[]⟩,dN,dN]),
su (.store 6 (.t 1) (.t 49)),
su (.store 23 (.t 12) (.t 50)),
sq 13 (.mv (.t 51))])
 (.seq (.sem (.reg [sq 53 (.load (some 6) (.t 1)),
sq 54 (.call 19 [(.t 53),(kI 2)]),
sq 52 (.mv (.t 54)),
sq 55 (.ext (.t 52) 0),
sq 56 (.ext (.t 52) 1),
su (.store 6 (.t 1) (.t 55)),
sq 14 (.mv (.t 56))]))
 (.seq (.reg [sq 58 (.load (some 6) (.t 1)),
sq 59 (.call 16 [(.t 58),(kI 1)]),
sq 57 (.mv (.t 59)),
sq 60 (.ext (.t 57) 0),
sq 61 (.ext (.t 57) 1),
sq 15 (.mv (.t 60)),
sq 16 (.mv (.t 61))])
 (.seq (.seq (.sem (.reg [sq 62 (.mv (.t 3)),
sq 63 (.bin .neq (.t 62) (kI 0)),
sq 64 (.mv (.t 63)),
zg 65 64 false (.mv (.t 6)),
zg 66 64 false (.bin .neq (.t 65) (kI 0)),
sq 67 (.pick (.t 64) (kB true) (.t 66)),
sq 68 (.mv (.t 67)),
zg 69 68 false (.mv (.t 9)),
zg 70 68 false (.bin .neq (.t 69) (kI 9)),
sq 71 (.pick (.t 68) (kB true) (.t 70)),
sq 72 (.mv (.t 71)),
zg 73 72 false (.mv (.t 11)),
zg 74 72 false (.bin .neq (.t 73) (kI 0)),
sq 75 (.pick (.t 72) (kB true) (.t 74)),
sq 76 (.mv (.t 75)),
zg 77 76 false (.mv (.t 13)),
zg 78 76 false (.bin .neq (.t 77) (kI 0)),
sq 79 (.pick (.t 76) (kB true) (.t 78)),
sq 80 (.mv (.t 79)),
zg 81 80 false (.mv (.t 14)),
zg 82 80 false (.bin .neq (.t 81) (kI 0)),
sq 83 (.pick (.t 80) (kB true) (.t 82)),
sq 84 (.mv (.t 83)),
zg 85 84 false (.mv (.t 16)),
zg 86 84 false (.bin .neq (.t 85) (kI 10)),
sq 87 (.pick (.t 84) (kB true) (.t 86))]))
 (.cond (.t 87)
 (.seq (.reg [sq 0 (.mv (kB false))])
 .ret)
 .skip))
 (.seq (.sem (.reg [sq 88 (.fieldA 0 (.t 2)),
sq 89 (.fieldA 3 (.t 88)),
sq 90 (.load none (.t 89)),
sq 91 (.bin .eql (.t 90) (kI 1)),
sq 92 (.mv (.t 91)),
zg 93 92 true (.fieldA 0 (.t 2)),
zg 94 92 true (.fieldA 4 (.t 93)),
zg 95 92 true (.load none (.t 94)),
zg 96 92 true (.bin .eql (.t 95) (kI 1)),
sq 97 (.pick (.t 92) (.t 96) (kB false)),
sq 98 (.mv (.t 97)),
zg 99 98 true (.fieldA 0 (.t 2)),
zg 100 98 true (.fieldA 5 (.t 99)),
zg 101 98 true (.load none (.t 100)),
zg 102 98 true (.bin .eql (.t 101) (kI 1)),
sq 103 (.pick (.t 98) (.t 102) (kB false)),
sq 104 (.mv (.t 103)),
zg 105 104 true (.fieldA 0 (.t 2)),
zg 106 104 true (.fieldA 6 (.t 105)),
zg 107 104 true (.load none (.t 106)),
zg 108 104 true (.bin .eql (.t 107) (kI 5)),
sq 109 (.pick (.t 104) (.t 108) (kB false)),
sq 110 (.mv (.t 109)),
zg 111 110 true (.fieldA 0 (.t 5)),
zg 112 110 true (.fieldA 4 (.t 111)),
zg 113 110 true (.load none (.t 112)),
zg 114 110 true (.bin .eql (.t 113) (kI 2)),
sq 115 (.pick (.t 110) (.t 114) (kB false)),
sq 116 (.mv (.t 115)),
zg 117 116 true (.fieldA 0 (.t 5)),
zg 118 116 true (.fieldA 5 (.t 117)),
zg 119 116 true (.load none (.t 118)),
zg 120 116 true (.bin .eql (.t 119) (kI 2)),
sq 121 (.pick (.t 116) (.t 120) (kB false)),
sq 122 (.mv (.t 121)),
zg 123 122 true (.mv (.t 10)),
zg 124 122 true (.len (.t 123)),
zg 125 122 true (.bin .eql (.t 124) (kI 1)),
sq 126 (.pick (.t 122) (.t 125) (kB false)),
sq 127 (.mv (.t 126)),
zg 128 127 true (.mv (.t 10)),
zg 129 127 true (.indexA 23 (.t 128) (kI 0)),
zg 130 127 true (.fieldA 13 (.t 129)),
zg 131 127 true (.fieldA 1 (.t 130)),
zg 132 127 true (.load none (.t 131)),
zg 133 127 true (.bin .eql (.t 132) (kI 1)),
sq 134 (.pick (.t 127) (.t 133) (kB false)),
sq 135 (.mv (.t 134)),
zg 136 135 true (.fieldA 0 (.t 12)),
zg 137 135 true (.fieldA 4 (.t 136)),
zg 138 135 true (.load none (.t 137)),
zg 139 135 true (.bin .eql (.t 138) (kI 3)),
sq 140 (.pick (.t 135) (.t 139) (kB false)),
sq 141 (.mv (.t 140)),
zg 142 141 true (.fieldA 0 (.t 1)),
zg 143 141 true (.load none (.t 142)),
zg 144 141 true (.bin .eql (.t 143) (kI 3)),
sq 145 (.pick (.t 141) (.t 144) (kB false)),
sq 146 (.mv (.t 145)),
zg 147 146 true (.fieldA 4 (.t 1)),
zg 148 146 true (.load none (.t 147)),
zg 149 146 true (.len (.t 148)),
zg 150 146 true (.bin .eql (.t 149) (kI 0)),
sq 151 (.pick (.t 146) (.t 150) (kB false)),
sq 152 (.mv (.t 151)),
zg 153 152 true (.fieldA 5 (.t 1)),
zg 154 152 true (.load none (.t 153)),
zg 155 152 true (.len (.t 154)),
zg 156 152 true (.bin .eql (.t 155) (kI 1)),
sq 157 (.pick (.t 152) (.t 156) (kB false)),
sq 0 (.mv (.t 157))]))
 .ret))))))))))))⟩
theorem a8_ok:afn Try.prog 8=some a8.er:=by kernel_rfl
theorem F8_ok{r}(h:F8=some r):CallD Try.prog 8 [] [] (tupV [.c (dB r)]) []:=by
 refine callS a8_ok (by simp[a8]) ?_
 rw[F8]at h
 simp only[a8,VW.down,Nat.reduceEqDiff,reduceCtorEq,Nat.reduceAdd,Nat.reduceLeDiff,Nat.reduceLT,Nat.reduceBEq,Nat.reduceSub,EE.down]
 obtain⟨t1,ht1,h⟩:=bi h
 refine cN [] (F9_ok ht1) trivial (ww ?_)
 obtain⟨t2,ht2,h⟩:=bi h
 refine cN [] (F26_ok ht2) trivial (ww ?_)
 obtain⟨t3,ht3,h⟩:=bi h
 refine cN [] (F25_ok ht3) trivial (ww ?_)
 obtain⟨o4,ho,h⟩:=bi h
 refine cutS (fun s=>s=⟨[(1,.one (.c (.pt 0 0))),(2,.one (.c (.pt 1 0))),(3,.one (.c (dI t3.2.2.2.2.2.2.2))),(4,.one (.c (.pt 2 0))),(5,.one (.c (.pt 3 0))),(6,.one (.c (dI o4.2.2.2.2.2.2)))],[some (.box [dI o4.1,dI o4.2.1,dI t3.2.2.1,dM (o4.2.2.1.map eObject),dM (o4.2.2.2.1.map eObject),dM (o4.2.2.2.2.1.map eChange)]),some (.box [dS ((t3.2.2.2.2.2.2.1).Meta.Kind),dS ((t3.2.2.2.2.2.2.1).Meta.Namespace),dS ((t3.2.2.2.2.2.2.1).Meta.Name),dI ((t3.2.2.2.2.2.2.1).Meta.Uid),dI ((t3.2.2.2.2.2.2.1).Meta.Version),dI ((t3.2.2.2.2.2.2.1).Meta.Generation),dI ((t3.2.2.2.2.2.2.1).Meta.Created),dB ((t3.2.2.2.2.2.2.1).Meta.Deleting),dI ((t3.2.2.2.2.2.2.1).Meta.DeleteAt),dM (((t3.2.2.2.2.2.2.1).Meta.Labels).map eLabel),dM (((t3.2.2.2.2.2.2.1).Meta.Owners).map eOwner),dM (((t3.2.2.2.2.2.2.1).Meta.Finalizers).map eS),dM (((t3.2.2.2.2.2.2.1).Meta.Managers).map eManager),dI ((t3.2.2.2.2.2.2.1).Spec.Kind),dI ((t3.2.2.2.2.2.2.1).Spec.N),dS ((t3.2.2.2.2.2.2.1).Spec.S),dM (((t3.2.2.2.2.2.2.1).Spec.List_).map eTValue),dM (((t3.2.2.2.2.2.2.1).Spec.Fields).map eTField),dI ((t3.2.2.2.2.2.2.1).Status.Kind),dI ((t3.2.2.2.2.2.2.1).Status.N),dS ((t3.2.2.2.2.2.2.1).Status.S),dM (((t3.2.2.2.2.2.2.1).Status.List_).map eTValue),dM (((t3.2.2.2.2.2.2.1).Status.Fields).map eTField)]),some (.box [dS ((t3.2.2.2.2.2.2.1).Meta.Kind),dS ((t3.2.2.2.2.2.2.1).Meta.Namespace),dS ((t3.2.2.2.2.2.2.1).Meta.Name),dI ((t3.2.2.2.2.2.2.1).Meta.Uid),dI ((t3.2.2.2.2.2.2.1).Meta.Version),dI ((t3.2.2.2.2.2.2.1).Meta.Generation),dI ((t3.2.2.2.2.2.2.1).Meta.Created),dB ((t3.2.2.2.2.2.2.1).Meta.Deleting),dI ((t3.2.2.2.2.2.2.1).Meta.DeleteAt),dM (((t3.2.2.2.2.2.2.1).Meta.Labels).map eLabel),dM (((t3.2.2.2.2.2.2.1).Meta.Owners).map eOwner),dM (((t3.2.2.2.2.2.2.1).Meta.Finalizers).map eS),dM (((t3.2.2.2.2.2.2.1).Meta.Managers).map eManager),dI 2,dI 2,dS ((⟨#[]⟩:ByteArray)),dN,dN,dI ((t3.2.2.2.2.2.2.1).Status.Kind),dI ((t3.2.2.2.2.2.2.1).Status.N),dS ((t3.2.2.2.2.2.2.1).Status.S),dM (((t3.2.2.2.2.2.2.1).Status.List_).map eTValue),dM (((t3.2.2.2.2.2.2.1).Status.Fields).map eTField)]),some (.box [dS ((o4.2.2.2.2.2.1).Meta.Kind),dS ((o4.2.2.2.2.2.1).Meta.Namespace),dS ((o4.2.2.2.2.2.1).Meta.Name),dI ((o4.2.2.2.2.2.1).Meta.Uid),dI ((o4.2.2.2.2.2.1).Meta.Version),dI ((o4.2.2.2.2.2.1).Meta.Generation),dI ((o4.2.2.2.2.2.1).Meta.Created),dB ((o4.2.2.2.2.2.1).Meta.Deleting),dI ((o4.2.2.2.2.2.1).Meta.DeleteAt),dM (((o4.2.2.2.2.2.1).Meta.Labels).map eLabel),dM (((o4.2.2.2.2.2.1).Meta.Owners).map eOwner),dM (((o4.2.2.2.2.2.1).Meta.Finalizers).map eS),dM (((o4.2.2.2.2.2.1).Meta.Managers).map eManager),dI ((o4.2.2.2.2.2.1).Spec.Kind),dI ((o4.2.2.2.2.2.1).Spec.N),dS ((o4.2.2.2.2.2.1).Spec.S),dM (((o4.2.2.2.2.2.1).Spec.List_).map eTValue),dM (((o4.2.2.2.2.2.1).Spec.Fields).map eTField),dI ((o4.2.2.2.2.2.1).Status.Kind),dI ((o4.2.2.2.2.2.1).Status.N),dS ((o4.2.2.2.2.2.1).Status.S),dM (((o4.2.2.2.2.2.1).Status.List_).map eTValue),dM (((o4.2.2.2.2.2.1).Status.Fields).map eTField)])]⟩) ?_ ?_
 ·have h:=ho
  clear ho
  refine ww ?_
  obtain⟨t5,ht5,h⟩:=bi h
  refine callX_gen (as1:=[.agg [dI t3.1,dI t3.2.1,dI t3.2.2.1,dM (t3.2.2.2.1.map eObject),dM (t3.2.2.2.2.1.map eObject),dM (t3.2.2.2.2.2.1.map eChange)],.agg [dS ((t3.2.2.2.2.2.2.1).Meta.Kind),dS ((t3.2.2.2.2.2.2.1).Meta.Namespace),dS ((t3.2.2.2.2.2.2.1).Meta.Name),dI ((t3.2.2.2.2.2.2.1).Meta.Uid),dI ((t3.2.2.2.2.2.2.1).Meta.Version),dI ((t3.2.2.2.2.2.2.1).Meta.Generation),dI ((t3.2.2.2.2.2.2.1).Meta.Created),dB ((t3.2.2.2.2.2.2.1).Meta.Deleting),dI ((t3.2.2.2.2.2.2.1).Meta.DeleteAt),dM (((t3.2.2.2.2.2.2.1).Meta.Labels).map eLabel),dM (((t3.2.2.2.2.2.2.1).Meta.Owners).map eOwner),dM (((t3.2.2.2.2.2.2.1).Meta.Finalizers).map eS),dM (((t3.2.2.2.2.2.2.1).Meta.Managers).map eManager),dI 2,dI 2,dS ((⟨#[]⟩:ByteArray)),dM [],dM [],dI ((t3.2.2.2.2.2.2.1).Status.Kind),dI ((t3.2.2.2.2.2.2.1).Status.N),dS ((t3.2.2.2.2.2.2.1).Status.S),dM (((t3.2.2.2.2.2.2.1).Status.List_).map eTValue),dM (((t3.2.2.2.2.2.2.1).Status.Fields).map eTField)]]) [(0,.arr 1 23 []),(1,.arr 1 23 []),(2,.arr 1 25 []),(3,.box [dI t3.1,dI t3.2.1,dI t3.2.2.1,.own 0 0 0 0 (some 0),.own 1 0 0 0 (some 0),.own 2 0 0 0 (some 0)])] [none,none,none,some 3,some 4,some 5] [] (F12_ok ht5) ⟨?_,rfl,?_⟩ ?_ ?_ ?_ ?_ ?_ ?_ ?_ ?_
  ·simp only[ZZ.down,Nat.reduceEqDiff,reduceCtorEq,Nat.reduceAdd,Nat.reduceLeDiff,Nat.reduceLT,Nat.reduceBNe,EE.down]
  ·simp only[ZZ.down,Nat.reduceEqDiff,reduceCtorEq,Nat.reduceAdd,Nat.reduceLeDiff,Nat.reduceLT,Nat.reduceBNe,EE.down]
  ·simp only[ZZ.down,Nat.reduceEqDiff,reduceCtorEq,Nat.reduceAdd,Nat.reduceLeDiff,Nat.reduceLT,Nat.reduceBNe,EE.down]
  ·rfl
  ·rfl
  ·simp[liveAll,A1.live,C.live]
  ·rfl
  ·decide
  ·exact trivial
  refine ww ?_
  cases h
  exact eM [some 3,some 4,some 5,some 9] rfl
 rintro _ rfl
 clear ho
 refine ww ?_
 obtain⟨t6,ht6,h⟩:=bi h
 refine cN [] (F12_ok ht6) trivial (ww ?_)
 obtain⟨t7,ht7,h⟩:=bi h
 refine cN [] (F16_ok ht7) trivial (ww ?_)
 obtain⟨t8,ht8,h⟩:=bi h
 refine cN [] (F27_ok ht8) trivial (ww ?_)
 obtain⟨o9,ho,h⟩:=bi h
 refine cutS (fun s=>s=⟨[(1,.one (.c (.pt 0 0))),(2,.one (.c (.pt 1 0))),(3,.one (.c (dI t3.2.2.2.2.2.2.2))),(5,.one (.c (.pt 2 0))),(6,.one (.c (dI o4.2.2.2.2.2.2))),(9,.one (.c (dI t6.2.2.2.2.2.2.2.2.2.2.2.2.2.2.2.2.2.2.2.2.2.2.2.2.2.2.2.2))),(10,.one (.c (dM (t7.1.map eObject)))),(11,.one (.c (dI t7.2))),(12,.one (.c (.pt 3 0))),(13,.one (.c (dI t8.2.2.2.2.2.2))),(14,.one (.c (dI o9.2.2.2.2)))],[some (.box [dI t8.1,dI o9.1,dI t3.2.2.1,dM (o9.2.1.map eObject),dM (o9.2.2.1.map eObject),dM (o9.2.2.2.1.map eChange)]),some (.box [dS ((t3.2.2.2.2.2.2.1).Meta.Kind),dS ((t3.2.2.2.2.2.2.1).Meta.Namespace),dS ((t3.2.2.2.2.2.2.1).Meta.Name),dI ((t3.2.2.2.2.2.2.1).Meta.Uid),dI ((t3.2.2.2.2.2.2.1).Meta.Version),dI ((t3.2.2.2.2.2.2.1).Meta.Generation),dI ((t3.2.2.2.2.2.2.1).Meta.Created),dB ((t3.2.2.2.2.2.2.1).Meta.Deleting),dI ((t3.2.2.2.2.2.2.1).Meta.DeleteAt),dM (((t3.2.2.2.2.2.2.1).Meta.Labels).map eLabel),dM (((t3.2.2.2.2.2.2.1).Meta.Owners).map eOwner),dM (((t3.2.2.2.2.2.2.1).Meta.Finalizers).map eS),dM (((t3.2.2.2.2.2.2.1).Meta.Managers).map eManager),dI ((t3.2.2.2.2.2.2.1).Spec.Kind),dI ((t3.2.2.2.2.2.2.1).Spec.N),dS ((t3.2.2.2.2.2.2.1).Spec.S),dM (((t3.2.2.2.2.2.2.1).Spec.List_).map eTValue),dM (((t3.2.2.2.2.2.2.1).Spec.Fields).map eTField),dI ((t3.2.2.2.2.2.2.1).Status.Kind),dI ((t3.2.2.2.2.2.2.1).Status.N),dS ((t3.2.2.2.2.2.2.1).Status.S),dM (((t3.2.2.2.2.2.2.1).Status.List_).map eTValue),dM (((t3.2.2.2.2.2.2.1).Status.Fields).map eTField)]),some (.box [dS ((o4.2.2.2.2.2.1).Meta.Kind),dS ((o4.2.2.2.2.2.1).Meta.Namespace),dS ((o4.2.2.2.2.2.1).Meta.Name),dI ((o4.2.2.2.2.2.1).Meta.Uid),dI ((o4.2.2.2.2.2.1).Meta.Version),dI ((o4.2.2.2.2.2.1).Meta.Generation),dI ((o4.2.2.2.2.2.1).Meta.Created),dB ((o4.2.2.2.2.2.1).Meta.Deleting),dI ((o4.2.2.2.2.2.1).Meta.DeleteAt),dM (((o4.2.2.2.2.2.1).Meta.Labels).map eLabel),dM (((o4.2.2.2.2.2.1).Meta.Owners).map eOwner),dM (((o4.2.2.2.2.2.1).Meta.Finalizers).map eS),dM (((o4.2.2.2.2.2.1).Meta.Managers).map eManager),dI ((o4.2.2.2.2.2.1).Spec.Kind),dI ((o4.2.2.2.2.2.1).Spec.N),dS ((o4.2.2.2.2.2.1).Spec.S),dM (((o4.2.2.2.2.2.1).Spec.List_).map eTValue),dM (((o4.2.2.2.2.2.1).Spec.Fields).map eTField),dI ((o4.2.2.2.2.2.1).Status.Kind),dI ((o4.2.2.2.2.2.1).Status.N),dS ((o4.2.2.2.2.2.1).Status.S),dM (((o4.2.2.2.2.2.1).Status.List_).map eTValue),dM (((o4.2.2.2.2.2.1).Status.Fields).map eTField)]),some (.box [dS ((t8.2.2.2.2.2.1).Meta.Kind),dS ((t8.2.2.2.2.2.1).Meta.Namespace),dS ((t8.2.2.2.2.2.1).Meta.Name),dI ((t8.2.2.2.2.2.1).Meta.Uid),dI ((t8.2.2.2.2.2.1).Meta.Version),dI ((t8.2.2.2.2.2.1).Meta.Generation),dI ((t8.2.2.2.2.2.1).Meta.Created),dB ((t8.2.2.2.2.2.1).Meta.Deleting),dI ((t8.2.2.2.2.2.1).Meta.DeleteAt),dM (((t8.2.2.2.2.2.1).Meta.Labels).map eLabel),dM (((t8.2.2.2.2.2.1).Meta.Owners).map eOwner),dM (((t8.2.2.2.2.2.1).Meta.Finalizers).map eS),dM (((t8.2.2.2.2.2.1).Meta.Managers).map eManager),dI ((t8.2.2.2.2.2.1).Spec.Kind),dI ((t8.2.2.2.2.2.1).Spec.N),dS ((t8.2.2.2.2.2.1).Spec.S),dM (((t8.2.2.2.2.2.1).Spec.List_).map eTValue),dM (((t8.2.2.2.2.2.1).Spec.Fields).map eTField),dI ((t8.2.2.2.2.2.1).Status.Kind),dI ((t8.2.2.2.2.2.1).Status.N),dS ((t8.2.2.2.2.2.1).Status.S),dM (((t8.2.2.2.2.2.1).Status.List_).map eTValue),dM (((t8.2.2.2.2.2.1).Status.Fields).map eTField)])]⟩) ?_ ?_
 ·have h:=ho
  clear ho
  refine ww ?_
  obtain⟨t10,ht10,h⟩:=bi h
  refine callX_gen (as1:=[.agg [dI t8.1,dI t8.2.1,dI t3.2.2.1,dM (t8.2.2.1.map eObject),dM (t8.2.2.2.1.map eObject),dM (t8.2.2.2.2.1.map eChange)],.c (dI 2)]) [(10,.arr 1 23 []),(11,.arr 1 23 []),(12,.arr 1 25 []),(0,.box [dI t8.1,dI t8.2.1,dI t3.2.2.1,.own 10 0 0 0 (some 0),.own 11 0 0 0 (some 0),.own 12 0 0 0 (some 0)])] [some 0,some 1,some 2,some 3,some 4,some 5,some 6,some 7,some 8,some 9,none,none,none,some 13] [] (F19_ok ht10) ⟨?_,rfl,?_⟩ ?_ ?_ ?_ ?_ ?_ ?_ ?_ ?_
  ·simp only[ZZ.down,Nat.reduceEqDiff,reduceCtorEq,Nat.reduceAdd,Nat.reduceLeDiff,Nat.reduceLT,Nat.reduceBNe,EE.down]
  ·simp only[ZZ.down,Nat.reduceEqDiff,reduceCtorEq,Nat.reduceAdd,Nat.reduceLeDiff,Nat.reduceLT,Nat.reduceBNe,EE.down]
  ·simp only[ZZ.down,Nat.reduceEqDiff,reduceCtorEq,Nat.reduceAdd,Nat.reduceLeDiff,Nat.reduceLT,Nat.reduceBNe,EE.down]
  ·rfl
  ·rfl
  ·simp[liveAll,A1.live,C.live]
  ·rfl
  ·decide
  ·exact trivial
  refine ww ?_
  cases h
  exact eM [some 0,some 1,some 3,some 13] rfl
 rintro _ rfl
 clear ho
 refine ww ?_
 obtain⟨t11,ht11,h⟩:=bi h
 refine cN [] (F16_ok ht11) trivial (ww ?_)
 obtain⟨o12,ho,h⟩:=bi h
 refine cutS (fun s=>s=⟨[(1,.one (.c (.pt 0 0))),(2,.one (.c (.pt 1 0))),(5,.one (.c (.pt 2 0))),(10,.one (.c (dM (t7.1.map eObject)))),(12,.one (.c (.pt 3 0))),(87,.one (.c (dB o12)))],[some (.box [dI t8.1,dI o9.1,dI t3.2.2.1,dM (o9.2.1.map eObject),dM (o9.2.2.1.map eObject),dM (o9.2.2.2.1.map eChange)]),some (.box [dS ((t3.2.2.2.2.2.2.1).Meta.Kind),dS ((t3.2.2.2.2.2.2.1).Meta.Namespace),dS ((t3.2.2.2.2.2.2.1).Meta.Name),dI ((t3.2.2.2.2.2.2.1).Meta.Uid),dI ((t3.2.2.2.2.2.2.1).Meta.Version),dI ((t3.2.2.2.2.2.2.1).Meta.Generation),dI ((t3.2.2.2.2.2.2.1).Meta.Created),dB ((t3.2.2.2.2.2.2.1).Meta.Deleting),dI ((t3.2.2.2.2.2.2.1).Meta.DeleteAt),dM (((t3.2.2.2.2.2.2.1).Meta.Labels).map eLabel),dM (((t3.2.2.2.2.2.2.1).Meta.Owners).map eOwner),dM (((t3.2.2.2.2.2.2.1).Meta.Finalizers).map eS),dM (((t3.2.2.2.2.2.2.1).Meta.Managers).map eManager),dI ((t3.2.2.2.2.2.2.1).Spec.Kind),dI ((t3.2.2.2.2.2.2.1).Spec.N),dS ((t3.2.2.2.2.2.2.1).Spec.S),dM (((t3.2.2.2.2.2.2.1).Spec.List_).map eTValue),dM (((t3.2.2.2.2.2.2.1).Spec.Fields).map eTField),dI ((t3.2.2.2.2.2.2.1).Status.Kind),dI ((t3.2.2.2.2.2.2.1).Status.N),dS ((t3.2.2.2.2.2.2.1).Status.S),dM (((t3.2.2.2.2.2.2.1).Status.List_).map eTValue),dM (((t3.2.2.2.2.2.2.1).Status.Fields).map eTField)]),some (.box [dS ((o4.2.2.2.2.2.1).Meta.Kind),dS ((o4.2.2.2.2.2.1).Meta.Namespace),dS ((o4.2.2.2.2.2.1).Meta.Name),dI ((o4.2.2.2.2.2.1).Meta.Uid),dI ((o4.2.2.2.2.2.1).Meta.Version),dI ((o4.2.2.2.2.2.1).Meta.Generation),dI ((o4.2.2.2.2.2.1).Meta.Created),dB ((o4.2.2.2.2.2.1).Meta.Deleting),dI ((o4.2.2.2.2.2.1).Meta.DeleteAt),dM (((o4.2.2.2.2.2.1).Meta.Labels).map eLabel),dM (((o4.2.2.2.2.2.1).Meta.Owners).map eOwner),dM (((o4.2.2.2.2.2.1).Meta.Finalizers).map eS),dM (((o4.2.2.2.2.2.1).Meta.Managers).map eManager),dI ((o4.2.2.2.2.2.1).Spec.Kind),dI ((o4.2.2.2.2.2.1).Spec.N),dS ((o4.2.2.2.2.2.1).Spec.S),dM (((o4.2.2.2.2.2.1).Spec.List_).map eTValue),dM (((o4.2.2.2.2.2.1).Spec.Fields).map eTField),dI ((o4.2.2.2.2.2.1).Status.Kind),dI ((o4.2.2.2.2.2.1).Status.N),dS ((o4.2.2.2.2.2.1).Status.S),dM (((o4.2.2.2.2.2.1).Status.List_).map eTValue),dM (((o4.2.2.2.2.2.1).Status.Fields).map eTField)]),some (.box [dS ((t8.2.2.2.2.2.1).Meta.Kind),dS ((t8.2.2.2.2.2.1).Meta.Namespace),dS ((t8.2.2.2.2.2.1).Meta.Name),dI ((t8.2.2.2.2.2.1).Meta.Uid),dI ((t8.2.2.2.2.2.1).Meta.Version),dI ((t8.2.2.2.2.2.1).Meta.Generation),dI ((t8.2.2.2.2.2.1).Meta.Created),dB ((t8.2.2.2.2.2.1).Meta.Deleting),dI ((t8.2.2.2.2.2.1).Meta.DeleteAt),dM (((t8.2.2.2.2.2.1).Meta.Labels).map eLabel),dM (((t8.2.2.2.2.2.1).Meta.Owners).map eOwner),dM (((t8.2.2.2.2.2.1).Meta.Finalizers).map eS),dM (((t8.2.2.2.2.2.1).Meta.Managers).map eManager),dI ((t8.2.2.2.2.2.1).Spec.Kind),dI ((t8.2.2.2.2.2.1).Spec.N),dS ((t8.2.2.2.2.2.1).Spec.S),dM (((t8.2.2.2.2.2.1).Spec.List_).map eTValue),dM (((t8.2.2.2.2.2.1).Spec.Fields).map eTField),dI ((t8.2.2.2.2.2.1).Status.Kind),dI ((t8.2.2.2.2.2.1).Status.N),dS ((t8.2.2.2.2.2.1).Status.S),dM (((t8.2.2.2.2.2.1).Status.List_).map eTValue),dM (((t8.2.2.2.2.2.1).Status.Fields).map eTField)])]⟩) ?_ ?_
 ·have h:=ho
  clear ho
  refine ww ?_
  refine guardSh h (fun g13 h=>?_) (fun g13 h=>?_)
  ·refine ww ?_
   cases h
   exact eM [some 0,some 1,some 2,some 3] rfl
  refine ww ?_
  refine guardSh h (fun g14 h=>?_) (fun g14 h=>?_)
  ·refine ww ?_
   cases h
   exact eM [some 0,some 1,some 2,some 3] rfl
  refine ww ?_
  refine guardSh h (fun g15 h=>?_) (fun g15 h=>?_)
  ·refine ww ?_
   cases h
   exact eM [some 0,some 1,some 2,some 3] rfl
  refine ww ?_
  refine guardSh h (fun g16 h=>?_) (fun g16 h=>?_)
  ·refine ww ?_
   cases h
   exact eM [some 0,some 1,some 2,some 3] rfl
  refine ww ?_
  refine guardSh h (fun g17 h=>?_) (fun g17 h=>?_)
  ·refine ww ?_
   cases h
   exact eM [some 0,some 1,some 2,some 3] rfl
  refine ww ?_
  refine guardSh h (fun g18 h=>?_) (fun g18 h=>?_)
  ·refine ww ?_
   cases h
   exact eM [some 0,some 1,some 2,some 3] rfl
  refine ww ?_
  cases h
  exact eM [some 0,some 1,some 2,some 3] rfl
 rintro _ rfl
 clear ho
 refine ww ?_
 refine condBh h (fun c19 h=>?_) (fun c19 h=>?_)
 ·refine ww ?_
  cases h
  exact eF []
 refine ww ?_
 obtain⟨o20,ho,h⟩:=bi h
 refine cutS (fun s=>s=⟨[(0,.one (.c (dB o20)))],[]⟩) ?_ ?_
 ·have h:=ho
  clear ho
  refine ww ?_
  refine guardSh h (fun g21 h=>?_) (fun g21 h=>?_)
  ·refine ww ?_
   refine guardSh h (fun g22 h=>?_) (fun g22 h=>?_)
   ·refine ww ?_
    refine guardSh h (fun g23 h=>?_) (fun g23 h=>?_)
    ·refine ww ?_
     refine guardSh h (fun g24 h=>?_) (fun g24 h=>?_)
     ·refine ww ?_
      refine guardSh h (fun g25 h=>?_) (fun g25 h=>?_)
      ·refine ww ?_
       refine guardSh h (fun g26 h=>?_) (fun g26 h=>?_)
       ·refine ww ?_
        refine guardSh h (fun g27 h=>?_) (fun g27 h=>?_)
        ·refine ww ?_
         obtain⟨y28,hy28,h⟩:=bi h
         refine t_idxF (enc:=eObject) (xs:=t7.1) rfl rfl hy28 rfl (ww ?_)
         refine guardSh h (fun g29 h=>?_) (fun g29 h=>?_)
         ·refine ww ?_
          refine guardSh h (fun g30 h=>?_) (fun g30 h=>?_)
          ·refine ww ?_
           refine guardSh h (fun g31 h=>?_) (fun g31 h=>?_)
           ·refine ww ?_
            refine guardSh h (fun g32 h=>?_) (fun g32 h=>?_)
            ·refine ww ?_
             cases h
             exact eM [] rfl
            refine ww ?_
            cases h
            exact eM [] rfl
           refine ww ?_
           cases h
           exact eM [] rfl
          refine ww ?_
          cases h
          exact eM [] rfl
         refine ww ?_
         cases h
         exact eM [] rfl
        refine ww ?_
        cases h
        exact eM [] rfl
       refine ww ?_
       cases h
       exact eM [] rfl
      refine ww ?_
      cases h
      exact eM [] rfl
     refine ww ?_
     cases h
     exact eM [] rfl
    refine ww ?_
    cases h
    exact eM [] rfl
   refine ww ?_
   cases h
   exact eM [] rfl
  refine ww ?_
  cases h
  exact eM [] rfl
 rintro _ rfl
 clear ho
 refine ww ?_
 cases h
 exact eF []
def F10(x0:TStore)(x1:TOp):Option (Int×Int×Int×(List Object)×(List Object)×(List Change)×Object×Int):=(F28 x0 x1).bind fun t1=>(if x1.Kind=1 then(F25 x0 ((⟨(⟨x1.O.Meta.Kind,x1.O.Meta.Namespace,x1.O.Meta.Name,x1.O.Meta.Uid,t1.1,x1.O.Meta.Generation,x1.O.Meta.Created,x1.O.Meta.Deleting,x1.O.Meta.DeleteAt,x1.O.Meta.Labels,x1.O.Meta.Owners,x1.O.Meta.Finalizers,x1.O.Meta.Managers⟩:Meta),x1.O.Spec,x1.O.Status⟩:Object)) x1.Now).bind fun t3=>some ((t3.1,t3.2.1,t3.2.2.1,t3.2.2.2.1,t3.2.2.2.2.1,t3.2.2.2.2.2.1,(⟨(⟨(t3.2.2.2.2.2.2.1).Meta.Kind,(t3.2.2.2.2.2.2.1).Meta.Namespace,(t3.2.2.2.2.2.2.1).Meta.Name,(t3.2.2.2.2.2.2.1).Meta.Uid,(t3.2.2.2.2.2.2.1).Meta.Version,(t3.2.2.2.2.2.2.1).Meta.Generation,(t3.2.2.2.2.2.2.1).Meta.Created,(t3.2.2.2.2.2.2.1).Meta.Deleting,(t3.2.2.2.2.2.2.1).Meta.DeleteAt,(t3.2.2.2.2.2.2.1).Meta.Labels,(t3.2.2.2.2.2.2.1).Meta.Owners,(t3.2.2.2.2.2.2.1).Meta.Finalizers,(t3.2.2.2.2.2.2.1).Meta.Managers⟩:Meta),(⟨(t3.2.2.2.2.2.2.1).Spec.Kind,(t3.2.2.2.2.2.2.1).Spec.N,(t3.2.2.2.2.2.2.1).Spec.S,(t3.2.2.2.2.2.2.1).Spec.List_,(t3.2.2.2.2.2.2.1).Spec.Fields⟩:TValue),(⟨(t3.2.2.2.2.2.2.1).Status.Kind,(t3.2.2.2.2.2.2.1).Status.N,(t3.2.2.2.2.2.2.1).Status.S,(t3.2.2.2.2.2.2.1).Status.List_,(t3.2.2.2.2.2.2.1).Status.Fields⟩:TValue)⟩:Object),t3.2.2.2.2.2.2.2))else(if x1.Kind=2 then(F12 x0 ((⟨(⟨x1.O.Meta.Kind,x1.O.Meta.Namespace,x1.O.Meta.Name,x1.O.Meta.Uid,t1.1,x1.O.Meta.Generation,x1.O.Meta.Created,x1.O.Meta.Deleting,x1.O.Meta.DeleteAt,x1.O.Meta.Labels,x1.O.Meta.Owners,x1.O.Meta.Finalizers,x1.O.Meta.Managers⟩:Meta),x1.O.Spec,x1.O.Status⟩:Object))).bind fun t5=>some ((t5.1,t5.2.1,x0.NextUid,t5.2.2.1,t5.2.2.2.1,t5.2.2.2.2.1,(⟨(⟨t5.2.2.2.2.2.1,t5.2.2.2.2.2.2.1,t5.2.2.2.2.2.2.2.1,t5.2.2.2.2.2.2.2.2.1,t5.2.2.2.2.2.2.2.2.2.1,t5.2.2.2.2.2.2.2.2.2.2.1,t5.2.2.2.2.2.2.2.2.2.2.2.1,t5.2.2.2.2.2.2.2.2.2.2.2.2.1,t5.2.2.2.2.2.2.2.2.2.2.2.2.2.1,t5.2.2.2.2.2.2.2.2.2.2.2.2.2.2.1,t5.2.2.2.2.2.2.2.2.2.2.2.2.2.2.2.1,t5.2.2.2.2.2.2.2.2.2.2.2.2.2.2.2.2.1,t5.2.2.2.2.2.2.2.2.2.2.2.2.2.2.2.2.2.1⟩:Meta),(⟨t5.2.2.2.2.2.2.2.2.2.2.2.2.2.2.2.2.2.2.1,t5.2.2.2.2.2.2.2.2.2.2.2.2.2.2.2.2.2.2.2.1,t5.2.2.2.2.2.2.2.2.2.2.2.2.2.2.2.2.2.2.2.2.1,t5.2.2.2.2.2.2.2.2.2.2.2.2.2.2.2.2.2.2.2.2.2.1,t5.2.2.2.2.2.2.2.2.2.2.2.2.2.2.2.2.2.2.2.2.2.2.1⟩:TValue),(⟨t5.2.2.2.2.2.2.2.2.2.2.2.2.2.2.2.2.2.2.2.2.2.2.2.1,t5.2.2.2.2.2.2.2.2.2.2.2.2.2.2.2.2.2.2.2.2.2.2.2.2.1,t5.2.2.2.2.2.2.2.2.2.2.2.2.2.2.2.2.2.2.2.2.2.2.2.2.2.1,t5.2.2.2.2.2.2.2.2.2.2.2.2.2.2.2.2.2.2.2.2.2.2.2.2.2.2.1,t5.2.2.2.2.2.2.2.2.2.2.2.2.2.2.2.2.2.2.2.2.2.2.2.2.2.2.2.1⟩:TValue)⟩:Object),t5.2.2.2.2.2.2.2.2.2.2.2.2.2.2.2.2.2.2.2.2.2.2.2.2.2.2.2.2))else(if x1.Kind=3 then(F27 x0 x1.Key t1.2).bind fun t7=>some ((t7.1,t7.2.1,x0.NextUid,t7.2.2.1,t7.2.2.2.1,t7.2.2.2.2.1,(⟨(⟨(t7.2.2.2.2.2.1).Meta.Kind,(t7.2.2.2.2.2.1).Meta.Namespace,(t7.2.2.2.2.2.1).Meta.Name,(t7.2.2.2.2.2.1).Meta.Uid,(t7.2.2.2.2.2.1).Meta.Version,(t7.2.2.2.2.2.1).Meta.Generation,(t7.2.2.2.2.2.1).Meta.Created,(t7.2.2.2.2.2.1).Meta.Deleting,(t7.2.2.2.2.2.1).Meta.DeleteAt,(t7.2.2.2.2.2.1).Meta.Labels,(t7.2.2.2.2.2.1).Meta.Owners,(t7.2.2.2.2.2.1).Meta.Finalizers,(t7.2.2.2.2.2.1).Meta.Managers⟩:Meta),(⟨(t7.2.2.2.2.2.1).Spec.Kind,(t7.2.2.2.2.2.1).Spec.N,(t7.2.2.2.2.2.1).Spec.S,(t7.2.2.2.2.2.1).Spec.List_,(t7.2.2.2.2.2.1).Spec.Fields⟩:TValue),(⟨(t7.2.2.2.2.2.1).Status.Kind,(t7.2.2.2.2.2.1).Status.N,(t7.2.2.2.2.2.1).Status.S,(t7.2.2.2.2.2.1).Status.List_,(t7.2.2.2.2.2.1).Status.Fields⟩:TValue)⟩:Object),t7.2.2.2.2.2.2))else(F19 x0 x1.Rev).bind fun t8=>some ((x0.Rev,t8.1,x0.NextUid,t8.2.1,t8.2.2.1,t8.2.2.2.1,(⟨(⟨(⟨#[]⟩:ByteArray),(⟨#[]⟩:ByteArray),(⟨#[]⟩:ByteArray),0,0,0,0,false,0,[],[],[],[]⟩:Meta),(⟨0,0,(⟨#[]⟩:ByteArray),[],[]⟩:TValue),(⟨0,0,(⟨#[]⟩:ByteArray),[],[]⟩:TValue)⟩:Object),t8.2.2.2.2)))))
def a10:AFn:=⟨57,[(.cell 4 (some 6)),(.cell 5 (some 23)),(.tmp 6)],
 (.seq (.reg [sq 2 (.box (.t 0)),
sq 3 (.box (.t 1)),
sq 4 (.zbox [dI 0,dI 0,dI 0,dN,dN,dN]),
sq 5 (.zbox [dS ⟨#[]⟩,dS ⟨#[]⟩,dS ⟨#[]⟩,dI 0,dI 0,dI 0,dI 0,dB false,dI 0,dN,dN,dN,dN,dI 0,dI 0,dS ⟨#[]⟩,dN,dN,dI 0,dI 0,dS ⟨#[]⟩,dN,dN]),
sq 6 (.mv (kI 0))])
 (.seq (.reg [sq 12 (.load (some 6) (.t 2)),
sq 13 (.load (some 28) (.t 3)),
sq 14 (.call 28 [(.t 12),(.t 13)]),
sq 11 (.mv (.t 14)),
sq 15 (.ext (.t 11) 0),
sq 16 (.ext (.t 11) 1),
sq 7 (.zbox [dS ⟨#[]⟩,dS ⟨#[]⟩,dS ⟨#[]⟩,dI 0,dI 0,dI 0,dI 0,dB false,dI 0,dN,dN,dN,dN,dI 0,dI 0,dS ⟨#[]⟩,dN,dN,dI 0,dI 0,dS ⟨#[]⟩,dN,dN]),
su (.store 23 (.t 7) (.t 15)),
sq 8 (.mv (.t 16))])
 (.seq (.seq (.reg [sq 17 (.fieldA 0 (.t 3)),
sq 18 (.load none (.t 17))])
 (.block 0 (.seq (.reg [sq 20 (.bin .eql (.t 18) (kI 1)),
sq 19 (.mv (.t 20))])
 (.cond (.t 19)
 (.seq (.reg [sq 21 (.load (some 6) (.t 2)),
sq 22 (.load (some 23) (.t 7)),
sq 23 (.fieldA 26 (.t 3)),
sq 24 (.load none (.t 23)),
sq 25 (.call 25 [(.t 21),(.t 22),(.t 24)]),
sq 26 (.ext (.t 25) 0),
sq 27 (.ext (.t 25) 1),
sq 28 (.ext (.t 25) 2),
su (.store 6 (.t 4) (.t 26)),
su (.store 23 (.t 5) (.t 27)),
sq 6 (.mv (.t 28))])
 .ret)
 (.seq (.reg [sq 30 (.bin .eql (.t 18) (kI 2)),
sq 29 (.mv (.t 30))])
 (.cond (.t 29)
 (.seq (.reg [sq 31 (.load (some 6) (.t 2)),
sq 32 (.load (some 23) (.t 7)),
sq 33 (.call 12 [(.t 31),(.t 32)]),
sq 34 (.ext (.t 33) 0),
sq 35 (.ext (.t 33) 1),
sq 36 (.ext (.t 33) 2),
su (.store 6 (.t 4) (.t 34)),
su (.store 23 (.t 5) (.t 35)),
sq 6 (.mv (.t 36))])
 .ret)
 (.seq (.reg [sq 38 (.bin .eql (.t 18) (kI 3)),
sq 37 (.mv (.t 38))])
 (.cond (.t 37)
 (.seq (.reg [sq 39 (.load (some 6) (.t 2)),
sq 40 (.fieldA 24 (.t 3)),
sq 41 (.load none (.t 40)),
sq 42 (.mv (.t 8)),
sq 43 (.call 27 [(.t 39),(.t 41),(.t 42)]),
sq 44 (.ext (.t 43) 0),
sq 45 (.ext (.t 43) 1),
sq 46 (.ext (.t 43) 2),
su (.store 6 (.t 4) (.t 44)),
su (.store 23 (.t 5) (.t 45)),
sq 6 (.mv (.t 46))])
 .ret)
 .skip))))))))
 (.seq (.reg [sq 48 (.load (some 6) (.t 2)),
sq 49 (.fieldA 27 (.t 3)),
sq 50 (.load none (.t 49)),
sq 51 (.call 19 [(.t 48),(.t 50)]),
sq 47 (.mv (.t 51)),
sq 52 (.ext (.t 47) 0),
sq 53 (.ext (.t 47) 1),
sq 9 (.zbox [dI 0,dI 0,dI 0,dN,dN,dN]),
su (.store 6 (.t 9) (.t 52)),
sq 10 (.mv (.t 53))])
 (.seq (.reg [sq 54 (.load (some 6) (.t 9)),
sq 55 (.build [dS ⟨#[]⟩,dS ⟨#[]⟩,dS ⟨#[]⟩,dI 0,dI 0,dI 0,dI 0,dB false,dI 0,dN,dN,dN,dN,dI 0,dI 0,dS ⟨#[]⟩,dN,dN,dI 0,dI 0,dS ⟨#[]⟩,dN,dN] []),
sq 56 (.mv (.t 10)),
su (.store 6 (.t 4) (.t 54)),
su (.store 23 (.t 5) (.t 55)),
sq 6 (.mv (.t 56))])
 .ret)))))⟩
theorem a10_ok:afn Try.prog 10=some a10.er:=by kernel_rfl
theorem F10_ok{x0 x1 r}(h:F10 x0 x1=some r):CallD Try.prog 10 [.agg [dI x0.Rev,dI x0.Floor,dI x0.NextUid,dM (x0.Base.map eObject),dM (x0.Objects.map eObject),dM (x0.History.map eChange)],.agg [dI x1.Kind,dS x1.O.Meta.Kind,dS x1.O.Meta.Namespace,dS x1.O.Meta.Name,dI x1.O.Meta.Uid,dI x1.O.Meta.Version,dI x1.O.Meta.Generation,dI x1.O.Meta.Created,dB x1.O.Meta.Deleting,dI x1.O.Meta.DeleteAt,dM (x1.O.Meta.Labels.map eLabel),dM (x1.O.Meta.Owners.map eOwner),dM (x1.O.Meta.Finalizers.map eS),dM (x1.O.Meta.Managers.map eManager),dI x1.O.Spec.Kind,dI x1.O.Spec.N,dS x1.O.Spec.S,dM (x1.O.Spec.List_.map eTValue),dM (x1.O.Spec.Fields.map eTField),dI x1.O.Status.Kind,dI x1.O.Status.N,dS x1.O.Status.S,dM (x1.O.Status.List_.map eTValue),dM (x1.O.Status.Fields.map eTField),dS x1.Key,dI x1.Version,dI x1.Now,dI x1.Rev]] [] (tupV [.agg [dI r.1,dI r.2.1,dI r.2.2.1,.own 0 0 0 (r.2.2.2.1.length) none,.own 1 0 0 (r.2.2.2.2.1.length) none,.own 2 0 0 (r.2.2.2.2.2.1.length) none],.agg [dS ((r.2.2.2.2.2.2.1).Meta.Kind),dS ((r.2.2.2.2.2.2.1).Meta.Namespace),dS ((r.2.2.2.2.2.2.1).Meta.Name),dI ((r.2.2.2.2.2.2.1).Meta.Uid),dI ((r.2.2.2.2.2.2.1).Meta.Version),dI ((r.2.2.2.2.2.2.1).Meta.Generation),dI ((r.2.2.2.2.2.2.1).Meta.Created),dB ((r.2.2.2.2.2.2.1).Meta.Deleting),dI ((r.2.2.2.2.2.2.1).Meta.DeleteAt),dM (((r.2.2.2.2.2.2.1).Meta.Labels).map eLabel),dM (((r.2.2.2.2.2.2.1).Meta.Owners).map eOwner),dM (((r.2.2.2.2.2.2.1).Meta.Finalizers).map eS),dM (((r.2.2.2.2.2.2.1).Meta.Managers).map eManager),dI ((r.2.2.2.2.2.2.1).Spec.Kind),dI ((r.2.2.2.2.2.2.1).Spec.N),dS ((r.2.2.2.2.2.2.1).Spec.S),dM (((r.2.2.2.2.2.2.1).Spec.List_).map eTValue),dM (((r.2.2.2.2.2.2.1).Spec.Fields).map eTField),dI ((r.2.2.2.2.2.2.1).Status.Kind),dI ((r.2.2.2.2.2.2.1).Status.N),dS ((r.2.2.2.2.2.2.1).Status.S),dM (((r.2.2.2.2.2.2.1).Status.List_).map eTValue),dM (((r.2.2.2.2.2.2.1).Status.Fields).map eTField)],.c (dI r.2.2.2.2.2.2.2)]) [some (.arr 0 23 (r.2.2.2.1.map eObject)),some (.arr 0 23 (r.2.2.2.2.1.map eObject)),some (.arr 0 25 (r.2.2.2.2.2.1.map eChange))]:=by
 refine callS a10_ok (by simp[a10]) ?_
 rw[F10]at h
 simp only[a10,VW.down,Nat.reduceEqDiff,reduceCtorEq,Nat.reduceAdd,Nat.reduceLeDiff,Nat.reduceLT,Nat.reduceBEq,Nat.reduceSub,EE.down]
 obtain⟨t1,ht1,h⟩:=bi h
 refine cN [] (F28_ok ht1) trivial (ww ?_)
 refine condSh h (fun c2 h=>?_) (fun c2 h=>?_)
 ·refine ww ?_
  obtain⟨t3,ht3,h⟩:=bi h
  refine cN [] (F25_ok ht3) trivial (ww ?_)
  cases h
  exact eF [some 5,some 6,some 7]
 refine ww ?_
 refine condSh h (fun c4 h=>?_) (fun c4 h=>?_)
 ·refine ww ?_
  obtain⟨t5,ht5,h⟩:=bi h
  refine cN [] (F12_ok ht5) trivial (ww ?_)
  cases h
  exact eF [some 5,some 6,some 7]
 refine ww ?_
 refine condSh h (fun c6 h=>?_) (fun c6 h=>?_)
 ·refine ww ?_
  obtain⟨t7,ht7,h⟩:=bi h
  refine cN [] (F27_ok ht7) trivial (ww ?_)
  cases h
  exact eF [some 5,some 6,some 7]
 refine ww ?_
 obtain⟨t8,ht8,h⟩:=bi h
 refine cN [] (F19_ok ht8) trivial (ww ?_)
 cases h
 exact eF [some 5,some 6,some 7]
def F14_l2:List TOp→Nat→Int→Int→Int→(List Object)→(List Object)→(List Change)→Option (TStore)
 |[],o2_6,o2_0,o2_1,o2_2,o2_3,o2_4,o2_5=>some ((⟨o2_0,o2_1,o2_2,o2_3,o2_4,o2_5⟩:TStore))
 |xo2::xs,o2_6,o2_0,o2_1,o2_2,o2_3,o2_4,o2_5=>(F10 ((⟨o2_0,o2_1,o2_2,o2_3,o2_4,o2_5⟩:TStore)) xo2).bind fun t4=>F14_l2 xs (o2_6+1) t4.1 t4.2.1 t4.2.2.1 t4.2.2.2.1 t4.2.2.2.2.1 t4.2.2.2.2.2.1
def F14(x0:(List TOp)):Option (TStore):=(F9).bind fun t1=>(((ck (0≤x0.length∧x0.length≤4294967290)).bind fun u5=>F14_l2 x0 0 0 0 1 ([]) ([]) ([])).bind fun o2=>some ((⟨(o2).Rev,(o2).Floor,(o2).NextUid,(o2).Base,(o2).Objects,(o2).History⟩:TStore)))
def a14:AFn:=⟨23,[(.cell 2 (some 6))],
 (.seq (.reg [zl 2 (.zbox [dI 0,dI 0,dI 0,dN,dN,dN]) [] []])
 (.seq (.reg [sq 5 (.call 9 []),
sq 3 (.zbox [dI 0,dI 0,dI 0,dN,dN,dN]),
su (.store 6 (.t 3) (.t 5))])
 (.seq (.seq (.reg [sq 4 (.mv (kI 0))])
 (.sem (.block 0 (.loop (.seq (.seq (.reg [sq 6 (.mv (.t 4)),
sq 7 (.mv (.t 0)),
sq 8 (.len (.t 7)),
sq 9 (.bin .lss (.t 6) (.t 8))])
 (.cond (.t 9)
 .skip
 (.exit 0)))
 (.seq (.block 1 (.regd [sq 13 (.load (some 6) (.t 3)),
sq 14 (.mv (.t 0)),
sq 15 (.mv (.t 4)),
sd 16 (.indexA 28 (.t 14) (.t 15)) [1,2],
sd 17 (.load (some 28) (.t 16)) [1,2,3],
zl 18 (.call 10 [(.t 13),(.t 17)]) [0,1,2,3,4] [],
sd 12 (.mv (.t 18)) [0,1,2,3,4,5],
sd 19 (.ext (.t 12) 0) [0,1,2,3,4,5,6],
sd 20 (.ext (.t 12) 1) [0,1,2,3,4,5,6],
sd 21 (.ext (.t 12) 2) [0,1,2,3,4,5,6],
⟨none,none,.store 6 (.t 3) (.t 19),[0,1,2,3,4,5,6,7],(.lone [])⟩]))
 (.reg [sq 10 (.mv (.t 4)),
sq 11 (.bin .add (.t 10) (kI 1)),
sq 4 (.mv (.t 11))])))))))
 (.seq (.reg [sq 22 (.load (some 6) (.t 3)),
⟨none,none,.store 6 (.t 2) (.t 22),[],(.lone [3])⟩])
 .ret))))⟩
theorem a14_ok:afn Try.prog 14=some a14.er:=by kernel_rfl
theorem F14_ok{x0 r}(h:F14 x0=some r):CallD Try.prog 14 [.c (dM (x0.map eTOp))] [] (tupV [.agg [dI ((r).Rev),dI ((r).Floor),dI ((r).NextUid),dM (((r).Base).map eObject),dM (((r).Objects).map eObject),dM (((r).History).map eChange)]]) []:=by
 refine callS a14_ok (by simp[a14]) ?_
 rw[F14]at h
 simp only[a14,VW.down,Nat.reduceEqDiff,reduceCtorEq,Nat.reduceAdd,Nat.reduceLeDiff,Nat.reduceLT,Nat.reduceBEq,Nat.reduceSub,EE.down]
 obtain⟨t1,ht1,h⟩:=bi h
 refine cN [] (F9_ok ht1) trivial (ww ?_)
 obtain⟨o2,ho,h⟩:=bi h
 refine cutS (fun s=>s=⟨[(2,.one (.c (.pt 0 0))),(3,.one (.c (.pt 1 0)))],[some (.box [dI 0,dI 0,dI 0,dN,dN,dN]),some (.box [dI ((o2).Rev),dI ((o2).Floor),dI ((o2).NextUid),dM (((o2).Base).map eObject),dM (((o2).Objects).map eObject),dM (((o2).History).map eChange)])]⟩) ?_ ?_
 ·have h:=ho
  clear ho
  obtain⟨_,hk,h⟩:=bi h
  have hk:=ck_some hk
  refine ww ?_
  refine bL (fun j s=>∃(o2_6:Nat) (o2_0:Int) (o2_1:Int) (o2_2:Int) (o2_3:List Object) (o2_4:List Object) (o2_5:List Change),(o2_6≤x0.length∧j=x0.length-o2_6)∧s=⟨[(0,.one (.c (dM (x0.map eTOp)))),(2,.one (.c (.pt 0 0))),(3,.one (.c (.pt 1 0))),(4,.one (.c (dI ((o2_6:Int)))))],[some (.box [dI 0,dI 0,dI 0,dN,dN,dN]),some (.box [dI o2_0,dI o2_1,dI o2_2,dM (o2_3.map eObject),dM (o2_4.map eObject),dM (o2_5.map eChange)])]⟩∧F14_l2 (x0.drop o2_6) o2_6 o2_0 o2_1 o2_2 o2_3 o2_4 o2_5=some o2) (x0.length-0) [some 0,some 1] ⟨0,0,0,1,[],[],[],⟨hk.1,rfl⟩,rfl,h⟩ ?_
  rintro _ _ ⟨o2_6,o2_0,o2_1,o2_2,o2_3,o2_4,o2_5,⟨hi,rfl⟩,rfl,h⟩
  refine ww ?_
  refine condS (fun c3=>?_) (fun c3=>?_)
  ·obtain⟨xo2,hxo2,hd⟩:=countY (show(o2_6:Int)<(x0.length:Int)from c3)
   rw[hd,F14_l2]at h
   refine ww ?_
   refine t_idxF (enc:=eTOp) (xs:=x0) rfl rfl hxo2 rfl (ww ?_)
   obtain⟨t4,ht4,h⟩:=bi h
   refine cN [] (F10_ok ht4) trivial (ww ?_)
   rw[wrapN (by omega)]
   exact eL' (x0.length-(o2_6+1)) [some 0,some 1] ⟨o2_6+1,t4.1,t4.2.1,t4.2.2.1,t4.2.2.2.1,t4.2.2.2.2.1,t4.2.2.2.2.2.1,⟨by omega,rfl⟩,rfl,h⟩ (by omega)
  rw[countN (show¬((o2_6:Int)<(x0.length:Int))from c3),F14_l2]at h
  refine ww ?_
  cases h
  exact eM [some 0,some 1] rfl
 rintro _ rfl
 clear ho
 refine ww ?_
 cases h
 exact eF []
def F18_l1(x1:Change):List Object→Nat→(List Object)→Bool→Option ((List Object)×Bool)
 |[],o1_2,o1_0,o1_1=>some ((o1_0,o1_1))
 |xo1::xs,o1_2,o1_0,o1_1=>(((((((if(nb o1_1)=true then(F22 xo1).bind fun t7=>(F22 x1.Object).bind fun t8=>some (nb (Op.bytesLess t7.toList t8.toList||decide (t7=t8)))else some false)).bind fun o5=>(if o5=true then(apI o1_0 ([x1.Object])).bind fun a10=>some ((a10,true))else some ((o1_0,o1_1))))).bind fun o4=>(F22 xo1).bind fun t11=>(F22 x1.Object).bind fun t12=>(if¬(t11=t12)then(apI o4.1 ([xo1])).bind fun a14=>some ((a14,o4.2))else some ((o4.1,o4.2))))).bind fun o3=>F18_l1 x1 xs (o1_2+1) o3.1 o3.2)
def F18(x0:(List Object))(x1:Change):Option ((List Object)):=(((ck (0≤x0.length∧x0.length≤4294967290)).bind fun u15=>F18_l1 x1 x0 0 ([]) (decide (x1.Kind=2))).bind fun o1=>(if(nb o1.2)=true then(apI o1.1 ([x1.Object])).bind fun a17=>some a17 else some o1.1))
def a18:AFn:=⟨60,[(.tmp 4)],
 (.seq (.reg [sq 3 (.box (.t 1)),
sq 4 (.mv kN)])
 (.seq (.reg [sq 8 (.bslice 23 []),
sq 5 (.mv (.t 8))])
 (.seq (.reg [sq 9 (.fieldA 1 (.t 3)),
sq 10 (.load none (.t 9)),
sq 11 (.bin .eql (.t 10) (kI 2)),
sq 6 (.mv (.t 11))])
 (.seq (.seq (.reg [sq 7 (.mv (kI 0))])
 (.sem (.block 0 (.loop (.seq (.seq (.reg [sq 12 (.mv (.t 7)),
sq 13 (.mv (.t 0)),
sq 14 (.len (.t 13)),
sq 15 (.bin .lss (.t 12) (.t 14))])
 (.cond (.t 15)
 .skip
 (.exit 0)))
 (.seq (.sem (.block 1 (.seq (.sem (.seq (.sem (.regd [sq 18 (.mv (.t 6)),
sd 19 (.not (.t 18)) [0],
sd 20 (.mv (.t 19)) [0,1],
⟨(some 21),(some (20,true)),.mv (.t 0),[0,1,2],(.new [])⟩,
⟨(some 22),(some (20,true)),.mv (.t 7),[0,1,2],(.new [])⟩,
⟨(some 23),(some (20,true)),.indexA 23 (.t 21) (.t 22),[0,1,2,3,4],(.new [])⟩,
⟨(some 24),(some (20,true)),.load (some 23) (.t 23),[0,1,2,3,4,5],(.new [])⟩,
⟨(some 25),(some (20,true)),.call 22 [(.t 24)],[0,1,2,3,4,5,6],(.new [3,4,5,6])⟩,
⟨(some 26),(some (20,true)),.fieldA 2 (.t 3),[0,1,2],(.new [])⟩,
⟨(some 27),(some (20,true)),.load (some 23) (.t 26),[0,1,2,8],(.new [])⟩,
⟨(some 28),(some (20,true)),.call 22 [(.t 27)],[0,1,2,3,4,5,6,7,8,9],(.lone [])⟩,
⟨(some 29),(some (20,true)),.bin .gtr (.t 25) (.t 28),[0,1,2,3,4,5,6,7,8,9,10],(.new [])⟩,
zl 30 (.pick (.t 20) (.t 29) (kB false)) [0,1,2,3,4,5,6,7,8,9,10,11] []]))
 (.cond (.t 30)
 (.seq (.reg [sq 31 (.mv (.t 5)),
sq 32 (.fieldA 2 (.t 3)),
sq 33 (.load (some 23) (.t 32)),
sq 34 (.bslice 23 [(.t 33)]),
sq 35 (.app 23 352 (.t 31) (.t 34)),
sq 5 (.mv (.t 35))])
 (.reg [sq 6 (.mv (kB true))]))
 .skip)))
 (.seq (.regd [sq 36 (.mv (.t 0)),
sq 37 (.mv (.t 7)),
sd 38 (.indexA 23 (.t 36) (.t 37)) [0,1],
sd 39 (.load (some 23) (.t 38)) [0,1,2],
zn 40 (.call 22 [(.t 39)]) [0,1,2,3] [0,1,2,3],
sq 41 (.fieldA 2 (.t 3)),
sd 42 (.load (some 23) (.t 41)) [5],
zl 43 (.call 22 [(.t 42)]) [0,1,2,3,4,5,6] [],
sd 44 (.bin .neq (.t 40) (.t 43)) [0,1,2,3,4,5,6,7]])
 (.cond (.t 44)
 (.reg [sq 45 (.mv (.t 5)),
sq 46 (.mv (.t 0)),
sq 47 (.mv (.t 7)),
sq 48 (.indexA 23 (.t 46) (.t 47)),
sq 49 (.load (some 23) (.t 48)),
sq 50 (.bslice 23 [(.t 49)]),
sq 51 (.app 23 352 (.t 45) (.t 50)),
sq 5 (.mv (.t 51))])
 .skip)))))
 (.reg [sq 16 (.mv (.t 7)),
sq 17 (.bin .add (.t 16) (kI 1)),
sq 7 (.mv (.t 17))])))))))
 (.seq (.seq (.reg [sq 52 (.mv (.t 6)),
sq 53 (.not (.t 52))])
 (.cond (.t 53)
 (.reg [sq 54 (.mv (.t 5)),
sq 55 (.fieldA 2 (.t 3)),
sq 56 (.load (some 23) (.t 55)),
sq 57 (.bslice 23 [(.t 56)]),
sq 58 (.app 23 352 (.t 54) (.t 57)),
sq 5 (.mv (.t 58))])
 .skip))
 (.seq (.reg [sq 59 (.mv (.t 5)),
sq 4 (.mv (.t 59))])
 .ret))))))⟩
theorem a18_ok:afn Try.prog 18=some a18.er:=by kernel_rfl
theorem F18_ok{x0 x1 r}(h:F18 x0 x1=some r):CallD Try.prog 18 [.c (dM (x0.map eObject)),.agg [dI x1.Rev,dI x1.Kind,dS x1.Object.Meta.Kind,dS x1.Object.Meta.Namespace,dS x1.Object.Meta.Name,dI x1.Object.Meta.Uid,dI x1.Object.Meta.Version,dI x1.Object.Meta.Generation,dI x1.Object.Meta.Created,dB x1.Object.Meta.Deleting,dI x1.Object.Meta.DeleteAt,dM (x1.Object.Meta.Labels.map eLabel),dM (x1.Object.Meta.Owners.map eOwner),dM (x1.Object.Meta.Finalizers.map eS),dM (x1.Object.Meta.Managers.map eManager),dI x1.Object.Spec.Kind,dI x1.Object.Spec.N,dS x1.Object.Spec.S,dM (x1.Object.Spec.List_.map eTValue),dM (x1.Object.Spec.Fields.map eTField),dI x1.Object.Status.Kind,dI x1.Object.Status.N,dS x1.Object.Status.S,dM (x1.Object.Status.List_.map eTValue),dM (x1.Object.Status.Fields.map eTField)]] [] (tupV [.c (.own 0 0 0 (r.length) none)]) [some (.arr 0 23 (r.map eObject))]:=by
 refine callS a18_ok (by simp[a18]) ?_
 rw[F18]at h
 simp only[a18,VW.down,Nat.reduceEqDiff,reduceCtorEq,Nat.reduceAdd,Nat.reduceLeDiff,Nat.reduceLT,Nat.reduceBEq,Nat.reduceSub,EE.down]
 refine t_bslice (enc:=eObject) (ys:=([]:List Object)) rfl rfl (by simp[A1.cells]) (by first|rfl|(simp only[List.drop_zero,take_mapL];rfl)|(simp only[lit,List.map_cons,List.map_nil,List.drop_zero,take_mapL,EE.down];done)|(simp only[lit,List.map_cons,List.map_nil,List.drop_zero,take_mapL,EE.down];rfl)) (ww ?_)
 obtain⟨o1,ho,h⟩:=bi h
 refine cutS (fun s=>s=⟨[(3,.one (.c (.pt 0 0))),(5,.one (.c (.own 1 0 0 (o1.1.length) none))),(6,.one (.c (dB o1.2)))],[some (.box [dI x1.Rev,dI x1.Kind,dS x1.Object.Meta.Kind,dS x1.Object.Meta.Namespace,dS x1.Object.Meta.Name,dI x1.Object.Meta.Uid,dI x1.Object.Meta.Version,dI x1.Object.Meta.Generation,dI x1.Object.Meta.Created,dB x1.Object.Meta.Deleting,dI x1.Object.Meta.DeleteAt,dM (x1.Object.Meta.Labels.map eLabel),dM (x1.Object.Meta.Owners.map eOwner),dM (x1.Object.Meta.Finalizers.map eS),dM (x1.Object.Meta.Managers.map eManager),dI x1.Object.Spec.Kind,dI x1.Object.Spec.N,dS x1.Object.Spec.S,dM (x1.Object.Spec.List_.map eTValue),dM (x1.Object.Spec.Fields.map eTField),dI x1.Object.Status.Kind,dI x1.Object.Status.N,dS x1.Object.Status.S,dM (x1.Object.Status.List_.map eTValue),dM (x1.Object.Status.Fields.map eTField)]),some (.arr 0 23 (o1.1.map eObject))]⟩) ?_ ?_
 ·have h:=ho
  clear ho
  obtain⟨_,hk,h⟩:=bi h
  have hk:=ck_some hk
  refine ww ?_
  refine bL (fun j s=>∃(o1_2:Nat) (o1_0:List Object) (o1_1:Bool),(o1_2≤x0.length∧j=x0.length-o1_2)∧s=⟨[(0,.one (.c (dM (x0.map eObject)))),(3,.one (.c (.pt 0 0))),(5,.one (.c (.own 1 0 0 (o1_0.length) none))),(6,.one (.c (dB o1_1))),(7,.one (.c (dI ((o1_2:Int)))))],[some (.box [dI x1.Rev,dI x1.Kind,dS x1.Object.Meta.Kind,dS x1.Object.Meta.Namespace,dS x1.Object.Meta.Name,dI x1.Object.Meta.Uid,dI x1.Object.Meta.Version,dI x1.Object.Meta.Generation,dI x1.Object.Meta.Created,dB x1.Object.Meta.Deleting,dI x1.Object.Meta.DeleteAt,dM (x1.Object.Meta.Labels.map eLabel),dM (x1.Object.Meta.Owners.map eOwner),dM (x1.Object.Meta.Finalizers.map eS),dM (x1.Object.Meta.Managers.map eManager),dI x1.Object.Spec.Kind,dI x1.Object.Spec.N,dS x1.Object.Spec.S,dM (x1.Object.Spec.List_.map eTValue),dM (x1.Object.Spec.Fields.map eTField),dI x1.Object.Status.Kind,dI x1.Object.Status.N,dS x1.Object.Status.S,dM (x1.Object.Status.List_.map eTValue),dM (x1.Object.Status.Fields.map eTField)]),some (.arr 0 23 (o1_0.map eObject))]⟩∧F18_l1 x1 (x0.drop o1_2) o1_2 o1_0 o1_1=some o1) (x0.length-0) [some 0,some 1] ⟨0,[],decide (x1.Kind=2),⟨hk.1,rfl⟩,rfl,h⟩ ?_
  rintro _ _ ⟨o1_2,o1_0,o1_1,⟨hi,rfl⟩,rfl,h⟩
  refine ww ?_
  refine condS (fun c2=>?_) (fun c2=>?_)
  ·obtain⟨xo1,hxo1,hd⟩:=countY (show(o1_2:Int)<(x0.length:Int)from c2)
   rw[hd,F18_l1]at h
   refine ww ?_
   obtain⟨o3,ho,h⟩:=bi h
   refine cutS (fun s=>s=⟨[(0,.one (.c (dM (x0.map eObject)))),(3,.one (.c (.pt 0 0))),(5,.one (.c (.own 1 0 0 (o3.1.length) none))),(6,.one (.c (dB o3.2))),(7,.one (.c (dI ((o1_2:Int)))))],[some (.box [dI x1.Rev,dI x1.Kind,dS x1.Object.Meta.Kind,dS x1.Object.Meta.Namespace,dS x1.Object.Meta.Name,dI x1.Object.Meta.Uid,dI x1.Object.Meta.Version,dI x1.Object.Meta.Generation,dI x1.Object.Meta.Created,dB x1.Object.Meta.Deleting,dI x1.Object.Meta.DeleteAt,dM (x1.Object.Meta.Labels.map eLabel),dM (x1.Object.Meta.Owners.map eOwner),dM (x1.Object.Meta.Finalizers.map eS),dM (x1.Object.Meta.Managers.map eManager),dI x1.Object.Spec.Kind,dI x1.Object.Spec.N,dS x1.Object.Spec.S,dM (x1.Object.Spec.List_.map eTValue),dM (x1.Object.Spec.Fields.map eTField),dI x1.Object.Status.Kind,dI x1.Object.Status.N,dS x1.Object.Status.S,dM (x1.Object.Status.List_.map eTValue),dM (x1.Object.Status.Fields.map eTField)]),some (.arr 0 23 (o3.1.map eObject))]⟩) ?_ ?_
   ·have h:=ho
    clear ho
    refine ww ?_
    obtain⟨o4,ho,h⟩:=bi h
    refine cutS (fun s=>s=⟨[(0,.one (.c (dM (x0.map eObject)))),(3,.one (.c (.pt 0 0))),(5,.one (.c (.own 1 0 0 (o4.1.length) none))),(6,.one (.c (dB o4.2))),(7,.one (.c (dI ((o1_2:Int)))))],[some (.box [dI x1.Rev,dI x1.Kind,dS x1.Object.Meta.Kind,dS x1.Object.Meta.Namespace,dS x1.Object.Meta.Name,dI x1.Object.Meta.Uid,dI x1.Object.Meta.Version,dI x1.Object.Meta.Generation,dI x1.Object.Meta.Created,dB x1.Object.Meta.Deleting,dI x1.Object.Meta.DeleteAt,dM (x1.Object.Meta.Labels.map eLabel),dM (x1.Object.Meta.Owners.map eOwner),dM (x1.Object.Meta.Finalizers.map eS),dM (x1.Object.Meta.Managers.map eManager),dI x1.Object.Spec.Kind,dI x1.Object.Spec.N,dS x1.Object.Spec.S,dM (x1.Object.Spec.List_.map eTValue),dM (x1.Object.Spec.Fields.map eTField),dI x1.Object.Status.Kind,dI x1.Object.Status.N,dS x1.Object.Status.S,dM (x1.Object.Status.List_.map eTValue),dM (x1.Object.Status.Fields.map eTField)]),some (.arr 0 23 (o4.1.map eObject))]⟩) ?_ ?_
    ·have h:=ho
     clear ho
     refine ww ?_
     obtain⟨o5,ho,h⟩:=bi h
     refine cutS (fun s=>s=⟨[(0,.one (.c (dM (x0.map eObject)))),(3,.one (.c (.pt 0 0))),(5,.one (.c (.own 1 0 0 (o1_0.length) none))),(6,.one (.c (dB o1_1))),(7,.one (.c (dI ((o1_2:Int))))),(30,.one (.c (dB o5)))],[some (.box [dI x1.Rev,dI x1.Kind,dS x1.Object.Meta.Kind,dS x1.Object.Meta.Namespace,dS x1.Object.Meta.Name,dI x1.Object.Meta.Uid,dI x1.Object.Meta.Version,dI x1.Object.Meta.Generation,dI x1.Object.Meta.Created,dB x1.Object.Meta.Deleting,dI x1.Object.Meta.DeleteAt,dM (x1.Object.Meta.Labels.map eLabel),dM (x1.Object.Meta.Owners.map eOwner),dM (x1.Object.Meta.Finalizers.map eS),dM (x1.Object.Meta.Managers.map eManager),dI x1.Object.Spec.Kind,dI x1.Object.Spec.N,dS x1.Object.Spec.S,dM (x1.Object.Spec.List_.map eTValue),dM (x1.Object.Spec.Fields.map eTField),dI x1.Object.Status.Kind,dI x1.Object.Status.N,dS x1.Object.Status.S,dM (x1.Object.Status.List_.map eTValue),dM (x1.Object.Status.Fields.map eTField)]),some (.arr 0 23 (o1_0.map eObject))]⟩) ?_ ?_
     ·have h:=ho
      clear ho
      refine ww ?_
      refine guardDBh h (fun g6 h=>?_) (fun g6 h=>?_)
      ·refine ww ?_
       refine t_idxF (enc:=eObject) (xs:=x0) rfl rfl hxo1 rfl (ww ?_)
       obtain⟨t7,ht7,h⟩:=bi h
       refine cN [] (F22_ok ht7) trivial (ww ?_)
       obtain⟨t8,ht8,h⟩:=bi h
       refine cN [] (F22_ok ht8) trivial (ww ?_)
       cases h
       exact eM [some 0,some 1] rfl
      refine ww ?_
      cases h
      exact eM [some 0,some 1] rfl
     rintro _ rfl
     clear ho
     refine ww ?_
     refine condBh h (fun c9 h=>?_) (fun c9 h=>?_)
     ·refine ww ?_
      refine t_bslice (enc:=eObject) (ys:=[x1.Object]) rfl rfl (by simp[A1.cells]) (by first|rfl|(simp only[List.drop_zero,take_mapL];rfl)|(simp only[lit,List.map_cons,List.map_nil,List.drop_zero,take_mapL,EE.down];done)|(simp only[lit,List.map_cons,List.map_nil,List.drop_zero,take_mapL,EE.down];rfl)) (ww ?_)
      obtain⟨a10,ha10,h⟩:=bi h
      refine t_app (enc:=eObject) (xs:=o1_0) rfl rfl (by first|rfl|simp only[List.length_set]|exact(clrL_len (slI_len (by assumption))).symm) rfl (rows_full (enc:=eObject) (by first|rfl|simp only[List.length_set]|exact(clrL_len (slI_len (by assumption))).symm) rfl) ha10 (ww ?_)
      cases h
      exact eM [some 0,some 1] rfl
     refine ww ?_
     cases h
     exact eM [some 0,some 1] rfl
    rintro _ rfl
    clear ho
    refine ww ?_
    refine t_idxF (enc:=eObject) (xs:=x0) rfl rfl hxo1 rfl (ww ?_)
    obtain⟨t11,ht11,h⟩:=bi h
    refine cN [] (F22_ok ht11) trivial (ww ?_)
    obtain⟨t12,ht12,h⟩:=bi h
    refine cN [] (F22_ok ht12) trivial (ww ?_)
    refine condSh h (fun c13 h=>?_) (fun c13 h=>?_)
    ·refine ww ?_
     refine t_idxF (enc:=eObject) (xs:=x0) rfl rfl hxo1 rfl (ww ?_)
     refine t_bslice (enc:=eObject) (ys:=[xo1]) rfl rfl (by simp[A1.cells]) (by first|rfl|(simp only[List.drop_zero,take_mapL];rfl)|(simp only[lit,List.map_cons,List.map_nil,List.drop_zero,take_mapL,EE.down];done)|(simp only[lit,List.map_cons,List.map_nil,List.drop_zero,take_mapL,EE.down];rfl)) (ww ?_)
     obtain⟨a14,ha14,h⟩:=bi h
     refine t_app (enc:=eObject) (xs:=o4.1) rfl rfl (by first|rfl|simp only[List.length_set]|exact(clrL_len (slI_len (by assumption))).symm) rfl (rows_full (enc:=eObject) (by first|rfl|simp only[List.length_set]|exact(clrL_len (slI_len (by assumption))).symm) rfl) ha14 (ww ?_)
     cases h
     exact eM [some 0,some 1] rfl
    refine ww ?_
    cases h
    exact eM [some 0,some 1] rfl
   rintro _ rfl
   clear ho
   refine ww ?_
   rw[wrapN (by omega)]
   exact eL' (x0.length-(o1_2+1)) [some 0,some 1] ⟨o1_2+1,o3.1,o3.2,⟨by omega,rfl⟩,rfl,h⟩ (by omega)
  rw[countN (show¬((o1_2:Int)<(x0.length:Int))from c2),F18_l1]at h
  refine ww ?_
  cases h
  exact eM [some 0,some 1] rfl
 rintro _ rfl
 clear ho
 refine ww ?_
 refine condBh h (fun c16 h=>?_) (fun c16 h=>?_)
 ·refine ww ?_
  refine t_bslice (enc:=eObject) (ys:=[x1.Object]) rfl rfl (by simp[A1.cells]) (by first|rfl|(simp only[List.drop_zero,take_mapL];rfl)|(simp only[lit,List.map_cons,List.map_nil,List.drop_zero,take_mapL,EE.down];done)|(simp only[lit,List.map_cons,List.map_nil,List.drop_zero,take_mapL,EE.down];rfl)) (ww ?_)
  obtain⟨a17,ha17,h⟩:=bi h
  refine t_app (enc:=eObject) (xs:=o1.1) rfl rfl (by first|rfl|simp only[List.length_set]|exact(clrL_len (slI_len (by assumption))).symm) rfl (rows_full (enc:=eObject) (by first|rfl|simp only[List.length_set]|exact(clrL_len (slI_len (by assumption))).symm) rfl) ha17 (ww ?_)
  cases h
  exact eF [some 1]
 refine ww ?_
 cases h
 exact eF [some 1]
def F4_l9(t4:TStore):Nat→((List Object))→Int→Option ((Bool) ⊕ (((List Object))))
 |0,_,_=>none
 |k+1,o9_0,o9_1=>(if o9_1≤(((t4).History).length:Int)then(((F16 ((⟨(t4).Rev,(t4).Floor,(t4).NextUid,(t4).Base,(t4).Objects,(t4).History⟩:TStore)) ((IntKind.i64.wrap (((t4).Floor)+o9_1)))).bind fun t12=>(((if¬(t12.2=0)then some true else(F17 t12.1 o9_0).bind fun t15=>some (nb t15))).bind fun o13=>(if o13=true then((some false).map Sum.inl).map Sum.inl else(if o9_1<(((t4).History).length:Int)then(rdI ((t4).History) o9_1).bind fun y18=>(if¬(y18.Rev=(IntKind.i64.wrap (((IntKind.i64.wrap (((t4).Floor)+1)))+o9_1)))then((some false).map Sum.inl).map Sum.inl else(F18 o9_0 y18).bind fun t20=>some (Sum.inr t20))else some (Sum.inr o9_0)))):Option (((Bool) ⊕ (((List Object)))) ⊕ ((List Object)))).bind fun o11=>match o11 with|Sum.inl f=>some f|Sum.inr po11=>F4_l9 t4 k po11 ((IntKind.i64.wrap (o9_1+1))))else some (Sum.inr o9_0))
def F4(x0:(List TOp)):Option (Bool):=(F7 x0).bind fun t1=>(if(nb t1)=true then(F8).bind fun t3=>some t3 else(F14 x0).bind fun t4=>(((if¬((((t4).History).length:Int)=(IntKind.i64.wrap (((t4).Rev)-((t4).Floor))))then some true else(F15 ((⟨(t4).Rev,(t4).Floor,(t4).NextUid,(t4).Base,(t4).Objects,(t4).History⟩:TStore))).bind fun t7=>some (nb t7))).bind fun o5=>(if o5=true then some false else((F4_l9 t4 1099511627776 ((t4).Base) 0:Option ((Bool) ⊕ (((List Object))))).bind fun o9=>match o9 with|Sum.inl f=>some f|Sum.inr po9=>(F16 ((⟨(t4).Rev,(t4).Floor,(t4).NextUid,(t4).Base,(t4).Objects,(t4).History⟩:TStore)) ((IntKind.i64.wrap (((t4).Floor)-1)))).bind fun t21=>(F16 ((⟨(t4).Rev,(t4).Floor,(t4).NextUid,(t4).Base,(t4).Objects,(t4).History⟩:TStore)) ((IntKind.i64.wrap (((t4).Rev)+1)))).bind fun t22=>(((F8).bind fun t24=>(if t24=true then(F17 ((t4).Objects) po9).bind fun t26=>(if t26=true then(if t22.2=5 then(if t21.2=10 then some true else(if(t4).Floor=0 then some (decide (t21.2=5))else some false))else some false)else some false)else some false)).bind fun o23=>some o23)))))
def a4:AFn:=⟨122,[(.tmp 2)],
 (.seq (.reg [sq 2 (.mv (kB false))])
 (.seq (.seq (.reg [sq 12 (.mv (.t 0)),
sq 13 (.call 7 [(.t 12)]),
sq 14 (.not (.t 13))])
 (.cond (.t 14)
 (.seq (.reg [sq 15 (.call 8 []),
sq 2 (.mv (.t 15))])
 .ret)
 .skip))
 (.seq (.reg [sq 16 (.mv (.t 0)),
sq 17 (.call 14 [(.t 16)]),
sq 3 (.zbox [dI 0,dI 0,dI 0,dN,dN,dN]),
su (.store 6 (.t 3) (.t 17))])
 (.seq (.seq (.sem (.reg [sq 18 (.fieldA 5 (.t 3)),
sq 19 (.load none (.t 18)),
sq 20 (.len (.t 19)),
sq 21 (.fieldA 0 (.t 3)),
sq 22 (.load none (.t 21)),
sq 23 (.fieldA 1 (.t 3)),
sq 24 (.load none (.t 23)),
sq 25 (.bin .sub (.t 22) (.t 24)),
sq 26 (.bin .neq (.t 20) (.t 25)),
sq 27 (.mv (.t 26)),
zg 28 27 false (.load (some 6) (.t 3)),
zg 29 27 false (.call 15 [(.t 28)]),
zg 30 27 false (.not (.t 29)),
sq 31 (.pick (.t 27) (kB true) (.t 30))]))
 (.cond (.t 31)
 (.seq (.reg [sq 2 (.mv (kB false))])
 .ret)
 .skip))
 (.seq (.reg [sq 32 (.fieldA 3 (.t 3)),
sq 33 (.load none (.t 32)),
sq 4 (.mv (.t 33))])
 (.seq (.seq (.reg [sq 5 (.mv (kI 0))])
 (.sem (.block 0 (.loop (.seq (.seq (.reg [sq 34 (.mv (.t 5)),
sq 35 (.fieldA 5 (.t 3)),
sq 36 (.load none (.t 35)),
sq 37 (.len (.t 36)),
sq 38 (.bin .leq (.t 34) (.t 37))])
 (.cond (.t 38)
 .skip
 (.exit 0)))
 (.seq (.sem (.block 1 (.seq (.reg [sq 42 (.load (some 6) (.t 3)),
sq 43 (.fieldA 1 (.t 3)),
sq 44 (.load none (.t 43)),
sq 45 (.mv (.t 5)),
sq 46 (.bin .add (.t 44) (.t 45)),
sq 47 (.call 16 [(.t 42),(.t 46)]),
sq 41 (.mv (.t 47)),
sq 48 (.ext (.t 41) 0),
sq 49 (.ext (.t 41) 1),
sq 6 (.mv (.t 48)),
sq 7 (.mv (.t 49))])
 (.seq (.seq (.sem (.reg [sq 50 (.mv (.t 7)),
sq 51 (.bin .neq (.t 50) (kI 0)),
sq 52 (.mv (.t 51)),
zg 53 52 false (.mv (.t 6)),
zg 54 52 false (.mv (.t 4)),
zg 55 52 false (.call 17 [(.t 53),(.t 54)]),
zg 56 52 false (.not (.t 55)),
sq 57 (.pick (.t 52) (kB true) (.t 56))]))
 (.cond (.t 57)
 (.seq (.reg [sq 2 (.mv (kB false))])
 .ret)
 .skip))
 (.seq (.reg [sq 58 (.mv (.t 5)),
sq 59 (.fieldA 5 (.t 3)),
sq 60 (.load none (.t 59)),
sq 61 (.len (.t 60)),
sq 62 (.bin .lss (.t 58) (.t 61))])
 (.cond (.t 62)
 (.seq (.seq (.regd [sq 63 (.fieldA 5 (.t 3)),
sd 64 (.load none (.t 63)) [0],
sq 65 (.mv (.t 5)),
sd 66 (.indexA 25 (.t 64) (.t 65)) [0,1,2],
sd 67 (.fieldA 0 (.t 66)) [0,1,2,3],
sd 68 (.load none (.t 67)) [0,1,2,3,4],
sq 69 (.fieldA 1 (.t 3)),
sd 70 (.load none (.t 69)) [6],
sd 71 (.bin .add (.t 70) (kI 1)) [6,7],
sq 72 (.mv (.t 5)),
sd 73 (.bin .add (.t 71) (.t 72)) [6,7,8,9],
sd 74 (.bin .neq (.t 68) (.t 73)) [0,1,2,3,4,5,6,7,8,9,10]])
 (.cond (.t 74)
 (.seq (.reg [sq 2 (.mv (kB false))])
 .ret)
 .skip))
 (.reg [sq 75 (.mv (.t 4)),
sq 76 (.fieldA 5 (.t 3)),
sq 77 (.load none (.t 76)),
sq 78 (.mv (.t 5)),
sq 79 (.indexA 25 (.t 77) (.t 78)),
sq 80 (.load (some 25) (.t 79)),
sq 81 (.call 18 [(.t 75),(.t 80)]),
sq 4 (.mv (.t 81))]))
 .skip))))))
 (.reg [sq 39 (.mv (.t 5)),
sq 40 (.bin .add (.t 39) (kI 1)),
sq 5 (.mv (.t 40))])))))))
 (.seq (.reg [sq 83 (.load (some 6) (.t 3)),
sq 84 (.fieldA 1 (.t 3)),
sq 85 (.load none (.t 84)),
sq 86 (.bin .sub (.t 85) (kI 1)),
sq 87 (.call 16 [(.t 83),(.t 86)]),
sq 82 (.mv (.t 87)),
sq 88 (.ext (.t 82) 0),
sq 89 (.ext (.t 82) 1),
sq 8 (.mv (.t 88)),
sq 9 (.mv (.t 89))])
 (.seq (.reg [sq 91 (.load (some 6) (.t 3)),
sq 92 (.fieldA 0 (.t 3)),
sq 93 (.load none (.t 92)),
sq 94 (.bin .add (.t 93) (kI 1)),
sq 95 (.call 16 [(.t 91),(.t 94)]),
sq 90 (.mv (.t 95)),
sq 96 (.ext (.t 90) 0),
sq 97 (.ext (.t 90) 1),
sq 10 (.mv (.t 96)),
sq 11 (.mv (.t 97))])
 (.seq (.sem (.reg [sq 98 (.call 8 []),
sq 99 (.mv (.t 98)),
zg 100 99 true (.fieldA 4 (.t 3)),
zg 101 99 true (.load none (.t 100)),
zg 102 99 true (.mv (.t 4)),
zg 103 99 true (.call 17 [(.t 101),(.t 102)]),
sq 104 (.pick (.t 99) (.t 103) (kB false)),
sq 105 (.mv (.t 104)),
zg 106 105 true (.mv (.t 11)),
zg 107 105 true (.bin .eql (.t 106) (kI 5)),
sq 108 (.pick (.t 105) (.t 107) (kB false)),
sq 109 (.mv (.t 108)),
zg 110 109 true (.mv (.t 9)),
zg 111 109 true (.bin .eql (.t 110) (kI 10)),
zg 112 109 true (.mv (.t 111)),
zg 113 112 false (.fieldA 1 (.t 3)),
zg 114 112 false (.load none (.t 113)),
zg 115 112 false (.bin .eql (.t 114) (kI 0)),
zg 116 112 false (.mv (.t 115)),
zg 117 116 true (.mv (.t 9)),
zg 118 116 true (.bin .eql (.t 117) (kI 5)),
zg 119 112 false (.pick (.t 116) (.t 118) (kB false)),
zg 120 109 true (.pick (.t 112) (kB true) (.t 119)),
sq 121 (.pick (.t 109) (.t 120) (kB false)),
sq 2 (.mv (.t 121))]))
 .ret)))))))))⟩
theorem a4_ok:afn Try.prog 4=some a4.er:=by kernel_rfl
theorem F4_ok{x0 r}(h:F4 x0=some r):CallD Try.prog 4 [.c (dM (x0.map eTOp))] [] (tupV [.c (dB r)]) []:=by
 refine callS a4_ok (by simp[a4]) ?_
 rw[F4]at h
 simp only[a4,VW.down,Nat.reduceEqDiff,reduceCtorEq,Nat.reduceAdd,Nat.reduceLeDiff,Nat.reduceLT,Nat.reduceBEq,Nat.reduceSub,EE.down]
 obtain⟨t1,ht1,h⟩:=bi h
 refine cN [] (F7_ok ht1) trivial (ww ?_)
 refine condBh h (fun c2 h=>?_) (fun c2 h=>?_)
 ·refine ww ?_
  obtain⟨t3,ht3,h⟩:=bi h
  refine cN [] (F8_ok ht3) trivial (ww ?_)
  cases h
  exact eF []
 refine ww ?_
 obtain⟨t4,ht4,h⟩:=bi h
 refine cN [] (F14_ok ht4) trivial (ww ?_)
 obtain⟨o5,ho,h⟩:=bi h
 refine cutS (fun s=>s=⟨[(3,.one (.c (.pt 0 0))),(31,.one (.c (dB o5)))],[some (.box [dI ((t4).Rev),dI ((t4).Floor),dI ((t4).NextUid),dM (((t4).Base).map eObject),dM (((t4).Objects).map eObject),dM (((t4).History).map eChange)])]⟩) ?_ ?_
 ·have h:=ho
  clear ho
  refine ww ?_
  refine guardSh h (fun g6 h=>?_) (fun g6 h=>?_)
  ·refine ww ?_
   cases h
   exact eM [some 0] rfl
  refine ww ?_
  obtain⟨t7,ht7,h⟩:=bi h
  refine cN [] (F15_ok ht7) trivial (ww ?_)
  cases h
  exact eM [some 0] rfl
 rintro _ rfl
 clear ho
 refine ww ?_
 refine condBh h (fun c8 h=>?_) (fun c8 h=>?_)
 ·refine ww ?_
  cases h
  exact eF []
 refine ww ?_
 obtain⟨o9,ho,h⟩:=bi h
 refine cutS (fun s=>∃po9,o9=Sum.inr po9∧s=⟨[(3,.one (.c (.pt 0 0))),(4,.one (.c (dM (po9.map eObject))))],[some (.box [dI ((t4).Rev),dI ((t4).Floor),dI ((t4).NextUid),dM (((t4).Base).map eObject),dM (((t4).Objects).map eObject),dM (((t4).History).map eChange)])]⟩) ?_ ?_
 ·have h0o9:=h
  have h:=ho
  clear ho
  refine ww ?_
  refine bL (fun j s=>∃(o9_0:(List Object)) (o9_1:Int),s=⟨[(3,.one (.c (.pt 0 0))),(4,.one (.c (dM (o9_0.map eObject)))),(5,.one (.c (dI o9_1)))],[some (.box [dI ((t4).Rev),dI ((t4).Floor),dI ((t4).NextUid),dM (((t4).Base).map eObject),dM (((t4).Objects).map eObject),dM (((t4).History).map eChange)])]⟩∧F4_l9 t4 j o9_0 o9_1=some o9) 1099511627776 [some 0] ⟨(t4).Base,0,rfl,h⟩ ?_
  rintro j _ ⟨o9_0,o9_1,rfl,h⟩
  cases j with
  |zero=>cases(show(none:Option _)=some _ from h)
  |succ j=>
   rw[F4_l9]at h
   refine ww ?_
   refine condSh h (fun c10 h=>?_) (fun c10 h=>?_)
   ·refine ww ?_
    obtain⟨o11,ho,h⟩:=bi h
    refine cutS (fun s=>∃po11,o11=Sum.inr po11∧s=⟨[(3,.one (.c (.pt 0 0))),(4,.one (.c (dM (po11.map eObject)))),(5,.one (.c (dI o9_1)))],[some (.box [dI ((t4).Rev),dI ((t4).Floor),dI ((t4).NextUid),dM (((t4).Base).map eObject),dM (((t4).Objects).map eObject),dM (((t4).History).map eChange)])]⟩) ?_ ?_
    ·have h0o11:=h
     have h:=ho
     clear ho
     refine ww ?_
     obtain⟨t12,ht12,h⟩:=bi h
     refine cN [] (F16_ok ht12) trivial (ww ?_)
     obtain⟨o13,ho,h⟩:=bi h
     refine cutS (fun s=>s=⟨[(3,.one (.c (.pt 0 0))),(4,.one (.c (dM (o9_0.map eObject)))),(5,.one (.c (dI o9_1))),(57,.one (.c (dB o13)))],[some (.box [dI ((t4).Rev),dI ((t4).Floor),dI ((t4).NextUid),dM (((t4).Base).map eObject),dM (((t4).Objects).map eObject),dM (((t4).History).map eChange)])]⟩) ?_ ?_
     ·have h:=ho
      clear ho
      refine ww ?_
      refine guardSh h (fun g14 h=>?_) (fun g14 h=>?_)
      ·refine ww ?_
       cases h
       exact eM [some 0] rfl
      ·refine ww ?_
       obtain⟨t15,ht15,h⟩:=bi h
       refine callX_bor (F17_ok ht15) (by simp only[borAs,bors,hp,List.getElem?_cons_zero,List.getElem?_cons_succ,Option.join_some,List.drop_zero,bor_full',true_and,Nat.zero_add,List.length_map,Nat.le_refl,nrm,List.length_cons,List.length_nil,Nat.reduceAdd,Nat.reduceLeDiff,List.take_succ_cons,List.take_zero,List.take_nil,List.map_cons,List.map_nil,List.length_set,EE.down]) rfl ?_
       refine ww ?_
       cases h
       exact eM [some 0] rfl
     ·rintro _ rfl
      clear ho
      refine ww ?_
      refine condBh h (fun c16 h=>?_) (fun c16 h=>?_)
      ·refine ww ?_
       obtain⟨fh0o11,hfh0o11,rfl⟩:=Option.map_eq_some_iff.1 h
       have h:=hfh0o11.trans h0o11
       obtain⟨fh0o9,hfh0o9,rfl⟩:=Option.map_eq_some_iff.1 h
       have h:=hfh0o9.trans h0o9
       cases h
       exact eF []
      ·refine ww ?_
       refine condSh h (fun c17 h=>?_) (fun c17 h=>?_)
       ·refine ww ?_
        obtain⟨y18,hy18,h⟩:=bi h
        refine t_idxF (enc:=eChange) (xs:=((t4).History)) rfl rfl hy18 rfl (ww ?_)
        refine condSh h (fun c19 h=>?_) (fun c19 h=>?_)
        ·refine ww ?_
         obtain⟨fh0o11,hfh0o11,rfl⟩:=Option.map_eq_some_iff.1 h
         have h:=hfh0o11.trans h0o11
         obtain⟨fh0o9,hfh0o9,rfl⟩:=Option.map_eq_some_iff.1 h
         have h:=hfh0o9.trans h0o9
         cases h
         exact eF []
        ·refine ww ?_
         refine t_idxF (enc:=eChange) (xs:=((t4).History)) rfl rfl hy18 rfl (ww ?_)
         obtain⟨t20,ht20,h⟩:=bi h
         refine cN [] (F18_ok ht20) trivial (ww ?_)
         cases h
         exact eM [some 0] ⟨_,rfl,rfl⟩
       ·refine ww ?_
        cases h
        exact eM [some 0] ⟨_,rfl,rfl⟩
    ·rintro _ ⟨po11,rfl,rfl⟩
     clear ho
     dsimp only at h
     refine ww ?_
     exact eL' j [some 0] ⟨po11,(IntKind.i64.wrap (o9_1+1)),rfl,h⟩ (Nat.lt_succ_self _)
   ·refine ww ?_
    cases h
    exact eM [some 0] ⟨_,rfl,rfl⟩
 rintro _ ⟨po9,rfl,rfl⟩
 clear ho
 dsimp only at h
 refine ww ?_
 obtain⟨t21,ht21,h⟩:=bi h
 refine cN [] (F16_ok ht21) trivial (ww ?_)
 obtain⟨t22,ht22,h⟩:=bi h
 refine cN [] (F16_ok ht22) trivial (ww ?_)
 obtain⟨o23,ho,h⟩:=bi h
 refine cutS (fun s=>s=⟨[(2,.one (.c (dB o23)))],[]⟩) ?_ ?_
 ·have h:=ho
  clear ho
  refine ww ?_
  obtain⟨t24,ht24,h⟩:=bi h
  refine cN [] (F8_ok ht24) trivial (ww ?_)
  refine guardSBh h (fun g25 h=>?_) (fun g25 h=>?_)
  ·refine ww ?_
   obtain⟨t26,ht26,h⟩:=bi h
   refine cN [] (F17_ok ht26) trivial (ww ?_)
   refine guardSBh h (fun g27 h=>?_) (fun g27 h=>?_)
   ·refine ww ?_
    refine guardSh h (fun g28 h=>?_) (fun g28 h=>?_)
    ·refine ww ?_
     refine guardSh h (fun g29 h=>?_) (fun g29 h=>?_)
     ·refine ww ?_
      cases h
      exact eM [] rfl
     refine ww ?_
     refine guardSh h (fun g30 h=>?_) (fun g30 h=>?_)
     ·refine ww ?_
      cases h
      exact eM [] rfl
     refine ww ?_
     cases h
     exact eM [] rfl
    refine ww ?_
    cases h
    exact eM [] rfl
   refine ww ?_
   cases h
   exact eM [] rfl
  refine ww ?_
  cases h
  exact eM [] rfl
 rintro _ rfl
 clear ho
 refine ww ?_
 cases h
 exact eF []
end Go.Proofs.Ytbopaemngpbdgaa
