/- Each Go function as a function over typed data, and its walk. -/
import Derived.Test.YtbopaemngpbdgaaCX
import Derived.Test.YtbopaemngpbdgaaCX7
import Derived.Test.YtbopaemngpbdgaaCX14
import Derived.Test.YtbopaemngpbdgaaCX16
import Derived.Test.YtbopaemngpbdgaaCX18
import Derived.Test.YtbopaemngpbdgaaCX19
import Derived.Test.YtbopaemngpbdgaaCX20
namespace Go.Proofs.Ytbopaemngpbdgaa
open Go Go.Fw Go.Shelf
set_option maxRecDepth 100000
set_option maxHeartbeats 4000000
set_option linter.unusedSimpArgs false
set_option linter.unusedVariables false
def F12(x0:TStore)(x1:Object):Option (Int×Int×(List Object)×(List Object)×(List Change)×ByteArray×ByteArray×ByteArray×Int×Int×Int×Int×Bool×Int×(List Label)×(List Owner)×(List ByteArray)×(List Manager)×Int×Int×ByteArray×((List TValue))×((List TField))×Int×Int×ByteArray×((List TValue))×((List TField))×Int):=(F31 x1).bind fun t1=>(if(nb t1)=true then(F32 x0).bind fun t3=>some ((x0.Rev,x0.Floor,t3.1,t3.2.1,t3.2.2,(⟨#[]⟩:ByteArray),(⟨#[]⟩:ByteArray),(⟨#[]⟩:ByteArray),0,0,0,0,false,0,[],[],[],[],0,0,(⟨#[]⟩:ByteArray),[],[],0,0,(⟨#[]⟩:ByteArray),[],[],1))else(F33 x1.Meta).bind fun t4=>(F21 x0 t4).bind fun t5=>(if(nb t5.2.2.2.2.2.2.2.2.2.2.2.2.2.2.2.2.2.2.2.2.2.2.2)=true then(F32 x0).bind fun t7=>some ((x0.Rev,x0.Floor,t7.1,t7.2.1,t7.2.2,(⟨#[]⟩:ByteArray),(⟨#[]⟩:ByteArray),(⟨#[]⟩:ByteArray),0,0,0,0,false,0,[],[],[],[],0,0,(⟨#[]⟩:ByteArray),[],[],0,0,(⟨#[]⟩:ByteArray),[],[],7))else(((if¬(x1.Meta.Version=0)then(if¬(x1.Meta.Version=t5.2.2.2.2.1)then some true else(if¬(x1.Meta.Uid=0)then some (decide (¬(x1.Meta.Uid=t5.2.2.2.1)))else some false))else(if¬(x1.Meta.Uid=0)then some (decide (¬(x1.Meta.Uid=t5.2.2.2.1)))else some false))).bind fun o8=>(if o8=true then(F32 x0).bind fun t14=>some ((x0.Rev,x0.Floor,t14.1,t14.2.1,t14.2.2,(⟨#[]⟩:ByteArray),(⟨#[]⟩:ByteArray),(⟨#[]⟩:ByteArray),0,0,0,0,false,0,[],[],[],[],0,0,(⟨#[]⟩:ByteArray),[],[],0,0,(⟨#[]⟩:ByteArray),[],[],9))else(F34 x1).bind fun t15=>(((F35 ((⟨t15.2.2.2.2.1,t15.2.2.2.2.2.1,t15.2.2.2.2.2.2.1,t15.2.2.2.2.2.2.2.1,t15.2.2.2.2.2.2.2.2.1⟩:TValue)) ((⟨t5.2.2.2.2.2.2.2.2.2.2.2.2.2.1,t5.2.2.2.2.2.2.2.2.2.2.2.2.2.2.1,t5.2.2.2.2.2.2.2.2.2.2.2.2.2.2.2.1,t5.2.2.2.2.2.2.2.2.2.2.2.2.2.2.2.2.1,t5.2.2.2.2.2.2.2.2.2.2.2.2.2.2.2.2.2.1⟩:TValue))).bind fun t17=>(if(nb t17)=true then some ((IntKind.i64.wrap (t5.2.2.2.2.2.1+1)))else some t5.2.2.2.2.2.1)).bind fun o16=>(F13 ((⟨(⟨x1.Meta.Kind,x1.Meta.Namespace,x1.Meta.Name,t5.2.2.2.1,t5.2.2.2.2.1,o16,t5.2.2.2.2.2.2.1,x1.Meta.Deleting,x1.Meta.DeleteAt,t15.1,t15.2.1,t15.2.2.1,t15.2.2.2.1⟩:Meta),(⟨t15.2.2.2.2.1,t15.2.2.2.2.2.1,t15.2.2.2.2.2.2.1,t15.2.2.2.2.2.2.2.1,t15.2.2.2.2.2.2.2.2.1⟩:TValue),(⟨t15.2.2.2.2.2.2.2.2.2.1,t15.2.2.2.2.2.2.2.2.2.2.1,t15.2.2.2.2.2.2.2.2.2.2.2.1,t15.2.2.2.2.2.2.2.2.2.2.2.2.1,t15.2.2.2.2.2.2.2.2.2.2.2.2.2⟩:TValue)⟩:Object)) ((⟨(⟨t5.1,t5.2.1,t5.2.2.1,t5.2.2.2.1,t5.2.2.2.2.1,t5.2.2.2.2.2.1,t5.2.2.2.2.2.2.1,t5.2.2.2.2.2.2.2.1,t5.2.2.2.2.2.2.2.2.1,t5.2.2.2.2.2.2.2.2.2.1,t5.2.2.2.2.2.2.2.2.2.2.1,t5.2.2.2.2.2.2.2.2.2.2.2.1,t5.2.2.2.2.2.2.2.2.2.2.2.2.1⟩:Meta),(⟨t5.2.2.2.2.2.2.2.2.2.2.2.2.2.1,t5.2.2.2.2.2.2.2.2.2.2.2.2.2.2.1,t5.2.2.2.2.2.2.2.2.2.2.2.2.2.2.2.1,t5.2.2.2.2.2.2.2.2.2.2.2.2.2.2.2.2.1,t5.2.2.2.2.2.2.2.2.2.2.2.2.2.2.2.2.2.1⟩:TValue),(⟨t5.2.2.2.2.2.2.2.2.2.2.2.2.2.2.2.2.2.2.1,t5.2.2.2.2.2.2.2.2.2.2.2.2.2.2.2.2.2.2.2.1,t5.2.2.2.2.2.2.2.2.2.2.2.2.2.2.2.2.2.2.2.2.1,t5.2.2.2.2.2.2.2.2.2.2.2.2.2.2.2.2.2.2.2.2.2.1,t5.2.2.2.2.2.2.2.2.2.2.2.2.2.2.2.2.2.2.2.2.2.2.1⟩:TValue)⟩:Object))).bind fun t19=>(if t19=true then(F32 x0).bind fun t21=>some ((x0.Rev,x0.Floor,t21.1,t21.2.1,t21.2.2,t5.1,t5.2.1,t5.2.2.1,t5.2.2.2.1,t5.2.2.2.2.1,t5.2.2.2.2.2.1,t5.2.2.2.2.2.2.1,t5.2.2.2.2.2.2.2.1,t5.2.2.2.2.2.2.2.2.1,t5.2.2.2.2.2.2.2.2.2.1,t5.2.2.2.2.2.2.2.2.2.2.1,t5.2.2.2.2.2.2.2.2.2.2.2.1,t5.2.2.2.2.2.2.2.2.2.2.2.2.1,t5.2.2.2.2.2.2.2.2.2.2.2.2.2.1,t5.2.2.2.2.2.2.2.2.2.2.2.2.2.2.1,t5.2.2.2.2.2.2.2.2.2.2.2.2.2.2.2.1,t5.2.2.2.2.2.2.2.2.2.2.2.2.2.2.2.2.1,t5.2.2.2.2.2.2.2.2.2.2.2.2.2.2.2.2.2.1,t5.2.2.2.2.2.2.2.2.2.2.2.2.2.2.2.2.2.2.1,t5.2.2.2.2.2.2.2.2.2.2.2.2.2.2.2.2.2.2.2.1,t5.2.2.2.2.2.2.2.2.2.2.2.2.2.2.2.2.2.2.2.2.1,t5.2.2.2.2.2.2.2.2.2.2.2.2.2.2.2.2.2.2.2.2.2.1,t5.2.2.2.2.2.2.2.2.2.2.2.2.2.2.2.2.2.2.2.2.2.2.1,0))else(if 1000000000000000≤x0.Rev then(F32 x0).bind fun t23=>some ((x0.Rev,x0.Floor,t23.1,t23.2.1,t23.2.2,(⟨#[]⟩:ByteArray),(⟨#[]⟩:ByteArray),(⟨#[]⟩:ByteArray),0,0,0,0,false,0,[],[],[],[],0,0,(⟨#[]⟩:ByteArray),[],[],0,0,(⟨#[]⟩:ByteArray),[],[],15))else((some (())).bind fun o24=>(F36 x0 1 ((⟨(⟨x1.Meta.Kind,x1.Meta.Namespace,x1.Meta.Name,t5.2.2.2.1,(IntKind.i64.wrap (x0.Rev+1)),o16,t5.2.2.2.2.2.2.1,x1.Meta.Deleting,x1.Meta.DeleteAt,t15.1,t15.2.1,t15.2.2.1,t15.2.2.2.1⟩:Meta),(⟨t15.2.2.2.2.1,t15.2.2.2.2.2.1,t15.2.2.2.2.2.2.1,t15.2.2.2.2.2.2.2.1,t15.2.2.2.2.2.2.2.2.1⟩:TValue),(⟨t15.2.2.2.2.2.2.2.2.2.1,t15.2.2.2.2.2.2.2.2.2.2.1,t15.2.2.2.2.2.2.2.2.2.2.2.1,t15.2.2.2.2.2.2.2.2.2.2.2.2.1,t15.2.2.2.2.2.2.2.2.2.2.2.2.2⟩:TValue)⟩:Object))).bind fun t25=>some ((t25.1,t25.2.1,t25.2.2.1,t25.2.2.2.1,t25.2.2.2.2,x1.Meta.Kind,x1.Meta.Namespace,x1.Meta.Name,t5.2.2.2.1,(IntKind.i64.wrap (x0.Rev+1)),o16,t5.2.2.2.2.2.2.1,x1.Meta.Deleting,x1.Meta.DeleteAt,t15.1,t15.2.1,t15.2.2.1,t15.2.2.2.1,t15.2.2.2.2.1,t15.2.2.2.2.2.1,t15.2.2.2.2.2.2.1,t15.2.2.2.2.2.2.2.1,t15.2.2.2.2.2.2.2.2.1,t15.2.2.2.2.2.2.2.2.2.1,t15.2.2.2.2.2.2.2.2.2.2.1,t15.2.2.2.2.2.2.2.2.2.2.2.1,t15.2.2.2.2.2.2.2.2.2.2.2.2.1,t15.2.2.2.2.2.2.2.2.2.2.2.2.2,0))))))))))
def a12:AFn:=⟨117,[(.cell 4 (some 6)),(.cell 5 (some 23)),(.tmp 6)],
 (.seq (.reg [sq 2 (.box (.t 0)),
sq 3 (.box (.t 1)),
sq 4 (.zbox [dI 0,dI 0,dI 0,dN,dN,dN]),
sq 5 (.zbox [dS ⟨#[]⟩,dS ⟨#[]⟩,dS ⟨#[]⟩,dI 0,dI 0,dI 0,dI 0,dB false,dI 0,dN,dN,dN,dN,dI 0,dI 0,dS ⟨#[]⟩,dN,dN,dI 0,dI 0,dS ⟨#[]⟩,dN,dN]),
sq 6 (.mv (kI 0))])
 (.seq (.seq (.reg [sq 10 (.load (some 23) (.t 3)),
sq 11 (.call 31 [(.t 10)]),
sq 12 (.not (.t 11))])
 (.cond (.t 12)
 (.seq (.reg [sq 13 (.load (some 6) (.t 2)),
sq 14 (.call 32 [(.t 13)]),
sq 15 (.build [dS ⟨#[]⟩,dS ⟨#[]⟩,dS ⟨#[]⟩,dI 0,dI 0,dI 0,dI 0,dB false,dI 0,dN,dN,dN,dN,dI 0,dI 0,dS ⟨#[]⟩,dN,dN,dI 0,dI 0,dS ⟨#[]⟩,dN,dN] []),
su (.store 6 (.t 4) (.t 14)),
su (.store 23 (.t 5) (.t 15)),
sq 6 (.mv (kI 1))])
 .ret)
 .skip))
 (.seq (.regd [sq 17 (.load (some 6) (.t 2)),
sq 18 (.fieldA 0 (.t 3)),
sd 19 (.load (some 13) (.t 18)) [1],
zn 20 (.call 33 [(.t 19)]) [1,2] [1,2],
zn 21 (.call 21 [(.t 17),(.t 20)]) [0,1,2,3] [0,1,2,3],
sd 16 (.mv (.t 21)) [0,1,2,3,4],
sd 22 (.ext (.t 16) 0) [0,1,2,3,4,5],
sd 23 (.ext (.t 16) 1) [0,1,2,3,4,5],
sq 7 (.zbox [dS ⟨#[]⟩,dS ⟨#[]⟩,dS ⟨#[]⟩,dI 0,dI 0,dI 0,dI 0,dB false,dI 0,dN,dN,dN,dN,dI 0,dI 0,dS ⟨#[]⟩,dN,dN,dI 0,dI 0,dS ⟨#[]⟩,dN,dN]),
⟨none,none,.store 23 (.t 7) (.t 22),[0,1,2,3,4,5,6,8],(.lone [])⟩,
sd 8 (.mv (.t 23)) [0,1,2,3,4,5,6,7,8,9]])
 (.seq (.block 0 (.seq (.reg [sq 25 (.mv (.t 8)),
sq 26 (.not (.t 25)),
sq 24 (.mv (.t 26))])
 (.cond (.t 24)
 (.seq (.reg [sq 27 (.load (some 6) (.t 2)),
sq 28 (.call 32 [(.t 27)]),
sq 29 (.build [dS ⟨#[]⟩,dS ⟨#[]⟩,dS ⟨#[]⟩,dI 0,dI 0,dI 0,dI 0,dB false,dI 0,dN,dN,dN,dN,dI 0,dI 0,dS ⟨#[]⟩,dN,dN,dI 0,dI 0,dS ⟨#[]⟩,dN,dN] []),
su (.store 6 (.t 4) (.t 28)),
su (.store 23 (.t 5) (.t 29)),
sq 6 (.mv (kI 7))])
 .ret)
 (.seq (.sem (.reg [sq 31 (.fieldA 0 (.t 3)),
sq 32 (.fieldA 4 (.t 31)),
sq 33 (.load none (.t 32)),
sq 34 (.bin .neq (.t 33) (kI 0)),
sq 35 (.mv (.t 34)),
zg 36 35 true (.fieldA 0 (.t 3)),
zg 37 35 true (.fieldA 4 (.t 36)),
zg 38 35 true (.load none (.t 37)),
zg 39 35 true (.fieldA 0 (.t 7)),
zg 40 35 true (.fieldA 4 (.t 39)),
zg 41 35 true (.load none (.t 40)),
zg 42 35 true (.bin .neq (.t 38) (.t 41)),
sq 43 (.pick (.t 35) (.t 42) (kB false)),
sq 44 (.mv (.t 43)),
zg 45 44 false (.fieldA 0 (.t 3)),
zg 46 44 false (.fieldA 3 (.t 45)),
zg 47 44 false (.load none (.t 46)),
zg 48 44 false (.bin .neq (.t 47) (kI 0)),
zg 49 44 false (.mv (.t 48)),
zg 50 49 true (.fieldA 0 (.t 3)),
zg 51 49 true (.fieldA 3 (.t 50)),
zg 52 49 true (.load none (.t 51)),
zg 53 49 true (.fieldA 0 (.t 7)),
zg 54 49 true (.fieldA 3 (.t 53)),
zg 55 49 true (.load none (.t 54)),
zg 56 49 true (.bin .neq (.t 52) (.t 55)),
zg 57 44 false (.pick (.t 49) (.t 56) (kB false)),
sq 58 (.pick (.t 44) (kB true) (.t 57)),
sq 30 (.mv (.t 58))]))
 (.cond (.t 30)
 (.seq (.reg [sq 59 (.load (some 6) (.t 2)),
sq 60 (.call 32 [(.t 59)]),
sq 61 (.build [dS ⟨#[]⟩,dS ⟨#[]⟩,dS ⟨#[]⟩,dI 0,dI 0,dI 0,dI 0,dB false,dI 0,dN,dN,dN,dN,dI 0,dI 0,dS ⟨#[]⟩,dN,dN,dI 0,dI 0,dS ⟨#[]⟩,dN,dN] []),
su (.store 6 (.t 4) (.t 60)),
su (.store 23 (.t 5) (.t 61)),
sq 6 (.mv (kI 9))])
 .ret)
 .skip)))))
 (.seq (.reg [sq 62 (.load (some 23) (.t 3)),
sq 63 (.call 34 [(.t 62)]),
sq 9 (.zbox [dS ⟨#[]⟩,dS ⟨#[]⟩,dS ⟨#[]⟩,dI 0,dI 0,dI 0,dI 0,dB false,dI 0,dN,dN,dN,dN,dI 0,dI 0,dS ⟨#[]⟩,dN,dN,dI 0,dI 0,dS ⟨#[]⟩,dN,dN]),
su (.store 23 (.t 9) (.t 63))])
 (.seq (.regd [sq 64 (.fieldA 0 (.t 7)),
sd 65 (.fieldA 3 (.t 64)) [0],
sd 66 (.load none (.t 65)) [0,1],
sq 67 (.fieldA 0 (.t 7)),
sd 68 (.fieldA 6 (.t 67)) [3],
sd 69 (.load none (.t 68)) [3,4],
sq 70 (.fieldA 0 (.t 7)),
sd 71 (.fieldA 5 (.t 70)) [6],
sd 72 (.load none (.t 71)) [6,7],
sq 73 (.fieldA 0 (.t 7)),
sd 74 (.fieldA 4 (.t 73)) [9],
sd 75 (.load none (.t 74)) [9,10],
sd 76 (.fieldA 0 (.t 9)) [0,1,2],
sd 77 (.fieldA 3 (.t 76)) [0,1,2,12],
⟨none,none,.store 1 (.t 77) (.t 66),[0,1,2,12,13],(.lone [7,67,68,7,70,71,7,73,74])⟩,
sd 78 (.fieldA 0 (.t 9)) [0,1,2,3,4,5,12,13,14],
sd 79 (.fieldA 6 (.t 78)) [0,1,2,3,4,5,12,13,14,15],
⟨none,none,.store 1 (.t 79) (.t 69),[0,1,2,3,4,5,12,13,14,15,16],(.lone [7,70,71,7,73,74])⟩,
sd 80 (.fieldA 0 (.t 9)) [0,1,2,3,4,5,6,7,8,12,13,14,15,16,17],
sd 81 (.fieldA 5 (.t 80)) [0,1,2,3,4,5,6,7,8,12,13,14,15,16,17,18],
⟨none,none,.store 1 (.t 81) (.t 72),[0,1,2,3,4,5,6,7,8,12,13,14,15,16,17,18,19],(.lone [7,73,74])⟩,
sd 82 (.fieldA 0 (.t 9)) [0,1,2,3,4,5,6,7,8,9,10,11,12,13,14,15,16,17,18,19,20],
sd 83 (.fieldA 4 (.t 82)) [0,1,2,3,4,5,6,7,8,9,10,11,12,13,14,15,16,17,18,19,20,21],
⟨none,none,.store 1 (.t 83) (.t 75),[0,1,2,3,4,5,6,7,8,9,10,11,12,13,14,15,16,17,18,19,20,21,22],(.lone [])⟩])
 (.seq (.sem (.seq (.reg [sq 84 (.fieldA 13 (.t 9)),
sq 85 (.load (some 5) (.t 84)),
sq 86 (.fieldA 13 (.t 7)),
sq 87 (.load (some 5) (.t 86)),
sq 88 (.call 35 [(.t 85),(.t 87)]),
sq 89 (.not (.t 88))])
 (.cond (.t 89)
 (.reg [sq 90 (.fieldA 0 (.t 9)),
sq 91 (.fieldA 5 (.t 90)),
sq 92 (.load none (.t 91)),
sq 93 (.bin .add (.t 92) (kI 1)),
sq 94 (.fieldA 0 (.t 9)),
sq 95 (.fieldA 5 (.t 94)),
⟨none,none,.store 1 (.t 95) (.t 93),[],(.lone [9,90,91,9,94])⟩])
 .skip)))
 (.seq (.seq (.reg [sq 96 (.load (some 23) (.t 9)),
sq 97 (.load (some 23) (.t 7)),
zl 98 (.call 13 [(.t 96),(.t 97)]) [] [9,7]])
 (.cond (.t 98)
 (.seq (.regd [sq 99 (.load (some 6) (.t 2)),
zn 100 (.call 32 [(.t 99)]) [0] [0],
sq 101 (.load (some 23) (.t 7)),
⟨none,none,.store 6 (.t 4) (.t 100),[0,1],(.lone [7])⟩,
⟨none,none,.store 23 (.t 5) (.t 101),[0,1,2,3],(.lone [])⟩,
sd 6 (.mv (kI 0)) [0,1,2,3,4]])
 .ret)
 .skip))
 (.seq (.seq (.reg [sq 102 (.fieldA 0 (.t 2)),
sq 103 (.load none (.t 102)),
sq 104 (.bin .geq (.t 103) (kI 1000000000000000))])
 (.cond (.t 104)
 (.seq (.reg [sq 105 (.load (some 6) (.t 2)),
sq 106 (.call 32 [(.t 105)]),
sq 107 (.build [dS ⟨#[]⟩,dS ⟨#[]⟩,dS ⟨#[]⟩,dI 0,dI 0,dI 0,dI 0,dB false,dI 0,dN,dN,dN,dN,dI 0,dI 0,dS ⟨#[]⟩,dN,dN,dI 0,dI 0,dS ⟨#[]⟩,dN,dN] []),
su (.store 6 (.t 4) (.t 106)),
su (.store 23 (.t 5) (.t 107)),
sq 6 (.mv (kI 15))])
 .ret)
 .skip))
 (.seq (.sem (.reg [sq 108 (.fieldA 0 (.t 2)),
sq 109 (.load none (.t 108)),
sq 110 (.bin .add (.t 109) (kI 1)),
sq 111 (.fieldA 0 (.t 9)),
sq 112 (.fieldA 4 (.t 111)),
⟨none,none,.store 1 (.t 112) (.t 110),[],(.lone [2,108,9,111])⟩]))
 (.seq (.regd [sq 113 (.load (some 6) (.t 2)),
sq 114 (.load (some 23) (.t 9)),
zn 115 (.call 36 [(.t 113),(kI 1),(.t 114)]) [0,1] [0,1],
sq 116 (.load (some 23) (.t 9)),
⟨none,none,.store 6 (.t 4) (.t 115),[0,1,2],(.lone [9])⟩,
⟨none,none,.store 23 (.t 5) (.t 116),[0,1,2,3,4],(.lone [])⟩,
sd 6 (.mv (kI 0)) [0,1,2,3,4,5]])
 .ret)))))))))))⟩
theorem a12_ok:afn Try.prog 12=some a12.er:=by kernel_rfl
theorem F12_ok{x0 x1 r}(h:F12 x0 x1=some r):CallD Try.prog 12 [.agg [dI x0.Rev,dI x0.Floor,dI x0.NextUid,dM (x0.Base.map eObject),dM (x0.Objects.map eObject),dM (x0.History.map eChange)],.agg [dS x1.Meta.Kind,dS x1.Meta.Namespace,dS x1.Meta.Name,dI x1.Meta.Uid,dI x1.Meta.Version,dI x1.Meta.Generation,dI x1.Meta.Created,dB x1.Meta.Deleting,dI x1.Meta.DeleteAt,dM (x1.Meta.Labels.map eLabel),dM (x1.Meta.Owners.map eOwner),dM (x1.Meta.Finalizers.map eS),dM (x1.Meta.Managers.map eManager),dI x1.Spec.Kind,dI x1.Spec.N,dS x1.Spec.S,dM (x1.Spec.List_.map eTValue),dM (x1.Spec.Fields.map eTField),dI x1.Status.Kind,dI x1.Status.N,dS x1.Status.S,dM (x1.Status.List_.map eTValue),dM (x1.Status.Fields.map eTField)]] [] (tupV [.agg [dI r.1,dI r.2.1,dI x0.NextUid,.own 0 0 0 (r.2.2.1.length) none,.own 1 0 0 (r.2.2.2.1.length) none,.own 2 0 0 (r.2.2.2.2.1.length) none],.agg [dS r.2.2.2.2.2.1,dS r.2.2.2.2.2.2.1,dS r.2.2.2.2.2.2.2.1,dI r.2.2.2.2.2.2.2.2.1,dI r.2.2.2.2.2.2.2.2.2.1,dI r.2.2.2.2.2.2.2.2.2.2.1,dI r.2.2.2.2.2.2.2.2.2.2.2.1,dB r.2.2.2.2.2.2.2.2.2.2.2.2.1,dI r.2.2.2.2.2.2.2.2.2.2.2.2.2.1,dM (r.2.2.2.2.2.2.2.2.2.2.2.2.2.2.1.map eLabel),dM (r.2.2.2.2.2.2.2.2.2.2.2.2.2.2.2.1.map eOwner),dM (r.2.2.2.2.2.2.2.2.2.2.2.2.2.2.2.2.1.map eS),dM (r.2.2.2.2.2.2.2.2.2.2.2.2.2.2.2.2.2.1.map eManager),dI r.2.2.2.2.2.2.2.2.2.2.2.2.2.2.2.2.2.2.1,dI r.2.2.2.2.2.2.2.2.2.2.2.2.2.2.2.2.2.2.2.1,dS r.2.2.2.2.2.2.2.2.2.2.2.2.2.2.2.2.2.2.2.2.1,dM (r.2.2.2.2.2.2.2.2.2.2.2.2.2.2.2.2.2.2.2.2.2.1.map eTValue),dM (r.2.2.2.2.2.2.2.2.2.2.2.2.2.2.2.2.2.2.2.2.2.2.1.map eTField),dI r.2.2.2.2.2.2.2.2.2.2.2.2.2.2.2.2.2.2.2.2.2.2.2.1,dI r.2.2.2.2.2.2.2.2.2.2.2.2.2.2.2.2.2.2.2.2.2.2.2.2.1,dS r.2.2.2.2.2.2.2.2.2.2.2.2.2.2.2.2.2.2.2.2.2.2.2.2.2.1,dM (r.2.2.2.2.2.2.2.2.2.2.2.2.2.2.2.2.2.2.2.2.2.2.2.2.2.2.1.map eTValue),dM (r.2.2.2.2.2.2.2.2.2.2.2.2.2.2.2.2.2.2.2.2.2.2.2.2.2.2.2.1.map eTField)],.c (dI r.2.2.2.2.2.2.2.2.2.2.2.2.2.2.2.2.2.2.2.2.2.2.2.2.2.2.2.2)]) [some (.arr 0 23 (r.2.2.1.map eObject)),some (.arr 0 23 (r.2.2.2.1.map eObject)),some (.arr 0 25 (r.2.2.2.2.1.map eChange))]:=by
 refine callS a12_ok (by simp[a12]) ?_
 rw[F12]at h
 simp only[a12,VW.down,Nat.reduceEqDiff,reduceCtorEq,Nat.reduceAdd,Nat.reduceLeDiff,Nat.reduceLT,Nat.reduceBEq,Nat.reduceSub,EE.down]
 obtain⟨t1,ht1,h⟩:=bi h
 refine cN [] (F31_ok ht1) trivial (ww ?_)
 refine condBh h (fun c2 h=>?_) (fun c2 h=>?_)
 ·refine ww ?_
  obtain⟨t3,ht3,h⟩:=bi h
  refine cN [] (F32_ok ht3) trivial (ww ?_)
  cases h
  exact eF [some 4,some 5,some 6]
 refine ww ?_
 obtain⟨t4,ht4,h⟩:=bi h
 refine cN [] (F33_ok ht4) trivial (ww ?_)
 obtain⟨t5,ht5,h⟩:=bi h
 refine cN [] (F21_ok ht5) trivial (ww ?_)
 refine kD_new (by simp[wrs,allW,hset]) (ww ?_)
 refine kD_new (by simp[wrs,allW,hset]) (ww ?_)
 refine condBh h (fun c6 h=>?_) (fun c6 h=>?_)
 ·refine ww ?_
  obtain⟨t7,ht7,h⟩:=bi h
  refine cN [] (F32_ok ht7) trivial (ww ?_)
  cases h
  exact eF [some 9,some 10,some 11]
 refine ww ?_
 obtain⟨o8,ho,h⟩:=bi h
 refine cutS (fun s=>s=⟨[(2,.one (.c (.pt 0 0))),(3,.one (.c (.pt 1 0))),(4,.one (.c (.pt 2 0))),(5,.one (.c (.pt 3 0))),(7,.one (.c (.pt 4 0))),(30,.one (.c (dB o8)))],[some (.box [dI x0.Rev,dI x0.Floor,dI x0.NextUid,dM (x0.Base.map eObject),dM (x0.Objects.map eObject),dM (x0.History.map eChange)]),some (.box [dS x1.Meta.Kind,dS x1.Meta.Namespace,dS x1.Meta.Name,dI x1.Meta.Uid,dI x1.Meta.Version,dI x1.Meta.Generation,dI x1.Meta.Created,dB x1.Meta.Deleting,dI x1.Meta.DeleteAt,dM (x1.Meta.Labels.map eLabel),dM (x1.Meta.Owners.map eOwner),dM (x1.Meta.Finalizers.map eS),dM (x1.Meta.Managers.map eManager),dI x1.Spec.Kind,dI x1.Spec.N,dS x1.Spec.S,dM (x1.Spec.List_.map eTValue),dM (x1.Spec.Fields.map eTField),dI x1.Status.Kind,dI x1.Status.N,dS x1.Status.S,dM (x1.Status.List_.map eTValue),dM (x1.Status.Fields.map eTField)]),some (.box [dI 0,dI 0,dI 0,dN,dN,dN]),some (.box [dS ((⟨#[]⟩:ByteArray)),dS ((⟨#[]⟩:ByteArray)),dS ((⟨#[]⟩:ByteArray)),dI 0,dI 0,dI 0,dI 0,dB false,dI 0,dN,dN,dN,dN,dI 0,dI 0,dS ((⟨#[]⟩:ByteArray)),dN,dN,dI 0,dI 0,dS ((⟨#[]⟩:ByteArray)),dN,dN]),some (.box [dS t5.1,dS t5.2.1,dS t5.2.2.1,dI t5.2.2.2.1,dI t5.2.2.2.2.1,dI t5.2.2.2.2.2.1,dI t5.2.2.2.2.2.2.1,dB t5.2.2.2.2.2.2.2.1,dI t5.2.2.2.2.2.2.2.2.1,.own 5 0 0 (t5.2.2.2.2.2.2.2.2.2.1.length) none,.own 6 0 0 (t5.2.2.2.2.2.2.2.2.2.2.1.length) none,.own 7 0 0 (t5.2.2.2.2.2.2.2.2.2.2.2.1.length) none,.own 8 0 0 (t5.2.2.2.2.2.2.2.2.2.2.2.2.1.length) none,dI t5.2.2.2.2.2.2.2.2.2.2.2.2.2.1,dI t5.2.2.2.2.2.2.2.2.2.2.2.2.2.2.1,dS t5.2.2.2.2.2.2.2.2.2.2.2.2.2.2.2.1,dM (t5.2.2.2.2.2.2.2.2.2.2.2.2.2.2.2.2.1.map eTValue),dM (t5.2.2.2.2.2.2.2.2.2.2.2.2.2.2.2.2.2.1.map eTField),dI t5.2.2.2.2.2.2.2.2.2.2.2.2.2.2.2.2.2.2.1,dI t5.2.2.2.2.2.2.2.2.2.2.2.2.2.2.2.2.2.2.2.1,dS t5.2.2.2.2.2.2.2.2.2.2.2.2.2.2.2.2.2.2.2.2.1,dM (t5.2.2.2.2.2.2.2.2.2.2.2.2.2.2.2.2.2.2.2.2.2.1.map eTValue),dM (t5.2.2.2.2.2.2.2.2.2.2.2.2.2.2.2.2.2.2.2.2.2.2.1.map eTField)]),some (.arr 0 2 (t5.2.2.2.2.2.2.2.2.2.1.map eLabel)),some (.arr 0 5 (t5.2.2.2.2.2.2.2.2.2.2.1.map eOwner)),some (.arr 0 1 (t5.2.2.2.2.2.2.2.2.2.2.2.1.map eS)),some (.arr 0 2 (t5.2.2.2.2.2.2.2.2.2.2.2.2.1.map eManager))]⟩) ?_ ?_
 ·have h:=ho
  clear ho
  refine ww ?_
  refine guardSh h (fun g9 h=>?_) (fun g9 h=>?_)
  ·refine ww ?_
   refine guardSh h (fun g10 h=>?_) (fun g10 h=>?_)
   ·refine ww ?_
    cases h
    exact eM [some 0,some 1,some 2,some 3,some 8,some 4,some 5,some 6,some 7] rfl
   refine ww ?_
   refine guardSh h (fun g11 h=>?_) (fun g11 h=>?_)
   ·refine ww ?_
    cases h
    exact eM [some 0,some 1,some 2,some 3,some 8,some 4,some 5,some 6,some 7] rfl
   refine ww ?_
   cases h
   exact eM [some 0,some 1,some 2,some 3,some 8,some 4,some 5,some 6,some 7] rfl
  refine ww ?_
  refine guardSh h (fun g12 h=>?_) (fun g12 h=>?_)
  ·refine ww ?_
   cases h
   exact eM [some 0,some 1,some 2,some 3,some 8,some 4,some 5,some 6,some 7] rfl
  refine ww ?_
  cases h
  exact eM [some 0,some 1,some 2,some 3,some 8,some 4,some 5,some 6,some 7] rfl
 rintro _ rfl
 clear ho
 refine ww ?_
 refine condBh h (fun c13 h=>?_) (fun c13 h=>?_)
 ·refine ww ?_
  obtain⟨t14,ht14,h⟩:=bi h
  refine cN [] (F32_ok ht14) trivial (ww ?_)
  cases h
  exact eF [some 9,some 10,some 11]
 refine ww ?_
 obtain⟨t15,ht15,h⟩:=bi h
 refine cN [] (F34_ok ht15) trivial (ww ?_)
 obtain⟨o16,ho,h⟩:=bi h
 refine cutS (fun s=>s=⟨[(2,.one (.c (.pt 0 0))),(4,.one (.c (.pt 1 0))),(5,.one (.c (.pt 2 0))),(7,.one (.c (.pt 3 0))),(9,.one (.c (.pt 8 0)))],[some (.box [dI x0.Rev,dI x0.Floor,dI x0.NextUid,dM (x0.Base.map eObject),dM (x0.Objects.map eObject),dM (x0.History.map eChange)]),some (.box [dI 0,dI 0,dI 0,dN,dN,dN]),some (.box [dS ((⟨#[]⟩:ByteArray)),dS ((⟨#[]⟩:ByteArray)),dS ((⟨#[]⟩:ByteArray)),dI 0,dI 0,dI 0,dI 0,dB false,dI 0,dN,dN,dN,dN,dI 0,dI 0,dS ((⟨#[]⟩:ByteArray)),dN,dN,dI 0,dI 0,dS ((⟨#[]⟩:ByteArray)),dN,dN]),some (.box [dS t5.1,dS t5.2.1,dS t5.2.2.1,dI t5.2.2.2.1,dI t5.2.2.2.2.1,dI t5.2.2.2.2.2.1,dI t5.2.2.2.2.2.2.1,dB t5.2.2.2.2.2.2.2.1,dI t5.2.2.2.2.2.2.2.2.1,.own 4 0 0 (t5.2.2.2.2.2.2.2.2.2.1.length) none,.own 5 0 0 (t5.2.2.2.2.2.2.2.2.2.2.1.length) none,.own 6 0 0 (t5.2.2.2.2.2.2.2.2.2.2.2.1.length) none,.own 7 0 0 (t5.2.2.2.2.2.2.2.2.2.2.2.2.1.length) none,dI t5.2.2.2.2.2.2.2.2.2.2.2.2.2.1,dI t5.2.2.2.2.2.2.2.2.2.2.2.2.2.2.1,dS t5.2.2.2.2.2.2.2.2.2.2.2.2.2.2.2.1,dM (t5.2.2.2.2.2.2.2.2.2.2.2.2.2.2.2.2.1.map eTValue),dM (t5.2.2.2.2.2.2.2.2.2.2.2.2.2.2.2.2.2.1.map eTField),dI t5.2.2.2.2.2.2.2.2.2.2.2.2.2.2.2.2.2.2.1,dI t5.2.2.2.2.2.2.2.2.2.2.2.2.2.2.2.2.2.2.2.1,dS t5.2.2.2.2.2.2.2.2.2.2.2.2.2.2.2.2.2.2.2.2.1,dM (t5.2.2.2.2.2.2.2.2.2.2.2.2.2.2.2.2.2.2.2.2.2.1.map eTValue),dM (t5.2.2.2.2.2.2.2.2.2.2.2.2.2.2.2.2.2.2.2.2.2.2.1.map eTField)]),some (.arr 0 2 (t5.2.2.2.2.2.2.2.2.2.1.map eLabel)),some (.arr 0 5 (t5.2.2.2.2.2.2.2.2.2.2.1.map eOwner)),some (.arr 0 1 (t5.2.2.2.2.2.2.2.2.2.2.2.1.map eS)),some (.arr 0 2 (t5.2.2.2.2.2.2.2.2.2.2.2.2.1.map eManager)),some (.box [dS x1.Meta.Kind,dS x1.Meta.Namespace,dS x1.Meta.Name,dI t5.2.2.2.1,dI t5.2.2.2.2.1,dI o16,dI t5.2.2.2.2.2.2.1,dB x1.Meta.Deleting,dI x1.Meta.DeleteAt,.own 9 0 0 (t15.1.length) none,.own 10 0 0 (t15.2.1.length) none,.own 11 0 0 (t15.2.2.1.length) none,.own 12 0 0 (t15.2.2.2.1.length) none,dI t15.2.2.2.2.1,dI t15.2.2.2.2.2.1,dS t15.2.2.2.2.2.2.1,dM (t15.2.2.2.2.2.2.2.1.map eTValue),dM (t15.2.2.2.2.2.2.2.2.1.map eTField),dI t15.2.2.2.2.2.2.2.2.2.1,dI t15.2.2.2.2.2.2.2.2.2.2.1,dS t15.2.2.2.2.2.2.2.2.2.2.2.1,dM (t15.2.2.2.2.2.2.2.2.2.2.2.2.1.map eTValue),dM (t15.2.2.2.2.2.2.2.2.2.2.2.2.2.map eTField)]),some (.arr 0 2 (t15.1.map eLabel)),some (.arr 0 5 (t15.2.1.map eOwner)),some (.arr 0 1 (t15.2.2.1.map eS)),some (.arr 0 2 (t15.2.2.2.1.map eManager))]⟩) ?_ ?_
 ·have h:=ho
  clear ho
  refine ww ?_
  obtain⟨t17,ht17,h⟩:=bi h
  refine cN [] (F35_ok ht17) trivial (ww ?_)
  refine condBh h (fun c18 h=>?_) (fun c18 h=>?_)
  ·refine ww ?_
   cases h
   exact eM [some 0,some 2,some 3,some 4,some 5,some 6,some 7,some 8,some 13,some 9,some 10,some 11,some 12] rfl
  refine ww ?_
  cases h
  exact eM [some 0,some 2,some 3,some 4,some 5,some 6,some 7,some 8,some 13,some 9,some 10,some 11,some 12] rfl
 rintro _ rfl
 clear ho
 refine ww ?_
 obtain⟨t19,ht19,h⟩:=bi h
 refine callX_bor (F13_ok ht19) (by simp only[borAs,bors,hp,List.getElem?_cons_zero,List.getElem?_cons_succ,Option.join_some,List.drop_zero,bor_full',true_and,Nat.zero_add,List.length_map,Nat.le_refl,nrm,List.length_cons,List.length_nil,Nat.reduceAdd,Nat.reduceLeDiff,List.take_succ_cons,List.take_zero,List.take_nil,List.map_cons,List.map_nil,List.length_set,EE.down]) rfl ?_
 refine ww ?_
 refine condBh h (fun c20 h=>?_) (fun c20 h=>?_)
 ·refine ww ?_
  obtain⟨t21,ht21,h⟩:=bi h
  refine cN [] (F32_ok ht21) trivial (ww ?_)
  refine kD_new (by simp[wrs,allW,hset]) (ww ?_)
  cases h
  exact eF [some 13,some 14,some 15]
 refine ww ?_
 refine condSh h (fun c22 h=>?_) (fun c22 h=>?_)
 ·refine ww ?_
  obtain⟨t23,ht23,h⟩:=bi h
  refine cN [] (F32_ok ht23) trivial (ww ?_)
  cases h
  exact eF [some 13,some 14,some 15]
 refine ww ?_
 obtain⟨o24,ho,h⟩:=bi h
 refine cutS (fun s=>s=⟨[(2,.one (.c (.pt 0 0))),(4,.one (.c (.pt 1 0))),(5,.one (.c (.pt 2 0))),(9,.one (.c (.pt 3 0)))],[some (.box [dI x0.Rev,dI x0.Floor,dI x0.NextUid,dM (x0.Base.map eObject),dM (x0.Objects.map eObject),dM (x0.History.map eChange)]),some (.box [dI 0,dI 0,dI 0,dN,dN,dN]),some (.box [dS ((⟨#[]⟩:ByteArray)),dS ((⟨#[]⟩:ByteArray)),dS ((⟨#[]⟩:ByteArray)),dI 0,dI 0,dI 0,dI 0,dB false,dI 0,dN,dN,dN,dN,dI 0,dI 0,dS ((⟨#[]⟩:ByteArray)),dN,dN,dI 0,dI 0,dS ((⟨#[]⟩:ByteArray)),dN,dN]),some (.box [dS x1.Meta.Kind,dS x1.Meta.Namespace,dS x1.Meta.Name,dI t5.2.2.2.1,dI ((IntKind.i64.wrap (x0.Rev+1))),dI o16,dI t5.2.2.2.2.2.2.1,dB x1.Meta.Deleting,dI x1.Meta.DeleteAt,dM (t15.1.map eLabel),dM (t15.2.1.map eOwner),dM (t15.2.2.1.map eS),dM (t15.2.2.2.1.map eManager),dI t15.2.2.2.2.1,dI t15.2.2.2.2.2.1,dS t15.2.2.2.2.2.2.1,dM (t15.2.2.2.2.2.2.2.1.map eTValue),dM (t15.2.2.2.2.2.2.2.2.1.map eTField),dI t15.2.2.2.2.2.2.2.2.2.1,dI t15.2.2.2.2.2.2.2.2.2.2.1,dS t15.2.2.2.2.2.2.2.2.2.2.2.1,dM (t15.2.2.2.2.2.2.2.2.2.2.2.2.1.map eTValue),dM (t15.2.2.2.2.2.2.2.2.2.2.2.2.2.map eTField)])]⟩) ?_ ?_
 ·have h:=ho
  clear ho
  refine ww ?_
  cases h
  exact eM [some 0,some 1,some 2,some 8] rfl
 rintro _ rfl
 clear ho
 refine ww ?_
 obtain⟨t25,ht25,h⟩:=bi h
 refine cN [] (F36_ok ht25) trivial (ww ?_)
 refine kD_new (by simp[wrs,allW,hset]) (ww ?_)
 cases h
 exact eF [some 4,some 5,some 6]
end Go.Proofs.Ytbopaemngpbdgaa
