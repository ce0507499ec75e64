/- Each Go function as a function over typed data, and its walk. -/
import Derived.Test.YtondgcmdhkhkkaaGreatAX
import Derived.Test.YtondgcmdhkhkkaaGreatAX2
import Derived.Test.YtondgcmdhkhkkaaGreatAX4
import Derived.Test.YtondgcmdhkhkkaaGreatAX5
namespace Go.Proofs.YtondgcmdhkhkkaaGreat
open Go Go.Fw Go.Shelf
set_option maxRecDepth 100000
set_option maxHeartbeats 4000000
set_option linter.unusedSimpArgs false
set_option linter.unusedVariables false
def F131(x0:ByteArray):Option (Bool):=(((if x0=(⟨#[]⟩:ByteArray)then some true else(F132 x0).bind fun t3=>some t3)).bind fun o1=>some o1)
def a131:AFn:=⟨9,[(.tmp 2)],
 (.seq (.reg [sq 2 (.mv (kB false))])
 (.seq (.sem (.reg [sq 3 (.mv (.t 0)),
sq 4 (.bin .eql (.t 3) (kS ⟨#[]⟩)),
sq 5 (.mv (.t 4)),
zg 6 5 false (.mv (.t 0)),
zg 7 5 false (.call 132 [(.t 6)]),
sq 8 (.pick (.t 5) (kB true) (.t 7)),
sq 2 (.mv (.t 8))]))
 .ret))⟩
theorem a131_ok:afn Tryz.prog 131=some a131.er:=by kernel_rfl
theorem F131_ok{x0 r}(h:F131 x0=some r):CallD Tryz.prog 131 [.c (dS x0)] [] (tupV [.c (dB r)]) []:=by
 refine callS a131_ok (by simp[a131]) ?_
 rw[F131]at h
 simp only[a131,VW.down,Nat.reduceEqDiff,reduceCtorEq,Nat.reduceAdd,Nat.reduceLeDiff,Nat.reduceLT,Nat.reduceBEq,Nat.reduceSub,EE.down]
 obtain⟨o1,ho,h⟩:=bi h
 refine cutS (fun s=>s=⟨[(2,.one (.c (dB o1)))],[]⟩) ?_ ?_
 ·have h:=ho
  clear ho
  refine ww ?_
  refine guardSh h (fun g2 h=>?_) (fun g2 h=>?_)
  ·refine ww ?_
   cases h
   exact eM [] rfl
  refine ww ?_
  obtain⟨t3,ht3,h⟩:=bi h
  refine cN [] (F132_ok ht3) trivial (ww ?_)
  cases h
  exact eM [] rfl
 rintro _ rfl
 clear ho
 refine ww ?_
 cases h
 exact eF []
theorem a112_ok:afn Tryz.prog 112=some (insertA 23 352 [.v (.string ⟨#[]⟩),.v (.string ⟨#[]⟩),.v (.string ⟨#[]⟩),.v (.int .i64 0),.v (.int .i64 0),.v (.int .i64 0),.v (.int .i64 0),.v (.bool false),.v (.int .i64 0),.sl [],.sl [],.sl [],.sl [],.v (.int .i64 0),.v (.int .i64 0),.v (.string ⟨#[]⟩),.sl [],.sl [],.v (.int .i64 0),.v (.int .i64 0),.v (.string ⟨#[]⟩),.sl [],.sl []] 128 129):=by kernel_rfl
theorem F112_ok{x0 r:List Object}{i:Int}{x:Object}{e0 e1:Nat}(h:insI x0 i x=some r):CallD Tryz.prog 112 [.c (.own 0 e0 0 x0.length none),aI i,.c (.own 1 e1 0 [x].length none)] [some (.arr e0 23 (x0.map eObject)),some (.arr e1 23 ([x].map eObject))] (tupV [.c (.own 0 (e0+1) 0 r.length none)]) [some (.arr (e0+1) 23 (r.map eObject)),some (.arr e1 23 ([x].map eObject))]:=L_insert a112_ok ov128 (fun _=>rfl) h
def F118_l8(x0:ByteArray):Nat→Int→Option ((Bool) ⊕ (Unit))
 |0,_=>none
 |k+1,o8_0=>(if o8_0<(x0.size:Int)then(byI x0 o8_0).bind fun y10=>(F139 y10).bind fun t11=>(if(nb t11)=true then(some false).map Sum.inl else F118_l8 x0 k ((IntKind.i64.wrap (o8_0+1))))else some (Sum.inr (())))
def F118(x0:ByteArray):Option (Bool):=(((if(x0.size:Int)<1 then some true else(if 40<(x0.size:Int)then some true else(byI x0 0).bind fun y4=>(if y4<97 then some true else(byI x0 0).bind fun y6=>some (decide (122<y6)))))).bind fun o1=>(if o1=true then some false else((F118_l8 x0 1099511627776 0:Option ((Bool) ⊕ (Unit))).bind fun o8=>match o8 with|Sum.inl f=>some f|Sum.inr po8=>some true)))
def a118:AFn:=⟨33,[(.tmp 2)],
 (.seq (.reg [sq 2 (.mv (kB false))])
 (.seq (.seq (.sem (.reg [sq 4 (.mv (.t 0)),
sq 5 (.slen (.t 4)),
sq 6 (.bin .lss (.t 5) (kI 1)),
sq 7 (.mv (.t 6)),
zg 8 7 false (.mv (.t 0)),
zg 9 7 false (.slen (.t 8)),
zg 10 7 false (.bin .gtr (.t 9) (kI 40)),
sq 11 (.pick (.t 7) (kB true) (.t 10)),
sq 12 (.mv (.t 11)),
zg 13 12 false (.mv (.t 0)),
zg 14 12 false (.sidx (.t 13) (kI 0)),
zg 15 12 false (.bin .lss (.t 14) (.k (.c (.d (.v (.int .u8 97)))))),
sq 16 (.pick (.t 12) (kB true) (.t 15)),
sq 17 (.mv (.t 16)),
zg 18 17 false (.mv (.t 0)),
zg 19 17 false (.sidx (.t 18) (kI 0)),
zg 20 17 false (.bin .gtr (.t 19) (.k (.c (.d (.v (.int .u8 122)))))),
sq 21 (.pick (.t 17) (kB true) (.t 20))]))
 (.cond (.t 21)
 (.seq (.reg [sq 2 (.mv (kB false))])
 .ret)
 .skip))
 (.seq (.seq (.reg [sq 3 (.mv (kI 0))])
 (.sem (.block 0 (.loop (.seq (.seq (.reg [sq 22 (.mv (.t 3)),
sq 23 (.mv (.t 0)),
sq 24 (.slen (.t 23)),
sq 25 (.bin .lss (.t 22) (.t 24))])
 (.cond (.t 25)
 .skip
 (.exit 0)))
 (.seq (.block 1 (.seq (.reg [sq 28 (.mv (.t 0)),
sq 29 (.mv (.t 3)),
sq 30 (.sidx (.t 28) (.t 29)),
sq 31 (.call 139 [(.t 30)]),
sq 32 (.not (.t 31))])
 (.cond (.t 32)
 (.seq (.reg [sq 2 (.mv (kB false))])
 .ret)
 .skip)))
 (.reg [sq 26 (.mv (.t 3)),
sq 27 (.bin .add (.t 26) (kI 1)),
sq 3 (.mv (.t 27))])))))))
 (.seq (.reg [sq 2 (.mv (kB true))])
 .ret))))⟩
theorem a118_ok:afn Tryz.prog 118=some a118.er:=by kernel_rfl
theorem F118_ok{x0 r}(h:F118 x0=some r):CallD Tryz.prog 118 [.c (dS x0)] [] (tupV [.c (dB r)]) []:=by
 refine callS a118_ok (by simp[a118]) ?_
 rw[F118]at h
 simp only[a118,VW.down,Nat.reduceEqDiff,reduceCtorEq,Nat.reduceAdd,Nat.reduceLeDiff,Nat.reduceLT,Nat.reduceBEq,Nat.reduceSub,EE.down]
 obtain⟨o1,ho,h⟩:=bi h
 refine cutS (fun s=>s=⟨[(0,.one (.c (dS x0))),(21,.one (.c (dB o1)))],[]⟩) ?_ ?_
 ·have h:=ho
  clear ho
  refine ww ?_
  refine guardSh h (fun g2 h=>?_) (fun g2 h=>?_)
  ·refine ww ?_
   cases h
   exact eM [] rfl
  refine ww ?_
  refine guardSh h (fun g3 h=>?_) (fun g3 h=>?_)
  ·refine ww ?_
   cases h
   exact eM [] rfl
  refine ww ?_
  obtain⟨y4,hy4,h⟩:=bi h
  refine t_sidx rfl rfl hy4 (ww ?_)
  refine guardSh h (fun g5 h=>?_) (fun g5 h=>?_)
  ·refine ww ?_
   cases h
   exact eM [] rfl
  refine ww ?_
  obtain⟨y6,hy6,h⟩:=bi h
  refine t_sidx rfl rfl hy6 (ww ?_)
  cases h
  exact eM [] rfl
 rintro _ rfl
 clear ho
 refine ww ?_
 refine condBh h (fun c7 h=>?_) (fun c7 h=>?_)
 ·refine ww ?_
  cases h
  exact eF []
 refine ww ?_
 obtain⟨o8,ho,h⟩:=bi h
 refine cutS (fun s=>∃po8,o8=Sum.inr po8∧s=⟨[],[]⟩) ?_ ?_
 ·have h0o8:=h
  have h:=ho
  clear ho
  refine ww ?_
  refine bL (fun j s=>∃(o8_0:Int),s=⟨[(0,.one (.c (dS x0))),(3,.one (.c (dI o8_0)))],[]⟩∧F118_l8 x0 j o8_0=some o8) 1099511627776 [] ⟨0,rfl,h⟩ ?_
  rintro j _ ⟨o8_0,rfl,h⟩
  cases j with
  |zero=>cases(show(none:Option _)=some _ from h)
  |succ j=>
   rw[F118_l8]at h
   refine ww ?_
   refine condSh h (fun c9 h=>?_) (fun c9 h=>?_)
   ·refine ww ?_
    obtain⟨y10,hy10,h⟩:=bi h
    refine t_sidx rfl rfl hy10 (ww ?_)
    obtain⟨t11,ht11,h⟩:=bi h
    refine cN [] (F139_ok ht11) trivial (ww ?_)
    refine condBh h (fun c12 h=>?_) (fun c12 h=>?_)
    ·refine ww ?_
     obtain⟨fh0o8,hfh0o8,rfl⟩:=Option.map_eq_some_iff.1 h
     have h:=hfh0o8.trans h0o8
     cases h
     exact eF []
    ·refine ww ?_
     exact eL' j [] ⟨(IntKind.i64.wrap (o8_0+1)),rfl,h⟩ (Nat.lt_succ_self _)
   ·refine ww ?_
    cases h
    exact eM [] ⟨_,rfl,rfl⟩
 rintro _ ⟨po8,rfl,rfl⟩
 clear ho
 dsimp only at h
 refine ww ?_
 cases h
 exact eF []
def F103_l8(rc119:TValue→TValue→Option (Int))(x0:TValue)(x1:TValue):Nat→Int→Int→Option (Int)
 |0,_,_=>none
 |k+1,o8_0,o8_1=>(((if o8_1<(x0.List_.length:Int)then(if o8_1<(x1.List_.length:Int)then some (decide (o8_0=0))else some false)else some false)).bind fun o9=>(if o9=true then(rdI x0.List_ o8_1).bind fun y13=>(rdI x1.List_ o8_1).bind fun y14=>(rc119 y13 y14).bind fun t15=>F103_l8 rc119 x0 x1 k t15 ((IntKind.i64.wrap (o8_1+1)))else some o8_0))
def F103_l19(rc119:TValue→TValue→Option (Int))(x0:TValue)(x1:TValue):Nat→Int→Int→Option (Int)
 |0,_,_=>none
 |k+1,o19_0,o19_1=>(((if o19_1<(x0.Fields.length:Int)then(if o19_1<(x1.Fields.length:Int)then some (decide (o19_0=0))else some false)else some false)).bind fun o20=>(if o20=true then(((rdI x0.Fields o19_1).bind fun y25=>(rdI x1.Fields o19_1).bind fun y26=>(F125 (Op.bytesLess y25.Name.toList y26.Name.toList) (nb (Op.bytesLess y25.Name.toList y26.Name.toList||decide (y25.Name=y26.Name)))).bind fun t27=>(if t27=0 then(rc119 y25.V y26.V).bind fun t29=>some t29 else some t27)).bind fun o24=>F103_l19 rc119 x0 x1 k o24 ((IntKind.i64.wrap (o19_1+1))))else some o19_0))
def F103(rc119:TValue→TValue→Option (Int))(x0:TValue)(x1:TValue):Option (Int):=(F125 (decide (x0.Kind<x1.Kind)) (decide (x1.Kind<x0.Kind))).bind fun t1=>(((if t1=0 then(F125 (decide (x0.N<x1.N)) (decide (x1.N<x0.N))).bind fun t4=>some t4 else some t1)).bind fun o2=>(((if o2=0 then(F125 (Op.bytesLess x0.S.toList x1.S.toList) (nb (Op.bytesLess x0.S.toList x1.S.toList||decide (x0.S=x1.S)))).bind fun t7=>some t7 else some o2)).bind fun o5=>((F103_l8 rc119 x0 x1 1099511627776 o5 0).bind fun o8=>(((if o8=0 then(F125 (decide ((x0.List_.length:Int)<(x1.List_.length:Int))) (decide ((x1.List_.length:Int)<(x0.List_.length:Int)))).bind fun t18=>some t18 else some o8)).bind fun o16=>((F103_l19 rc119 x0 x1 1099511627776 o16 0).bind fun o19=>(if o19=0 then(F125 (decide ((x0.Fields.length:Int)<(x1.Fields.length:Int))) (decide ((x1.Fields.length:Int)<(x0.Fields.length:Int)))).bind fun t31=>some t31 else some o19))))))
def a103:AFn:=⟨169,[(.tmp 4)],
 (.seq (.reg [sq 2 (.box (.t 0)),
sq 3 (.box (.t 1)),
sq 4 (.mv (kI 0))])
 (.seq (.reg [sq 8 (.fieldA 0 (.t 2)),
sq 9 (.load none (.t 8)),
sq 10 (.fieldA 0 (.t 3)),
sq 11 (.load none (.t 10)),
sq 12 (.bin .lss (.t 9) (.t 11)),
sq 13 (.fieldA 0 (.t 2)),
sq 14 (.load none (.t 13)),
sq 15 (.fieldA 0 (.t 3)),
sq 16 (.load none (.t 15)),
sq 17 (.bin .gtr (.t 14) (.t 16)),
sq 18 (.call 125 [(.t 12),(.t 17)]),
sq 5 (.mv (.t 18))])
 (.seq (.sem (.seq (.reg [sq 19 (.mv (.t 5)),
sq 20 (.bin .eql (.t 19) (kI 0))])
 (.cond (.t 20)
 (.reg [sq 21 (.fieldA 1 (.t 2)),
sq 22 (.load none (.t 21)),
sq 23 (.fieldA 1 (.t 3)),
sq 24 (.load none (.t 23)),
sq 25 (.bin .lss (.t 22) (.t 24)),
sq 26 (.fieldA 1 (.t 2)),
sq 27 (.load none (.t 26)),
sq 28 (.fieldA 1 (.t 3)),
sq 29 (.load none (.t 28)),
sq 30 (.bin .gtr (.t 27) (.t 29)),
sq 31 (.call 125 [(.t 25),(.t 30)]),
sq 5 (.mv (.t 31))])
 .skip)))
 (.seq (.sem (.seq (.reg [sq 32 (.mv (.t 5)),
sq 33 (.bin .eql (.t 32) (kI 0))])
 (.cond (.t 33)
 (.reg [sq 34 (.fieldA 2 (.t 2)),
sq 35 (.load none (.t 34)),
sq 36 (.fieldA 2 (.t 3)),
sq 37 (.load none (.t 36)),
sq 38 (.bin .lss (.t 35) (.t 37)),
sq 39 (.fieldA 2 (.t 2)),
sq 40 (.load none (.t 39)),
sq 41 (.fieldA 2 (.t 3)),
sq 42 (.load none (.t 41)),
sq 43 (.bin .gtr (.t 40) (.t 42)),
sq 44 (.call 125 [(.t 38),(.t 43)]),
sq 5 (.mv (.t 44))])
 .skip)))
 (.seq (.seq (.reg [sq 6 (.mv (kI 0))])
 (.sem (.block 0 (.loop (.seq (.seq (.sem (.reg [sq 45 (.mv (.t 6)),
sq 46 (.fieldA 3 (.t 2)),
sq 47 (.load none (.t 46)),
sq 48 (.len (.t 47)),
sq 49 (.bin .lss (.t 45) (.t 48)),
sq 50 (.mv (.t 49)),
zg 51 50 true (.mv (.t 6)),
zg 52 50 true (.fieldA 3 (.t 3)),
zg 53 50 true (.load none (.t 52)),
zg 54 50 true (.len (.t 53)),
zg 55 50 true (.bin .lss (.t 51) (.t 54)),
sq 56 (.pick (.t 50) (.t 55) (kB false)),
sq 57 (.mv (.t 56)),
zg 58 57 true (.mv (.t 5)),
zg 59 57 true (.bin .eql (.t 58) (kI 0)),
sq 60 (.pick (.t 57) (.t 59) (kB false))]))
 (.cond (.t 60)
 .skip
 (.exit 0)))
 (.seq (.block 1 (.regd [sq 63 (.fieldA 3 (.t 2)),
sd 64 (.load none (.t 63)) [0],
sq 65 (.mv (.t 6)),
sd 66 (.indexA 5 (.t 64) (.t 65)) [0,1,2],
sd 67 (.load (some 5) (.t 66)) [0,1,2,3],
sq 68 (.fieldA 3 (.t 3)),
sd 69 (.load none (.t 68)) [5],
sq 70 (.mv (.t 6)),
sd 71 (.indexA 5 (.t 69) (.t 70)) [5,6,7],
sd 72 (.load (some 5) (.t 71)) [5,6,7,8],
zl 73 (.call 103 [(.t 67),(.t 72)]) [0,1,2,3,4,5,6,7,8,9] [],
sd 5 (.mv (.t 73)) [0,1,2,3,4,5,6,7,8,9,10]]))
 (.reg [sq 61 (.mv (.t 6)),
sq 62 (.bin .add (.t 61) (kI 1)),
sq 6 (.mv (.t 62))])))))))
 (.seq (.sem (.seq (.reg [sq 74 (.mv (.t 5)),
sq 75 (.bin .eql (.t 74) (kI 0))])
 (.cond (.t 75)
 (.reg [sq 76 (.fieldA 3 (.t 2)),
sq 77 (.load none (.t 76)),
sq 78 (.len (.t 77)),
sq 79 (.fieldA 3 (.t 3)),
sq 80 (.load none (.t 79)),
sq 81 (.len (.t 80)),
sq 82 (.bin .lss (.t 78) (.t 81)),
sq 83 (.fieldA 3 (.t 2)),
sq 84 (.load none (.t 83)),
sq 85 (.len (.t 84)),
sq 86 (.fieldA 3 (.t 3)),
sq 87 (.load none (.t 86)),
sq 88 (.len (.t 87)),
sq 89 (.bin .gtr (.t 85) (.t 88)),
sq 90 (.call 125 [(.t 82),(.t 89)]),
sq 5 (.mv (.t 90))])
 .skip)))
 (.seq (.seq (.reg [sq 7 (.mv (kI 0))])
 (.sem (.block 2 (.loop (.seq (.seq (.sem (.reg [sq 91 (.mv (.t 7)),
sq 92 (.fieldA 4 (.t 2)),
sq 93 (.load none (.t 92)),
sq 94 (.len (.t 93)),
sq 95 (.bin .lss (.t 91) (.t 94)),
sq 96 (.mv (.t 95)),
zg 97 96 true (.mv (.t 7)),
zg 98 96 true (.fieldA 4 (.t 3)),
zg 99 96 true (.load none (.t 98)),
zg 100 96 true (.len (.t 99)),
zg 101 96 true (.bin .lss (.t 97) (.t 100)),
sq 102 (.pick (.t 96) (.t 101) (kB false)),
sq 103 (.mv (.t 102)),
zg 104 103 true (.mv (.t 5)),
zg 105 103 true (.bin .eql (.t 104) (kI 0)),
sq 106 (.pick (.t 103) (.t 105) (kB false))]))
 (.cond (.t 106)
 .skip
 (.exit 2)))
 (.seq (.sem (.block 3 (.seq (.regd [sq 109 (.fieldA 4 (.t 2)),
sd 110 (.load none (.t 109)) [0],
sq 111 (.mv (.t 7)),
sd 112 (.indexA 6 (.t 110) (.t 111)) [0,1,2],
sd 113 (.fieldA 0 (.t 112)) [0,1,2,3],
sd 114 (.load none (.t 113)) [0,1,2,3,4],
sq 115 (.fieldA 4 (.t 3)),
sd 116 (.load none (.t 115)) [6],
sq 117 (.mv (.t 7)),
sd 118 (.indexA 6 (.t 116) (.t 117)) [6,7,8],
sd 119 (.fieldA 0 (.t 118)) [6,7,8,9],
sd 120 (.load none (.t 119)) [6,7,8,9,10],
sd 121 (.bin .lss (.t 114) (.t 120)) [0,1,2,3,4,5,6,7,8,9,10,11],
sq 122 (.fieldA 4 (.t 2)),
sd 123 (.load none (.t 122)) [13],
sq 124 (.mv (.t 7)),
sd 125 (.indexA 6 (.t 123) (.t 124)) [13,14,15],
sd 126 (.fieldA 0 (.t 125)) [13,14,15,16],
sd 127 (.load none (.t 126)) [13,14,15,16,17],
sq 128 (.fieldA 4 (.t 3)),
sd 129 (.load none (.t 128)) [19],
sq 130 (.mv (.t 7)),
sd 131 (.indexA 6 (.t 129) (.t 130)) [19,20,21],
sd 132 (.fieldA 0 (.t 131)) [19,20,21,22],
sd 133 (.load none (.t 132)) [19,20,21,22,23],
sd 134 (.bin .gtr (.t 127) (.t 133)) [13,14,15,16,17,18,19,20,21,22,23,24],
zl 135 (.call 125 [(.t 121),(.t 134)]) [0,1,2,3,4,5,6,7,8,9,10,11,12,13,14,15,16,17,18,19,20,21,22,23,24,25] [],
sd 5 (.mv (.t 135)) [0,1,2,3,4,5,6,7,8,9,10,11,12,13,14,15,16,17,18,19,20,21,22,23,24,25,26]])
 (.seq (.reg [sq 136 (.mv (.t 5)),
sq 137 (.bin .eql (.t 136) (kI 0))])
 (.cond (.t 137)
 (.regd [sq 138 (.fieldA 4 (.t 2)),
sd 139 (.load none (.t 138)) [0],
sq 140 (.mv (.t 7)),
sd 141 (.indexA 6 (.t 139) (.t 140)) [0,1,2],
sd 142 (.fieldA 1 (.t 141)) [0,1,2,3],
sd 143 (.load (some 5) (.t 142)) [0,1,2,3,4],
sq 144 (.fieldA 4 (.t 3)),
sd 145 (.load none (.t 144)) [6],
sq 146 (.mv (.t 7)),
sd 147 (.indexA 6 (.t 145) (.t 146)) [6,7,8],
sd 148 (.fieldA 1 (.t 147)) [6,7,8,9],
sd 149 (.load (some 5) (.t 148)) [6,7,8,9,10],
zl 150 (.call 103 [(.t 143),(.t 149)]) [0,1,2,3,4,5,6,7,8,9,10,11] [],
sd 5 (.mv (.t 150)) [0,1,2,3,4,5,6,7,8,9,10,11,12]])
 .skip)))))
 (.reg [sq 107 (.mv (.t 7)),
sq 108 (.bin .add (.t 107) (kI 1)),
sq 7 (.mv (.t 108))])))))))
 (.seq (.seq (.reg [sq 151 (.mv (.t 5)),
sq 152 (.bin .eql (.t 151) (kI 0))])
 (.cond (.t 152)
 (.reg [sq 153 (.fieldA 4 (.t 2)),
sq 154 (.load none (.t 153)),
sq 155 (.len (.t 154)),
sq 156 (.fieldA 4 (.t 3)),
sq 157 (.load none (.t 156)),
sq 158 (.len (.t 157)),
sq 159 (.bin .lss (.t 155) (.t 158)),
sq 160 (.fieldA 4 (.t 2)),
sq 161 (.load none (.t 160)),
sq 162 (.len (.t 161)),
sq 163 (.fieldA 4 (.t 3)),
sq 164 (.load none (.t 163)),
sq 165 (.len (.t 164)),
sq 166 (.bin .gtr (.t 162) (.t 165)),
sq 167 (.call 125 [(.t 159),(.t 166)]),
sq 5 (.mv (.t 167))])
 .skip))
 (.seq (.reg [sq 168 (.mv (.t 5)),
sq 4 (.mv (.t 168))])
 .ret)))))))))⟩
theorem a103_ok:afn Tryz.prog 103=some a103.er:=by kernel_rfl
theorem F103_ok{rc119:TValue→TValue→Option (Int)}(ih119:∀{x0:TValue} {x1:TValue} {r:Int} (h:rc119 x0 x1=some r),CallD Tryz.prog 103 [.agg [dI x0.Kind,dI x0.N,dS x0.S,dM (x0.List_.map eTValue),dM (x0.Fields.map eTField)],.agg [dI x1.Kind,dI x1.N,dS x1.S,dM (x1.List_.map eTValue),dM (x1.Fields.map eTField)]] [] (tupV [.c (dI r)]) []){x0:TValue}{x1:TValue}{r:Int}(h:F103 rc119 x0 x1=some r):CallD Tryz.prog 103 [.agg [dI x0.Kind,dI x0.N,dS x0.S,dM (x0.List_.map eTValue),dM (x0.Fields.map eTField)],.agg [dI x1.Kind,dI x1.N,dS x1.S,dM (x1.List_.map eTValue),dM (x1.Fields.map eTField)]] [] (tupV [.c (dI r)]) []:=by
 refine callS a103_ok (by simp[a103]) ?_
 rw[F103]at h
 simp only[a103,VW.down,Nat.reduceEqDiff,reduceCtorEq,Nat.reduceAdd,Nat.reduceLeDiff,Nat.reduceLT,Nat.reduceBEq,Nat.reduceSub,EE.down]
 obtain⟨t1,ht1,h⟩:=bi h
 refine cN [] (F125_ok ht1) trivial (ww ?_)
 obtain⟨o2,ho,h⟩:=bi h
 refine cutS (fun s=>s=⟨[(2,.one (.c (.pt 0 0))),(3,.one (.c (.pt 1 0))),(5,.one (.c (dI o2)))],[some (.box [dI x0.Kind,dI x0.N,dS x0.S,dM (x0.List_.map eTValue),dM (x0.Fields.map eTField)]),some (.box [dI x1.Kind,dI x1.N,dS x1.S,dM (x1.List_.map eTValue),dM (x1.Fields.map eTField)])]⟩) ?_ ?_
 ·have h:=ho
  clear ho
  refine ww ?_
  refine condSh h (fun c3 h=>?_) (fun c3 h=>?_)
  ·refine ww ?_
   obtain⟨t4,ht4,h⟩:=bi h
   refine cN [] (F125_ok ht4) trivial (ww ?_)
   cases h
   exact eM [some 0,some 1] rfl
  refine ww ?_
  cases h
  exact eM [some 0,some 1] rfl
 rintro _ rfl
 clear ho
 refine ww ?_
 obtain⟨o5,ho,h⟩:=bi h
 refine cutS (fun s=>s=⟨[(2,.one (.c (.pt 0 0))),(3,.one (.c (.pt 1 0))),(5,.one (.c (dI o5)))],[some (.box [dI x0.Kind,dI x0.N,dS x0.S,dM (x0.List_.map eTValue),dM (x0.Fields.map eTField)]),some (.box [dI x1.Kind,dI x1.N,dS x1.S,dM (x1.List_.map eTValue),dM (x1.Fields.map eTField)])]⟩) ?_ ?_
 ·have h:=ho
  clear ho
  refine ww ?_
  refine condSh h (fun c6 h=>?_) (fun c6 h=>?_)
  ·refine ww ?_
   obtain⟨t7,ht7,h⟩:=bi h
   refine cN [] (F125_ok ht7) trivial (ww ?_)
   cases h
   exact eM [some 0,some 1] rfl
  refine ww ?_
  cases h
  exact eM [some 0,some 1] rfl
 rintro _ rfl
 clear ho
 refine ww ?_
 obtain⟨o8,ho,h⟩:=bi h
 refine cutS (fun s=>s=⟨[(2,.one (.c (.pt 0 0))),(3,.one (.c (.pt 1 0))),(5,.one (.c (dI o8)))],[some (.box [dI x0.Kind,dI x0.N,dS x0.S,dM (x0.List_.map eTValue),dM (x0.Fields.map eTField)]),some (.box [dI x1.Kind,dI x1.N,dS x1.S,dM (x1.List_.map eTValue),dM (x1.Fields.map eTField)])]⟩) ?_ ?_
 ·have h:=ho
  clear ho
  refine ww ?_
  refine bL (fun j s=>∃(o8_0:Int) (o8_1:Int),s=⟨[(2,.one (.c (.pt 0 0))),(3,.one (.c (.pt 1 0))),(5,.one (.c (dI o8_0))),(6,.one (.c (dI o8_1)))],[some (.box [dI x0.Kind,dI x0.N,dS x0.S,dM (x0.List_.map eTValue),dM (x0.Fields.map eTField)]),some (.box [dI x1.Kind,dI x1.N,dS x1.S,dM (x1.List_.map eTValue),dM (x1.Fields.map eTField)])]⟩∧F103_l8 rc119 x0 x1 j o8_0 o8_1=some o8) 1099511627776 [some 0,some 1] ⟨o5,0,rfl,h⟩ ?_
  rintro j _ ⟨o8_0,o8_1,rfl,h⟩
  cases j with
  |zero=>cases(show(none:Option _)=some _ from h)
  |succ j=>
   rw[F103_l8]at h
   refine ww ?_
   obtain⟨o9,ho,h⟩:=bi h
   refine cutS (fun s=>s=⟨[(2,.one (.c (.pt 0 0))),(3,.one (.c (.pt 1 0))),(5,.one (.c (dI o8_0))),(6,.one (.c (dI o8_1))),(60,.one (.c (dB o9)))],[some (.box [dI x0.Kind,dI x0.N,dS x0.S,dM (x0.List_.map eTValue),dM (x0.Fields.map eTField)]),some (.box [dI x1.Kind,dI x1.N,dS x1.S,dM (x1.List_.map eTValue),dM (x1.Fields.map eTField)])]⟩) ?_ ?_
   ·have h:=ho
    clear ho
    refine ww ?_
    refine guardSh h (fun g10 h=>?_) (fun g10 h=>?_)
    ·refine ww ?_
     refine guardSh h (fun g11 h=>?_) (fun g11 h=>?_)
     ·refine ww ?_
      cases h
      exact eM [some 0,some 1] rfl
     ·refine ww ?_
      cases h
      exact eM [some 0,some 1] rfl
    ·refine ww ?_
     cases h
     exact eM [some 0,some 1] rfl
   ·rintro _ rfl
    clear ho
    refine ww ?_
    refine condBh h (fun c12 h=>?_) (fun c12 h=>?_)
    ·refine ww ?_
     obtain⟨y13,hy13,h⟩:=bi h
     refine t_idxF (enc:=eTValue) (xs:=x0.List_) rfl rfl hy13 (by rw[eTValue_u];rfl) (ww ?_)
     obtain⟨y14,hy14,h⟩:=bi h
     refine t_idxF (enc:=eTValue) (xs:=x1.List_) rfl rfl hy14 (by rw[eTValue_u];rfl) (ww ?_)
     obtain⟨t15,ht15,h⟩:=bi h
     refine cN [] (ih119 ht15) trivial (ww ?_)
     exact eL' j [some 0,some 1] ⟨t15,(IntKind.i64.wrap (o8_1+1)),rfl,h⟩ (Nat.lt_succ_self _)
    ·refine ww ?_
     cases h
     exact eM [some 0,some 1] rfl
 rintro _ rfl
 clear ho
 refine ww ?_
 obtain⟨o16,ho,h⟩:=bi h
 refine cutS (fun s=>s=⟨[(2,.one (.c (.pt 0 0))),(3,.one (.c (.pt 1 0))),(5,.one (.c (dI o16)))],[some (.box [dI x0.Kind,dI x0.N,dS x0.S,dM (x0.List_.map eTValue),dM (x0.Fields.map eTField)]),some (.box [dI x1.Kind,dI x1.N,dS x1.S,dM (x1.List_.map eTValue),dM (x1.Fields.map eTField)])]⟩) ?_ ?_
 ·have h:=ho
  clear ho
  refine ww ?_
  refine condSh h (fun c17 h=>?_) (fun c17 h=>?_)
  ·refine ww ?_
   obtain⟨t18,ht18,h⟩:=bi h
   refine cN [] (F125_ok ht18) trivial (ww ?_)
   cases h
   exact eM [some 0,some 1] rfl
  refine ww ?_
  cases h
  exact eM [some 0,some 1] rfl
 rintro _ rfl
 clear ho
 refine ww ?_
 obtain⟨o19,ho,h⟩:=bi h
 refine cutS (fun s=>s=⟨[(2,.one (.c (.pt 0 0))),(3,.one (.c (.pt 1 0))),(5,.one (.c (dI o19)))],[some (.box [dI x0.Kind,dI x0.N,dS x0.S,dM (x0.List_.map eTValue),dM (x0.Fields.map eTField)]),some (.box [dI x1.Kind,dI x1.N,dS x1.S,dM (x1.List_.map eTValue),dM (x1.Fields.map eTField)])]⟩) ?_ ?_
 ·have h:=ho
  clear ho
  refine ww ?_
  refine bL (fun j s=>∃(o19_0:Int) (o19_1:Int),s=⟨[(2,.one (.c (.pt 0 0))),(3,.one (.c (.pt 1 0))),(5,.one (.c (dI o19_0))),(7,.one (.c (dI o19_1)))],[some (.box [dI x0.Kind,dI x0.N,dS x0.S,dM (x0.List_.map eTValue),dM (x0.Fields.map eTField)]),some (.box [dI x1.Kind,dI x1.N,dS x1.S,dM (x1.List_.map eTValue),dM (x1.Fields.map eTField)])]⟩∧F103_l19 rc119 x0 x1 j o19_0 o19_1=some o19) 1099511627776 [some 0,some 1] ⟨o16,0,rfl,h⟩ ?_
  rintro j _ ⟨o19_0,o19_1,rfl,h⟩
  cases j with
  |zero=>cases(show(none:Option _)=some _ from h)
  |succ j=>
   rw[F103_l19]at h
   refine ww ?_
   obtain⟨o20,ho,h⟩:=bi h
   refine cutS (fun s=>s=⟨[(2,.one (.c (.pt 0 0))),(3,.one (.c (.pt 1 0))),(5,.one (.c (dI o19_0))),(7,.one (.c (dI o19_1))),(106,.one (.c (dB o20)))],[some (.box [dI x0.Kind,dI x0.N,dS x0.S,dM (x0.List_.map eTValue),dM (x0.Fields.map eTField)]),some (.box [dI x1.Kind,dI x1.N,dS x1.S,dM (x1.List_.map eTValue),dM (x1.Fields.map eTField)])]⟩) ?_ ?_
   ·have h:=ho
    clear ho
    refine ww ?_
    refine guardSh h (fun g21 h=>?_) (fun g21 h=>?_)
    ·refine ww ?_
     refine guardSh h (fun g22 h=>?_) (fun g22 h=>?_)
     ·refine ww ?_
      cases h
      exact eM [some 0,some 1] rfl
     ·refine ww ?_
      cases h
      exact eM [some 0,some 1] rfl
    ·refine ww ?_
     cases h
     exact eM [some 0,some 1] rfl
   ·rintro _ rfl
    clear ho
    refine ww ?_
    refine condBh h (fun c23 h=>?_) (fun c23 h=>?_)
    ·refine ww ?_
     obtain⟨o24,ho,h⟩:=bi h
     refine cutS (fun s=>s=⟨[(2,.one (.c (.pt 0 0))),(3,.one (.c (.pt 1 0))),(5,.one (.c (dI o24))),(7,.one (.c (dI o19_1)))],[some (.box [dI x0.Kind,dI x0.N,dS x0.S,dM (x0.List_.map eTValue),dM (x0.Fields.map eTField)]),some (.box [dI x1.Kind,dI x1.N,dS x1.S,dM (x1.List_.map eTValue),dM (x1.Fields.map eTField)])]⟩) ?_ ?_
     ·have h:=ho
      clear ho
      refine ww ?_
      obtain⟨y25,hy25,h⟩:=bi h
      refine t_idxF (enc:=eTField) (xs:=x0.Fields) rfl rfl hy25 (by rw[eTField_u];rfl) (ww ?_)
      obtain⟨y26,hy26,h⟩:=bi h
      refine t_idxF (enc:=eTField) (xs:=x1.Fields) rfl rfl hy26 (by rw[eTField_u];rfl) (ww ?_)
      refine t_idxF (enc:=eTField) (xs:=x0.Fields) rfl rfl hy25 (by rw[eTField_u];rfl) (ww ?_)
      refine t_idxF (enc:=eTField) (xs:=x1.Fields) rfl rfl hy26 (by rw[eTField_u];rfl) (ww ?_)
      obtain⟨t27,ht27,h⟩:=bi h
      refine cN [] (F125_ok ht27) trivial (ww ?_)
      refine condSh h (fun c28 h=>?_) (fun c28 h=>?_)
      ·refine ww ?_
       refine t_idxF (enc:=eTField) (xs:=x0.Fields) rfl rfl hy25 (by rw[eTField_u];rfl) (ww ?_)
       refine t_idxF (enc:=eTField) (xs:=x1.Fields) rfl rfl hy26 (by rw[eTField_u];rfl) (ww ?_)
       obtain⟨t29,ht29,h⟩:=bi h
       refine cN [] (ih119 ht29) trivial (ww ?_)
       cases h
       exact eM [some 0,some 1] rfl
      ·refine ww ?_
       cases h
       exact eM [some 0,some 1] rfl
     ·rintro _ rfl
      clear ho
      refine ww ?_
      exact eL' j [some 0,some 1] ⟨o24,(IntKind.i64.wrap (o19_1+1)),rfl,h⟩ (Nat.lt_succ_self _)
    ·refine ww ?_
     cases h
     exact eM [some 0,some 1] rfl
 rintro _ rfl
 clear ho
 refine ww ?_
 refine condSh h (fun c30 h=>?_) (fun c30 h=>?_)
 ·refine ww ?_
  obtain⟨t31,ht31,h⟩:=bi h
  refine cN [] (F125_ok ht31) trivial (ww ?_)
  cases h
  exact eF []
 refine ww ?_
 cases h
 exact eF []
def F103k:Nat→TValue→TValue→Option (Int)
 |0=>fun _ _=>none
 |k+1=>F103 (F103k k)
theorem F103k_ok(k:Nat){x0:TValue}{x1:TValue}{r:Int}(h:F103k k x0 x1=some r):CallD Tryz.prog 103 [.agg [dI x0.Kind,dI x0.N,dS x0.S,dM (x0.List_.map eTValue),dM (x0.Fields.map eTField)],.agg [dI x1.Kind,dI x1.N,dS x1.S,dM (x1.List_.map eTValue),dM (x1.Fields.map eTField)]] [] (tupV [.c (dI r)]) []:=by
 induction k generalizing x0 x1 r with
 |zero=>cases(show(none:Option (Int))=some _ from h)
 |succ k ih=>exact F103_ok (fun h=>ih h) h
end Go.Proofs.YtondgcmdhkhkkaaGreat
