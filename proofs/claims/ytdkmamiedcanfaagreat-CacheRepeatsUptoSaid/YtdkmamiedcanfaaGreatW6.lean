/- Each Go function as a function over typed data, and its walk. -/
import Derived.Test.YtdkmamiedcanfaaGreatW0
import Derived.Test.YtdkmamiedcanfaaGreatW1
import Derived.Test.YtdkmamiedcanfaaGreatW2
import Derived.Test.YtdkmamiedcanfaaGreatW3
import Derived.Test.YtdkmamiedcanfaaGreatW4
namespace Go.Proofs.YtdkmamiedcanfaaGreat
open Go Go.Fw Go.Shelf
set_option maxRecDepth 100000
set_option maxHeartbeats 4000000
set_option linter.unusedSimpArgs false
set_option linter.unusedVariables false
def F162_l2(x0:(List Label)):List Label→Nat→Option ((Bool) ⊕ (Unit))
 |[],o2_0=>some (Sum.inr (()))
 |xo2::xs,o2_0=>(((F120 xo2.Key).bind fun t5=>(if(nb t5)=true then some true else(F121 xo2.Value).bind fun t7=>(if(nb t7)=true then some true else(if 0<(o2_0:Int)then(rdI x0 ((IntKind.i64.wrap (((o2_0:Int))-1)))).bind fun y10=>some (nb (Op.bytesLess y10.Key.toList xo2.Key.toList))else some false)))).bind fun o4=>(if o4=true then(some false).map Sum.inl else F162_l2 x0 xs (o2_0+1)))
def F162(x0:(List Label)):Option (Bool):=(if 16<(x0.length:Int)then some false else(((ck (0≤x0.length∧x0.length≤4294967290)).bind fun u12=>F162_l2 x0 x0 0:Option ((Bool) ⊕ (Unit))).bind fun o2=>match o2 with|Sum.inl f=>some f|Sum.inr po2=>some true))
def a162:AFn:=⟨47,[(.tmp 2)],
 (.seq (.reg [sq 2 (.mv (kB false))])
 (.seq (.seq (.reg [sq 4 (.mv (.t 0)),
sq 5 (.len (.t 4)),
sq 6 (.bin .gtr (.t 5) (kI 16))])
 (.cond (.t 6)
 (.seq (.reg [sq 2 (.mv (kB false))])
 .ret)
 .skip))
 (.seq (.seq (.reg [sq 3 (.mv (kI 0))])
 (.sem (.block 0 (.loop (.seq (.seq (.reg [sq 7 (.mv (.t 3)),
sq 8 (.mv (.t 0)),
sq 9 (.len (.t 8)),
sq 10 (.bin .lss (.t 7) (.t 9))])
 (.cond (.t 10)
 .skip
 (.exit 0)))
 (.seq (.block 1 (.seq (.sem (.regd [sq 13 (.mv (.t 0)),
sq 14 (.mv (.t 3)),
sd 15 (.indexA 2 (.t 13) (.t 14)) [0,1],
sd 16 (.fieldA 0 (.t 15)) [0,1,2],
sd 17 (.load none (.t 16)) [0,1,2,3],
zl 18 (.call 120 [(.t 17)]) [0,1,2,3,4] [],
sd 19 (.not (.t 18)) [0,1,2,3,4,5],
sd 20 (.mv (.t 19)) [0,1,2,3,4,5,6],
⟨(some 21),(some (20,false)),.mv (.t 0),[0,1,2,3,4,5,6,7],(.new [])⟩,
⟨(some 22),(some (20,false)),.mv (.t 3),[0,1,2,3,4,5,6,7],(.new [])⟩,
⟨(some 23),(some (20,false)),.indexA 2 (.t 21) (.t 22),[0,1,2,3,4,5,6,7,8,9],(.new [])⟩,
⟨(some 24),(some (20,false)),.fieldA 1 (.t 23),[0,1,2,3,4,5,6,7,8,9,10],(.new [])⟩,
⟨(some 25),(some (20,false)),.load none (.t 24),[0,1,2,3,4,5,6,7,8,9,10,11],(.new [])⟩,
⟨(some 26),(some (20,false)),.call 121 [(.t 25)],[0,1,2,3,4,5,6,7,8,9,10,11,12],(.lone [])⟩,
⟨(some 27),(some (20,false)),.not (.t 26),[0,1,2,3,4,5,6,7,8,9,10,11,12,13],(.new [])⟩,
zl 28 (.pick (.t 20) (kB true) (.t 27)) [0,1,2,3,4,5,6,7,8,9,10,11,12,13,14] [],
sd 29 (.mv (.t 28)) [0,1,2,3,4,5,6,7,8,9,10,11,12,13,14,15],
⟨(some 30),(some (29,false)),.mv (.t 3),[0,1,2,3,4,5,6,7,8,9,10,11,12,13,14,15,16],(.new [])⟩,
⟨(some 31),(some (29,false)),.bin .gtr (.t 30) (kI 0),[0,1,2,3,4,5,6,7,8,9,10,11,12,13,14,15,16,17],(.new [])⟩,
⟨(some 32),(some (29,false)),.mv (.t 31),[0,1,2,3,4,5,6,7,8,9,10,11,12,13,14,15,16,17,18],(.new [])⟩,
⟨(some 33),(some (32,true)),.mv (.t 0),[0,1,2,3,4,5,6,7,8,9,10,11,12,13,14,15,16,17,18,19],(.new [])⟩,
⟨(some 34),(some (32,true)),.mv (.t 3),[0,1,2,3,4,5,6,7,8,9,10,11,12,13,14,15,16,17,18,19],(.new [])⟩,
⟨(some 35),(some (32,true)),.bin .sub (.t 34) (kI 1),[0,1,2,3,4,5,6,7,8,9,10,11,12,13,14,15,16,17,18,19,21],(.new [])⟩,
⟨(some 36),(some (32,true)),.indexA 2 (.t 33) (.t 35),[0,1,2,3,4,5,6,7,8,9,10,11,12,13,14,15,16,17,18,19,20,21,22],(.new [])⟩,
⟨(some 37),(some (32,true)),.fieldA 0 (.t 36),[0,1,2,3,4,5,6,7,8,9,10,11,12,13,14,15,16,17,18,19,20,21,22,23],(.new [])⟩,
⟨(some 38),(some (32,true)),.load none (.t 37),[0,1,2,3,4,5,6,7,8,9,10,11,12,13,14,15,16,17,18,19,20,21,22,23,24],(.new [])⟩,
⟨(some 39),(some (32,true)),.mv (.t 0),[0,1,2,3,4,5,6,7,8,9,10,11,12,13,14,15,16,17,18,19],(.new [])⟩,
⟨(some 40),(some (32,true)),.mv (.t 3),[0,1,2,3,4,5,6,7,8,9,10,11,12,13,14,15,16,17,18,19],(.new [])⟩,
⟨(some 41),(some (32,true)),.indexA 2 (.t 39) (.t 40),[0,1,2,3,4,5,6,7,8,9,10,11,12,13,14,15,16,17,18,19,26,27],(.new [])⟩,
⟨(some 42),(some (32,true)),.fieldA 0 (.t 41),[0,1,2,3,4,5,6,7,8,9,10,11,12,13,14,15,16,17,18,19,26,27,28],(.new [])⟩,
⟨(some 43),(some (32,true)),.load none (.t 42),[0,1,2,3,4,5,6,7,8,9,10,11,12,13,14,15,16,17,18,19,26,27,28,29],(.new [])⟩,
⟨(some 44),(some (32,true)),.bin .geq (.t 38) (.t 43),[0,1,2,3,4,5,6,7,8,9,10,11,12,13,14,15,16,17,18,19,20,21,22,23,24,25,26,27,28,29,30],(.new [])⟩,
⟨(some 45),(some (29,false)),.pick (.t 32) (.t 44) (kB false),[0,1,2,3,4,5,6,7,8,9,10,11,12,13,14,15,16,17,18,19,20,21,22,23,24,25,26,27,28,29,30,31],(.lone [])⟩,
zl 46 (.pick (.t 29) (kB true) (.t 45)) [0,1,2,3,4,5,6,7,8,9,10,11,12,13,14,15,16,17,18,19,20,21,22,23,24,25,26,27,28,29,30,31,32] []]))
 (.cond (.t 46)
 (.seq (.reg [sq 2 (.mv (kB false))])
 .ret)
 .skip)))
 (.reg [sq 11 (.mv (.t 3)),
sq 12 (.bin .add (.t 11) (kI 1)),
sq 3 (.mv (.t 12))])))))))
 (.seq (.reg [sq 2 (.mv (kB true))])
 .ret))))⟩
theorem F162_ok{x0 r}(h:F162 x0=some r):CallD Tryz.prog 162 [.c (dM (x0.map eLabel))] [] (tupV [.c (dB r)]) []:=by
 rw[F162]at h
 refine zc a162 (by kernel_rfl) rfl (ww ?_)
 refine condSh h (fun c1 h=>?_) (fun c1 h=>?_)
 ·refine ww ?_
  cases h
  exact eF []
 refine ww ?_
 obtain⟨o2,ho,h⟩:=bi h
 refine cutS (fun s=>∃po2,o2=Sum.inr po2∧s=⟨[],[]⟩) ?_ ?_
 ·have h0o2:=h
  have h:=ho
  clear ho
  obtain⟨_,hk,h⟩:=bi h
  have hk:=ck_some hk
  refine ww ?_
  refine bL (fun j s=>∃(o2_0:Nat),(o2_0≤x0.length∧j=x0.length-o2_0)∧s=⟨[(0,.one (.c (dM (x0.map eLabel)))),(3,.one (.c (dI ((o2_0:Int)))))],[]⟩∧F162_l2 x0 (x0.drop o2_0) o2_0=some o2) (x0.length-0) [] ⟨0,⟨hk.1,rfl⟩,rfl,h⟩ ?_
  rintro _ _ ⟨o2_0,⟨hi,rfl⟩,rfl,h⟩
  refine ww ?_
  refine condS (fun c3=>?_) (fun c3=>?_)
  ·obtain⟨xo2,hxo2,hd⟩:=countY (show(o2_0:Int)<(x0.length:Int)from c3)
   rw[hd,F162_l2]at h
   refine ww ?_
   obtain⟨o4,ho,h⟩:=bi h
   refine cutS (fun s=>s=⟨[(0,.one (.c (dM (x0.map eLabel)))),(3,.one (.c (dI ((o2_0:Int))))),(46,.one (.c (dB o4)))],[]⟩) ?_ ?_
   ·have h:=ho
    clear ho
    refine ww ?_
    refine t_idxF (enc:=eLabel) (xs:=x0) rfl rfl hxo2 rfl (ww ?_)
    obtain⟨t5,ht5,h⟩:=bi h
    refine cN [] (F120_ok ht5) trivial (ww ?_)
    refine guardDBh h (fun g6 h=>?_) (fun g6 h=>?_)
    ·refine ww ?_
     cases h
     exact eM [] rfl
    refine ww ?_
    refine t_idxF (enc:=eLabel) (xs:=x0) rfl rfl hxo2 rfl (ww ?_)
    obtain⟨t7,ht7,h⟩:=bi h
    refine cN [] (F121_ok ht7) trivial (ww ?_)
    refine guardDBh h (fun g8 h=>?_) (fun g8 h=>?_)
    ·refine ww ?_
     cases h
     exact eM [] rfl
    refine ww ?_
    refine guardDh h (fun g9 h=>?_) (fun g9 h=>?_)
    ·refine ww ?_
     obtain⟨y10,hy10,h⟩:=bi h
     refine t_idxF (enc:=eLabel) (xs:=x0) rfl rfl hy10 rfl (ww ?_)
     refine t_idxF (enc:=eLabel) (xs:=x0) rfl rfl hxo2 rfl (ww ?_)
     cases h
     exact eM [] rfl
    refine ww ?_
    cases h
    exact eM [] rfl
   rintro _ rfl
   clear ho
   refine ww ?_
   refine condBh h (fun c11 h=>?_) (fun c11 h=>?_)
   ·refine ww ?_
    obtain⟨fh0o2,hfh0o2,rfl⟩:=Option.map_eq_some_iff.1 h
    have h:=hfh0o2.trans h0o2
    cases h
    exact eF []
   refine ww ?_
   rw[wrapN (by omega)]
   exact eL' (x0.length-(o2_0+1)) [] ⟨o2_0+1,⟨by omega,rfl⟩,rfl,h⟩ (by omega)
  rw[countN (show¬((o2_0:Int)<(x0.length:Int))from c3),F162_l2]at h
  refine ww ?_
  cases h
  exact eM [] ⟨_,rfl,rfl⟩
 rintro _ ⟨po2,rfl,rfl⟩
 clear ho
 dsimp only at h
 refine ww ?_
 cases h
 exact eF []
def F166_l13(rc25:TValue→Int→Option (Bool))(x1:Int):List TValue→Nat→Option ((Bool) ⊕ (Unit))
 |[],o13_0=>some (Sum.inr (()))
 |xo13::xs,o13_0=>(rc25 xo13 ((IntKind.i64.wrap (x1-1)))).bind fun t15=>(if(nb t15)=true then(some false).map Sum.inl else F166_l13 rc25 x1 xs (o13_0+1))
def F166_l18(rc25:TValue→Int→Option (Bool))(x0:TValue)(x1:Int):List TField→Nat→Option ((Bool) ⊕ (Unit))
 |[],o18_0=>some (Sum.inr (()))
 |xo18::xs,o18_0=>(((F194 xo18.Name).bind fun t21=>(if(nb t21)=true then some true else(if 0<(o18_0:Int)then(rdI x0.Fields ((IntKind.i64.wrap (((o18_0:Int))-1)))).bind fun y24=>(if((Op.bytesLess xo18.Name.toList y24.Name.toList||decide (xo18.Name=y24.Name)))=true then some true else(rc25 xo18.V ((IntKind.i64.wrap (x1-1)))).bind fun t26=>some (nb t26))else(rc25 xo18.V ((IntKind.i64.wrap (x1-1)))).bind fun t27=>some (nb t27)))).bind fun o20=>(if o20=true then(some false).map Sum.inl else F166_l18 rc25 x0 x1 xs (o18_0+1)))
def F166(rc25:TValue→Int→Option (Bool))(x0:TValue)(x1:Int):Option (Bool):=(((if x1=0 then some true else(F193 x0).bind fun t3=>(if(nb t3)=true then some true else(if 64<(x0.List_.length:Int)then some true else some (decide (64<(x0.Fields.length:Int))))))).bind fun o1=>(if o1=true then some false else(((if¬(x0.Kind=4)then(if 0<(x0.List_.length:Int)then some true else(if¬(x0.Kind=5)then some (decide (0<(x0.Fields.length:Int)))else some false))else(if¬(x0.Kind=5)then some (decide (0<(x0.Fields.length:Int)))else some false))).bind fun o7=>(if o7=true then some false else(((ck (0≤x0.List_.length∧x0.List_.length≤4294967290)).bind fun u17=>F166_l13 rc25 x1 x0.List_ 0:Option ((Bool) ⊕ (Unit))).bind fun o13=>match o13 with|Sum.inl f=>some f|Sum.inr po13=>(((ck (0≤x0.Fields.length∧x0.Fields.length≤4294967290)).bind fun u29=>F166_l18 rc25 x0 x1 x0.Fields 0:Option ((Bool) ⊕ (Unit))).bind fun o18=>match o18 with|Sum.inl f=>some f|Sum.inr po18=>some true))))))
def a166:AFn:=⟨109,[(.tmp 4)],
 (.seq (.reg [sq 2 (.box (.t 0)),
sq 4 (.mv (kB false))])
 (.seq (.seq (.sem (.reg [sq 7 (.mv (.t 1)),
sq 8 (.bin .eql (.t 7) (kI 0)),
sq 9 (.mv (.t 8)),
zg 10 9 false (.load (some 5) (.t 2)),
zg 11 9 false (.call 193 [(.t 10)]),
zg 12 9 false (.not (.t 11)),
sq 13 (.pick (.t 9) (kB true) (.t 12)),
sq 14 (.mv (.t 13)),
zg 15 14 false (.fieldA 3 (.t 2)),
zg 16 14 false (.load none (.t 15)),
zg 17 14 false (.len (.t 16)),
zg 18 14 false (.bin .gtr (.t 17) (kI 64)),
sq 19 (.pick (.t 14) (kB true) (.t 18)),
sq 20 (.mv (.t 19)),
zg 21 20 false (.fieldA 4 (.t 2)),
zg 22 20 false (.load none (.t 21)),
zg 23 20 false (.len (.t 22)),
zg 24 20 false (.bin .gtr (.t 23) (kI 64)),
sq 25 (.pick (.t 20) (kB true) (.t 24))]))
 (.cond (.t 25)
 (.seq (.reg [sq 4 (.mv (kB false))])
 .ret)
 .skip))
 (.seq (.seq (.sem (.reg [sq 26 (.fieldA 0 (.t 2)),
sq 27 (.load none (.t 26)),
sq 28 (.bin .neq (.t 27) (kI 4)),
sq 29 (.mv (.t 28)),
zg 30 29 true (.fieldA 3 (.t 2)),
zg 31 29 true (.load none (.t 30)),
zg 32 29 true (.len (.t 31)),
zg 33 29 true (.bin .gtr (.t 32) (kI 0)),
sq 34 (.pick (.t 29) (.t 33) (kB false)),
sq 35 (.mv (.t 34)),
zg 36 35 false (.fieldA 0 (.t 2)),
zg 37 35 false (.load none (.t 36)),
zg 38 35 false (.bin .neq (.t 37) (kI 5)),
zg 39 35 false (.mv (.t 38)),
zg 40 39 true (.fieldA 4 (.t 2)),
zg 41 39 true (.load none (.t 40)),
zg 42 39 true (.len (.t 41)),
zg 43 39 true (.bin .gtr (.t 42) (kI 0)),
zg 44 35 false (.pick (.t 39) (.t 43) (kB false)),
sq 45 (.pick (.t 35) (kB true) (.t 44))]))
 (.cond (.t 45)
 (.seq (.reg [sq 4 (.mv (kB false))])
 .ret)
 .skip))
 (.seq (.seq (.reg [sq 5 (.mv (kI 0))])
 (.sem (.block 0 (.loop (.seq (.seq (.reg [sq 46 (.mv (.t 5)),
sq 47 (.fieldA 3 (.t 2)),
sq 48 (.load none (.t 47)),
sq 49 (.len (.t 48)),
sq 50 (.bin .lss (.t 46) (.t 49))])
 (.cond (.t 50)
 .skip
 (.exit 0)))
 (.seq (.block 1 (.seq (.reg [sq 53 (.fieldA 3 (.t 2)),
sq 54 (.load none (.t 53)),
sq 55 (.mv (.t 5)),
sq 56 (.indexA 5 (.t 54) (.t 55)),
sq 57 (.load (some 5) (.t 56)),
sq 58 (.mv (.t 1)),
sq 59 (.bin .sub (.t 58) (kI 1)),
sq 60 (.call 166 [(.t 57),(.t 59)]),
sq 61 (.not (.t 60))])
 (.cond (.t 61)
 (.seq (.reg [sq 4 (.mv (kB false))])
 .ret)
 .skip)))
 (.reg [sq 51 (.mv (.t 5)),
sq 52 (.bin .add (.t 51) (kI 1)),
sq 5 (.mv (.t 52))])))))))
 (.seq (.seq (.reg [sq 6 (.mv (kI 0))])
 (.sem (.block 2 (.loop (.seq (.seq (.reg [sq 62 (.mv (.t 6)),
sq 63 (.fieldA 4 (.t 2)),
sq 64 (.load none (.t 63)),
sq 65 (.len (.t 64)),
sq 66 (.bin .lss (.t 62) (.t 65))])
 (.cond (.t 66)
 .skip
 (.exit 2)))
 (.seq (.block 3 (.seq (.sem (.regd [sq 69 (.fieldA 4 (.t 2)),
sd 70 (.load none (.t 69)) [0],
sq 71 (.mv (.t 6)),
sd 72 (.indexA 6 (.t 70) (.t 71)) [0,1,2],
sd 73 (.fieldA 0 (.t 72)) [0,1,2,3],
sd 74 (.load none (.t 73)) [0,1,2,3,4],
zl 75 (.call 194 [(.t 74)]) [0,1,2,3,4,5] [],
sd 76 (.not (.t 75)) [0,1,2,3,4,5,6],
sd 77 (.mv (.t 76)) [0,1,2,3,4,5,6,7],
⟨(some 78),(some (77,false)),.mv (.t 6),[0,1,2,3,4,5,6,7,8],(.new [])⟩,
⟨(some 79),(some (77,false)),.bin .gtr (.t 78) (kI 0),[0,1,2,3,4,5,6,7,8,9],(.new [])⟩,
⟨(some 80),(some (77,false)),.mv (.t 79),[0,1,2,3,4,5,6,7,8,9,10],(.new [])⟩,
⟨(some 81),(some (80,true)),.fieldA 4 (.t 2),[0,1,2,3,4,5,6,7,8,9,10,11],(.new [])⟩,
⟨(some 82),(some (80,true)),.load none (.t 81),[0,1,2,3,4,5,6,7,8,9,10,11,12],(.new [])⟩,
⟨(some 83),(some (80,true)),.mv (.t 6),[0,1,2,3,4,5,6,7,8,9,10,11],(.new [])⟩,
⟨(some 84),(some (80,true)),.indexA 6 (.t 82) (.t 83),[0,1,2,3,4,5,6,7,8,9,10,11,12,13,14],(.new [])⟩,
⟨(some 85),(some (80,true)),.fieldA 0 (.t 84),[0,1,2,3,4,5,6,7,8,9,10,11,12,13,14,15],(.new [])⟩,
⟨(some 86),(some (80,true)),.load none (.t 85),[0,1,2,3,4,5,6,7,8,9,10,11,12,13,14,15,16],(.new [])⟩,
⟨(some 87),(some (80,true)),.fieldA 4 (.t 2),[0,1,2,3,4,5,6,7,8,9,10,11],(.new [])⟩,
⟨(some 88),(some (80,true)),.load none (.t 87),[0,1,2,3,4,5,6,7,8,9,10,11,18],(.new [])⟩,
⟨(some 89),(some (80,true)),.mv (.t 6),[0,1,2,3,4,5,6,7,8,9,10,11],(.new [])⟩,
⟨(some 90),(some (80,true)),.bin .sub (.t 89) (kI 1),[0,1,2,3,4,5,6,7,8,9,10,11,20],(.new [])⟩,
⟨(some 91),(some (80,true)),.indexA 6 (.t 88) (.t 90),[0,1,2,3,4,5,6,7,8,9,10,11,18,19,20,21],(.new [])⟩,
⟨(some 92),(some (80,true)),.fieldA 0 (.t 91),[0,1,2,3,4,5,6,7,8,9,10,11,18,19,20,21,22],(.new [])⟩,
⟨(some 93),(some (80,true)),.load none (.t 92),[0,1,2,3,4,5,6,7,8,9,10,11,18,19,20,21,22,23],(.new [])⟩,
⟨(some 94),(some (80,true)),.bin .leq (.t 86) (.t 93),[0,1,2,3,4,5,6,7,8,9,10,11,12,13,14,15,16,17,18,19,20,21,22,23,24],(.new [])⟩,
⟨(some 95),(some (77,false)),.pick (.t 80) (.t 94) (kB false),[0,1,2,3,4,5,6,7,8,9,10,11,12,13,14,15,16,17,18,19,20,21,22,23,24,25],(.lone [])⟩,
zl 96 (.pick (.t 77) (kB true) (.t 95)) [0,1,2,3,4,5,6,7,8,9,10,11,12,13,14,15,16,17,18,19,20,21,22,23,24,25,26] [],
sd 97 (.mv (.t 96)) [0,1,2,3,4,5,6,7,8,9,10,11,12,13,14,15,16,17,18,19,20,21,22,23,24,25,26,27],
⟨(some 98),(some (97,false)),.fieldA 4 (.t 2),[0,1,2,3,4,5,6,7,8,9,10,11,12,13,14,15,16,17,18,19,20,21,22,23,24,25,26,27,28],(.new [])⟩,
⟨(some 99),(some (97,false)),.load none (.t 98),[0,1,2,3,4,5,6,7,8,9,10,11,12,13,14,15,16,17,18,19,20,21,22,23,24,25,26,27,28,29],(.new [])⟩,
⟨(some 100),(some (97,false)),.mv (.t 6),[0,1,2,3,4,5,6,7,8,9,10,11,12,13,14,15,16,17,18,19,20,21,22,23,24,25,26,27,28],(.new [])⟩,
⟨(some 101),(some (97,false)),.indexA 6 (.t 99) (.t 100),[0,1,2,3,4,5,6,7,8,9,10,11,12,13,14,15,16,17,18,19,20,21,22,23,24,25,26,27,28,29,30,31],(.new [])⟩,
⟨(some 102),(some (97,false)),.fieldA 1 (.t 101),[0,1,2,3,4,5,6,7,8,9,10,11,12,13,14,15,16,17,18,19,20,21,22,23,24,25,26,27,28,29,30,31,32],(.new [])⟩,
⟨(some 103),(some (97,false)),.load (some 5) (.t 102),[0,1,2,3,4,5,6,7,8,9,10,11,12,13,14,15,16,17,18,19,20,21,22,23,24,25,26,27,28,29,30,31,32,33],(.new [])⟩,
⟨(some 104),(some (97,false)),.mv (.t 1),[0,1,2,3,4,5,6,7,8,9,10,11,12,13,14,15,16,17,18,19,20,21,22,23,24,25,26,27,28],(.new [])⟩,
⟨(some 105),(some (97,false)),.bin .sub (.t 104) (kI 1),[0,1,2,3,4,5,6,7,8,9,10,11,12,13,14,15,16,17,18,19,20,21,22,23,24,25,26,27,28,35],(.new [])⟩,
⟨(some 106),(some (97,false)),.call 166 [(.t 103),(.t 105)],[0,1,2,3,4,5,6,7,8,9,10,11,12,13,14,15,16,17,18,19,20,21,22,23,24,25,26,27,28,29,30,31,32,33,34,35,36],(.lone [])⟩,
⟨(some 107),(some (97,false)),.not (.t 106),[0,1,2,3,4,5,6,7,8,9,10,11,12,13,14,15,16,17,18,19,20,21,22,23,24,25,26,27,28,29,30,31,32,33,34,35,36,37],(.new [])⟩,
zl 108 (.pick (.t 97) (kB true) (.t 107)) [0,1,2,3,4,5,6,7,8,9,10,11,12,13,14,15,16,17,18,19,20,21,22,23,24,25,26,27,28,29,30,31,32,33,34,35,36,37,38] []]))
 (.cond (.t 108)
 (.seq (.reg [sq 4 (.mv (kB false))])
 .ret)
 .skip)))
 (.reg [sq 67 (.mv (.t 6)),
sq 68 (.bin .add (.t 67) (kI 1)),
sq 6 (.mv (.t 68))])))))))
 (.seq (.reg [sq 4 (.mv (kB true))])
 .ret))))))⟩
theorem F166_ok{rc25:TValue→Int→Option (Bool)}(ih25:∀{x0:TValue} {x1:Int} {r:Bool} (h:rc25 x0 x1=some r),CallD Tryz.prog 166 [.agg [dI x0.Kind,dI x0.N,dS x0.S,dM (x0.List_.map eTValue),dM (x0.Fields.map eTField)],.c (dI x1)] [] (tupV [.c (dB r)]) []){x0:TValue}{x1:Int}{r:Bool}(h:F166 rc25 x0 x1=some r):CallD Tryz.prog 166 [.agg [dI x0.Kind,dI x0.N,dS x0.S,dM (x0.List_.map eTValue),dM (x0.Fields.map eTField)],.c (dI x1)] [] (tupV [.c (dB r)]) []:=by
 rw[F166]at h
 refine zc a166 (by kernel_rfl) rfl (ww ?_)
 obtain⟨o1,ho,h⟩:=bi h
 refine cutS (fun s=>s=⟨[(1,.one (.c (dI x1))),(2,.one (.c (.pt 0 0))),(25,.one (.c (dB o1)))],[some (.box [dI x0.Kind,dI x0.N,dS x0.S,dM (x0.List_.map eTValue),dM (x0.Fields.map eTField)])]⟩) ?_ ?_
 ·have h:=ho
  clear ho
  refine ww ?_
  refine guardSh h (fun g2 h=>?_) (fun g2 h=>?_)
  ·refine ww ?_
   cases h
   exact eM [some 0] rfl
  refine ww ?_
  obtain⟨t3,ht3,h⟩:=bi h
  refine cN [] (F193_ok ht3) trivial (ww ?_)
  refine guardSBh h (fun g4 h=>?_) (fun g4 h=>?_)
  ·refine ww ?_
   cases h
   exact eM [some 0] rfl
  refine ww ?_
  refine guardSh h (fun g5 h=>?_) (fun g5 h=>?_)
  ·refine ww ?_
   cases h
   exact eM [some 0] rfl
  refine ww ?_
  cases h
  exact eM [some 0] rfl
 rintro _ rfl
 clear ho
 refine ww ?_
 refine condBh h (fun c6 h=>?_) (fun c6 h=>?_)
 ·refine ww ?_
  cases h
  exact eF []
 refine ww ?_
 obtain⟨o7,ho,h⟩:=bi h
 refine cutS (fun s=>s=⟨[(1,.one (.c (dI x1))),(2,.one (.c (.pt 0 0))),(45,.one (.c (dB o7)))],[some (.box [dI x0.Kind,dI x0.N,dS x0.S,dM (x0.List_.map eTValue),dM (x0.Fields.map eTField)])]⟩) ?_ ?_
 ·have h:=ho
  clear ho
  refine ww ?_
  refine guardSh h (fun g8 h=>?_) (fun g8 h=>?_)
  ·refine ww ?_
   refine guardSh h (fun g9 h=>?_) (fun g9 h=>?_)
   ·refine ww ?_
    cases h
    exact eM [some 0] rfl
   refine ww ?_
   refine guardSh h (fun g10 h=>?_) (fun g10 h=>?_)
   ·refine ww ?_
    cases h
    exact eM [some 0] rfl
   refine ww ?_
   cases h
   exact eM [some 0] rfl
  refine ww ?_
  refine guardSh h (fun g11 h=>?_) (fun g11 h=>?_)
  ·refine ww ?_
   cases h
   exact eM [some 0] rfl
  refine ww ?_
  cases h
  exact eM [some 0] rfl
 rintro _ rfl
 clear ho
 refine ww ?_
 refine condBh h (fun c12 h=>?_) (fun c12 h=>?_)
 ·refine ww ?_
  cases h
  exact eF []
 refine ww ?_
 obtain⟨o13,ho,h⟩:=bi h
 refine cutS (fun s=>∃po13,o13=Sum.inr po13∧s=⟨[(1,.one (.c (dI x1))),(2,.one (.c (.pt 0 0)))],[some (.box [dI x0.Kind,dI x0.N,dS x0.S,dM (x0.List_.map eTValue),dM (x0.Fields.map eTField)])]⟩) ?_ ?_
 ·have h0o13:=h
  have h:=ho
  clear ho
  obtain⟨_,hk,h⟩:=bi h
  have hk:=ck_some hk
  refine ww ?_
  refine bL (fun j s=>∃(o13_0:Nat),(o13_0≤x0.List_.length∧j=x0.List_.length-o13_0)∧s=⟨[(1,.one (.c (dI x1))),(2,.one (.c (.pt 0 0))),(5,.one (.c (dI ((o13_0:Int)))))],[some (.box [dI x0.Kind,dI x0.N,dS x0.S,dM (x0.List_.map eTValue),dM (x0.Fields.map eTField)])]⟩∧F166_l13 rc25 x1 (x0.List_.drop o13_0) o13_0=some o13) (x0.List_.length-0) [some 0] ⟨0,⟨hk.1,rfl⟩,rfl,h⟩ ?_
  rintro _ _ ⟨o13_0,⟨hi,rfl⟩,rfl,h⟩
  refine ww ?_
  refine condS (fun c14=>?_) (fun c14=>?_)
  ·obtain⟨xo13,hxo13,hd⟩:=countY (show(o13_0:Int)<(x0.List_.length:Int)from c14)
   rw[hd,F166_l13]at h
   refine ww ?_
   refine t_idxF (enc:=eTValue) (xs:=x0.List_) rfl rfl hxo13 (by rw[eTValue_u];rfl) (ww ?_)
   obtain⟨t15,ht15,h⟩:=bi h
   refine cN [] (ih25 ht15) trivial (ww ?_)
   refine condBh h (fun c16 h=>?_) (fun c16 h=>?_)
   ·refine ww ?_
    obtain⟨fh0o13,hfh0o13,rfl⟩:=Option.map_eq_some_iff.1 h
    have h:=hfh0o13.trans h0o13
    cases h
    exact eF []
   refine ww ?_
   rw[wrapN (by omega)]
   exact eL' (x0.List_.length-(o13_0+1)) [some 0] ⟨o13_0+1,⟨by omega,rfl⟩,rfl,h⟩ (by omega)
  rw[countN (show¬((o13_0:Int)<(x0.List_.length:Int))from c14),F166_l13]at h
  refine ww ?_
  cases h
  exact eM [some 0] ⟨_,rfl,rfl⟩
 rintro _ ⟨po13,rfl,rfl⟩
 clear ho
 dsimp only at h
 refine ww ?_
 obtain⟨o18,ho,h⟩:=bi h
 refine cutS (fun s=>∃po18,o18=Sum.inr po18∧s=⟨[],[]⟩) ?_ ?_
 ·have h0o18:=h
  have h:=ho
  clear ho
  obtain⟨_,hk,h⟩:=bi h
  have hk:=ck_some hk
  refine ww ?_
  refine bL (fun j s=>∃(o18_0:Nat),(o18_0≤x0.Fields.length∧j=x0.Fields.length-o18_0)∧s=⟨[(1,.one (.c (dI x1))),(2,.one (.c (.pt 0 0))),(6,.one (.c (dI ((o18_0:Int)))))],[some (.box [dI x0.Kind,dI x0.N,dS x0.S,dM (x0.List_.map eTValue),dM (x0.Fields.map eTField)])]⟩∧F166_l18 rc25 x0 x1 (x0.Fields.drop o18_0) o18_0=some o18) (x0.Fields.length-0) [some 0] ⟨0,⟨hk.1,rfl⟩,rfl,h⟩ ?_
  rintro _ _ ⟨o18_0,⟨hi,rfl⟩,rfl,h⟩
  refine ww ?_
  refine condS (fun c19=>?_) (fun c19=>?_)
  ·obtain⟨xo18,hxo18,hd⟩:=countY (show(o18_0:Int)<(x0.Fields.length:Int)from c19)
   rw[hd,F166_l18]at h
   refine ww ?_
   obtain⟨o20,ho,h⟩:=bi h
   refine cutS (fun s=>s=⟨[(1,.one (.c (dI x1))),(2,.one (.c (.pt 0 0))),(6,.one (.c (dI ((o18_0:Int))))),(108,.one (.c (dB o20)))],[some (.box [dI x0.Kind,dI x0.N,dS x0.S,dM (x0.List_.map eTValue),dM (x0.Fields.map eTField)])]⟩) ?_ ?_
   ·have h:=ho
    clear ho
    refine ww ?_
    refine t_idxF (enc:=eTField) (xs:=x0.Fields) rfl rfl hxo18 (by rw[eTField_u];rfl) (ww ?_)
    obtain⟨t21,ht21,h⟩:=bi h
    refine cN [] (F194_ok ht21) trivial (ww ?_)
    refine guardDBh h (fun g22 h=>?_) (fun g22 h=>?_)
    ·refine ww ?_
     cases h
     exact eM [some 0] rfl
    refine ww ?_
    refine guardDh h (fun g23 h=>?_) (fun g23 h=>?_)
    ·refine ww ?_
     refine t_idxF (enc:=eTField) (xs:=x0.Fields) rfl rfl hxo18 (by rw[eTField_u];rfl) (ww ?_)
     obtain⟨y24,hy24,h⟩:=bi h
     refine t_idxF (enc:=eTField) (xs:=x0.Fields) rfl rfl hy24 (by rw[eTField_u];rfl) (ww ?_)
     refine guardDBh h (fun g25 h=>?_) (fun g25 h=>?_)
     ·refine ww ?_
      cases h
      exact eM [some 0] rfl
     refine ww ?_
     refine t_idxF (enc:=eTField) (xs:=x0.Fields) rfl rfl hxo18 (by rw[eTField_u];rfl) (ww ?_)
     obtain⟨t26,ht26,h⟩:=bi h
     refine cN [] (ih25 ht26) trivial (ww ?_)
     cases h
     exact eM [some 0] rfl
    refine ww ?_
    refine t_idxF (enc:=eTField) (xs:=x0.Fields) rfl rfl hxo18 (by rw[eTField_u];rfl) (ww ?_)
    obtain⟨t27,ht27,h⟩:=bi h
    refine cN [] (ih25 ht27) trivial (ww ?_)
    cases h
    exact eM [some 0] rfl
   rintro _ rfl
   clear ho
   refine ww ?_
   refine condBh h (fun c28 h=>?_) (fun c28 h=>?_)
   ·refine ww ?_
    obtain⟨fh0o18,hfh0o18,rfl⟩:=Option.map_eq_some_iff.1 h
    have h:=hfh0o18.trans h0o18
    cases h
    exact eF []
   refine ww ?_
   rw[wrapN (by omega)]
   exact eL' (x0.Fields.length-(o18_0+1)) [some 0] ⟨o18_0+1,⟨by omega,rfl⟩,rfl,h⟩ (by omega)
  rw[countN (show¬((o18_0:Int)<(x0.Fields.length:Int))from c19),F166_l18]at h
  refine ww ?_
  cases h
  exact eM [] ⟨_,rfl,rfl⟩
 rintro _ ⟨po18,rfl,rfl⟩
 clear ho
 dsimp only at h
 refine ww ?_
 cases h
 exact eF []
def F166k:Nat→TValue→Int→Option (Bool)
 |0=>fun _ _=>none
 |k+1=>F166 (F166k k)
theorem F166k_ok(k:Nat){x0:TValue}{x1:Int}{r:Bool}(h:F166k k x0 x1=some r):CallD Tryz.prog 166 [.agg [dI x0.Kind,dI x0.N,dS x0.S,dM (x0.List_.map eTValue),dM (x0.Fields.map eTField)],.c (dI x1)] [] (tupV [.c (dB r)]) []:=by
 induction k generalizing x0 x1 r with
 |zero=>cases(show(none:Option (Bool))=some _ from h)
 |succ k ih=>exact F166_ok (fun h=>ih h) h
def F17(x0:Filter):Option ((List Requirement)):=(F34 x0).bind fun t1=>some t1
def a17:AFn:=⟨6,[(.cell 2 (some 6))],
 (.seq (.reg [sq 1 (.box (.t 0)),
sq 2 (.zbox [dS ⟨#[]⟩,dS ⟨#[]⟩,dN,dI 0,dB false,dN])])
 (.seq (.reg [sq 3 (.load (some 3) (.t 1)),
sq 4 (.call 34 [(.t 3)]),
sq 5 (.build [dS ⟨#[]⟩,dS ⟨#[]⟩,dN,dI 0,dB false,dN] [(0,3,(.t 4))]),
su (.store 6 (.t 2) (.t 5))])
 .ret))⟩
theorem F17_ok{x0 r}(h:F17 x0=some r):CallD Tryz.prog 17 [.agg [dS x0.Kind,dS x0.Namespace,dM (x0.Selector.map eRequirement)]] [] (tupV [.agg [dS x0.Kind,dS x0.Namespace,.own 0 0 0 (r.length) none,dI 0,dB false,dM (([]:List Object).map eObject)]]) [some (.arr 0 3 (r.map eRequirement))]:=by
 rw[F17]at h
 refine zc a17 (by kernel_rfl) rfl (ww ?_)
 obtain⟨t1,ht1,h⟩:=bi h
 refine cN [] (F34_ok ht1) trivial (ww ?_)
 cases h
 exact eF [some 2]
def F37_l5:List Manager→Nat→(List Manager)→Option ((List Manager))
 |[],o5_1,o5_0=>some o5_0
 |xo5::xs,o5_1,o5_0=>(rdI o5_0 ((o5_1:Int))).bind fun y7=>(cloneI y7.Fields).bind fun t8=>(rdI o5_0 ((o5_1:Int))).bind fun y9=>F37_l5 xs (o5_1+1) ((o5_0.set ((o5_1:Int)).toNat ((⟨y9.Name,t8⟩:Manager))))
def F37(x0:Object):Option ((List Label)×(List Owner)×(List ByteArray)×(List Manager)×(List TValue)×(List TField)×(List TValue)×(List TField)):=(cloneI x0.Meta.Labels).bind fun t1=>(cloneI x0.Meta.Owners).bind fun t2=>(cloneI x0.Meta.Finalizers).bind fun t3=>(cloneI x0.Meta.Managers).bind fun t4=>(((ck (0≤t4.length∧t4.length≤4294967290)).bind fun u10=>F37_l5 t4 0 t4).bind fun o5=>(F68k 1099511627776 x0.Spec).bind fun t11=>(F68k 1099511627776 x0.Status).bind fun t12=>some ((t1,t2,t3,o5,t11.1,t11.2,t12.1,t12.2)))
def a37:AFn:=⟨72,[(.cell 2 (some 23))],
 (.seq (.reg [sq 1 (.box (.t 0)),
sq 2 (.zbox [dS ⟨#[]⟩,dS ⟨#[]⟩,dS ⟨#[]⟩,dI 0,dI 0,dI 0,dI 0,dB false,dI 0,dN,dN,dN,dN,dI 0,dI 0,dS ⟨#[]⟩,dN,dN,dI 0,dI 0,dS ⟨#[]⟩,dN,dN])])
 (.seq (.reg [sq 5 (.fieldA 0 (.t 1)),
sq 3 (.mv (.t 5))])
 (.seq (.regd [sq 6 (.mv (.t 3)),
sq 7 (.mv (.t 3)),
sq 8 (.mv (.t 3)),
sq 9 (.mv (.t 3)),
sq 10 (.mv (.t 3)),
sd 11 (.fieldA 0 (.t 10)) [4],
sd 12 (.fieldA 9 (.t 11)) [4,5],
sd 13 (.load none (.t 12)) [4,5,6],
zn 14 (.call 65 [(.t 13)]) [4,5,6,7] [4,5,6,7],
sq 15 (.mv (.t 3)),
sd 16 (.fieldA 0 (.t 15)) [9],
sd 17 (.fieldA 10 (.t 16)) [9,10],
sd 18 (.load none (.t 17)) [9,10,11],
zn 19 (.call 66 [(.t 18)]) [4,5,6,7,8,9,10,11,12] [4,5,6,7,8,9,10,11,12],
sq 20 (.mv (.t 3)),
sd 21 (.fieldA 0 (.t 20)) [14],
sd 22 (.fieldA 11 (.t 21)) [14,15],
sd 23 (.load none (.t 22)) [14,15,16],
zn 24 (.call 61 [(.t 23)]) [4,5,6,7,8,9,10,11,12,13,14,15,16,17] [4,5,6,7,8,9,10,11,12,13,14,15,16,17],
sq 25 (.mv (.t 3)),
sd 26 (.fieldA 0 (.t 25)) [19],
sd 27 (.fieldA 12 (.t 26)) [19,20],
sd 28 (.load none (.t 27)) [19,20,21],
zl 29 (.call 67 [(.t 28)]) [4,5,6,7,8,9,10,11,12,13,14,15,16,17,18,19,20,21,22] [],
sd 30 (.fieldA 0 (.t 6)) [0,4,5,6,7,8,9,10,11,12,13,14,15,16,17,18,19,20,21,22,23],
sd 31 (.fieldA 9 (.t 30)) [0,4,5,6,7,8,9,10,11,12,13,14,15,16,17,18,19,20,21,22,23,24],
⟨none,none,.store 1 (.t 31) (.t 14),[0,4,5,6,7,8,9,10,11,12,13,14,15,16,17,18,19,20,21,22,23,24,25],(.lone [])⟩,
sd 32 (.fieldA 0 (.t 7)) [0,1,4,5,6,7,8,9,10,11,12,13,14,15,16,17,18,19,20,21,22,23,24,25,26],
sd 33 (.fieldA 10 (.t 32)) [0,1,4,5,6,7,8,9,10,11,12,13,14,15,16,17,18,19,20,21,22,23,24,25,26,27],
⟨none,none,.store 1 (.t 33) (.t 19),[0,1,4,5,6,7,8,9,10,11,12,13,14,15,16,17,18,19,20,21,22,23,24,25,26,27,28],(.lone [])⟩,
sd 34 (.fieldA 0 (.t 8)) [0,1,2,4,5,6,7,8,9,10,11,12,13,14,15,16,17,18,19,20,21,22,23,24,25,26,27,28,29],
sd 35 (.fieldA 11 (.t 34)) [0,1,2,4,5,6,7,8,9,10,11,12,13,14,15,16,17,18,19,20,21,22,23,24,25,26,27,28,29,30],
⟨none,none,.store 1 (.t 35) (.t 24),[0,1,2,4,5,6,7,8,9,10,11,12,13,14,15,16,17,18,19,20,21,22,23,24,25,26,27,28,29,30,31],(.lone [])⟩,
sd 36 (.fieldA 0 (.t 9)) [0,1,2,3,4,5,6,7,8,9,10,11,12,13,14,15,16,17,18,19,20,21,22,23,24,25,26,27,28,29,30,31,32],
sd 37 (.fieldA 12 (.t 36)) [0,1,2,3,4,5,6,7,8,9,10,11,12,13,14,15,16,17,18,19,20,21,22,23,24,25,26,27,28,29,30,31,32,33],
⟨none,none,.store 1 (.t 37) (.t 29),[0,1,2,3,4,5,6,7,8,9,10,11,12,13,14,15,16,17,18,19,20,21,22,23,24,25,26,27,28,29,30,31,32,33,34],(.lone [])⟩])
 (.seq (.seq (.reg [sq 38 (.mv (.t 3)),
sq 39 (.fieldA 0 (.t 38)),
sq 40 (.fieldA 12 (.t 39)),
sq 41 (.load none (.t 40)),
sq 42 (.len (.t 41)),
sq 43 (.mv (kI 0))])
 (.sem (.block 0 (.loop (.seq (.reg [sq 44 (.bin .lss (.t 43) (.t 42))])
 (.seq (.cond (.t 44)
 .skip
 (.exit 0))
 (.seq (.block 1 (.seq (.reg [sq 45 (.mv (.t 43)),
sq 4 (.mv (.t 45))])
 (.regd [sq 46 (.mv (.t 3)),
sd 47 (.fieldA 0 (.t 46)) [0],
sd 48 (.fieldA 12 (.t 47)) [0,1],
sd 49 (.load none (.t 48)) [0,1,2],
sq 50 (.mv (.t 4)),
sq 51 (.mv (.t 3)),
sd 52 (.fieldA 0 (.t 51)) [5],
sd 53 (.fieldA 12 (.t 52)) [5,6],
sd 54 (.load none (.t 53)) [5,6,7],
sq 55 (.mv (.t 4)),
sd 56 (.indexA 2 (.t 54) (.t 55)) [5,6,7,8,9],
sd 57 (.fieldA 1 (.t 56)) [5,6,7,8,9,10],
sd 58 (.load none (.t 57)) [5,6,7,8,9,10,11],
zl 59 (.call 61 [(.t 58)]) [5,6,7,8,9,10,11,12] [46,47,48],
sd 60 (.indexA 2 (.t 49) (.t 50)) [0,1,2,3,4,5,6,7,8,9,10,11,12,13],
sd 61 (.fieldA 1 (.t 60)) [0,1,2,3,4,5,6,7,8,9,10,11,12,13,14],
⟨none,none,.store 1 (.t 61) (.t 59),[0,1,2,3,4,5,6,7,8,9,10,11,12,13,14,15],(.lone [])⟩])))
 (.reg [sq 62 (.bin .add (.t 43) (kI 1)),
sq 43 (.mv (.t 62))]))))))))
 (.seq (.regd [sq 63 (.fieldA 13 (.t 1)),
sd 64 (.load (some 5) (.t 63)) [0],
zn 65 (.call 68 [(.t 64)]) [0,1] [0,1],
sq 66 (.fieldA 18 (.t 1)),
sd 67 (.load (some 5) (.t 66)) [3],
zl 68 (.call 68 [(.t 67)]) [0,1,2,3,4] [],
sd 69 (.fieldA 13 (.t 1)) [0,1,2,3,4,5],
⟨none,none,.store 5 (.t 69) (.t 65),[0,1,2,3,4,5,6],(.lone [])⟩,
sd 70 (.fieldA 18 (.t 1)) [0,1,2,3,4,5,6,7],
⟨none,none,.store 5 (.t 70) (.t 68),[0,1,2,3,4,5,6,7,8],(.lone [])⟩])
 (.seq (.reg [sq 71 (.load (some 23) (.t 1)),
⟨none,none,.store 23 (.t 2) (.t 71),[],(.lone [1])⟩])
 .ret))))))⟩
theorem F37_ok{x0 r}(h:F37 x0=some r):CallD Tryz.prog 37 [.agg [dS x0.Meta.Kind,dS x0.Meta.Namespace,dS x0.Meta.Name,dI x0.Meta.Uid,dI x0.Meta.Version,dI x0.Meta.Generation,dI x0.Meta.Created,dB x0.Meta.Deleting,dI x0.Meta.DeleteAt,dM (x0.Meta.Labels.map eLabel),dM (x0.Meta.Owners.map eOwner),dM (x0.Meta.Finalizers.map eS),dM (x0.Meta.Managers.map eManager),dI x0.Spec.Kind,dI x0.Spec.N,dS x0.Spec.S,dM (x0.Spec.List_.map eTValue),dM (x0.Spec.Fields.map eTField),dI x0.Status.Kind,dI x0.Status.N,dS x0.Status.S,dM (x0.Status.List_.map eTValue),dM (x0.Status.Fields.map eTField)]] [] (tupV [.agg [dS x0.Meta.Kind,dS x0.Meta.Namespace,dS x0.Meta.Name,dI x0.Meta.Uid,dI x0.Meta.Version,dI x0.Meta.Generation,dI x0.Meta.Created,dB x0.Meta.Deleting,dI x0.Meta.DeleteAt,.own 0 0 0 (r.1.length) none,.own 1 0 0 (r.2.1.length) none,.own 2 0 0 (r.2.2.1.length) none,.own 3 0 0 (r.2.2.2.1.length) none,dI x0.Spec.Kind,dI x0.Spec.N,dS x0.Spec.S,.own 4 0 0 (r.2.2.2.2.1.length) none,.own 5 0 0 (r.2.2.2.2.2.1.length) none,dI x0.Status.Kind,dI x0.Status.N,dS x0.Status.S,.own 6 0 0 (r.2.2.2.2.2.2.1.length) none,.own 7 0 0 (r.2.2.2.2.2.2.2.length) none]]) [some (.arr 0 2 (r.1.map eLabel)),some (.arr 0 5 (r.2.1.map eOwner)),some (.arr 0 1 (r.2.2.1.map eS)),some (.arr 0 2 (r.2.2.2.1.map eManager)),some (.arr 0 5 (r.2.2.2.2.1.map eTValue)),some (.arr 0 6 (r.2.2.2.2.2.1.map eTField)),some (.arr 0 5 (r.2.2.2.2.2.2.1.map eTValue)),some (.arr 0 6 (r.2.2.2.2.2.2.2.map eTField))]:=by
 rw[F37]at h
 refine zc a37 (by kernel_rfl) rfl (ww ?_)
 obtain⟨t1,ht1,h⟩:=bi h
 refine cN [] (F65_ok ht1) trivial (ww ?_)
 refine kD_new (by simp[wrs,allW,hset]) (ww ?_)
 obtain⟨t2,ht2,h⟩:=bi h
 refine cN [] (F66_ok ht2) trivial (ww ?_)
 refine kD_new (by simp[wrs,allW,hset]) (ww ?_)
 obtain⟨t3,ht3,h⟩:=bi h
 refine cN [] (F61_ok ht3) trivial (ww ?_)
 refine kD_new (by simp[wrs,allW,hset]) (ww ?_)
 obtain⟨t4,ht4,h⟩:=bi h
 refine cN [] (F67_ok ht4) trivial (ww ?_)
 obtain⟨o5,ho,h⟩:=bi h
 refine cutS (fun s=>s=⟨[(1,.one (.c (.pt 0 0))),(2,.one (.c (.pt 5 0)))],[some (.box [dS x0.Meta.Kind,dS x0.Meta.Namespace,dS x0.Meta.Name,dI x0.Meta.Uid,dI x0.Meta.Version,dI x0.Meta.Generation,dI x0.Meta.Created,dB x0.Meta.Deleting,dI x0.Meta.DeleteAt,.own 1 0 0 (t1.length) none,.own 2 0 0 (t2.length) none,.own 3 0 0 (t3.length) none,.own 4 0 0 (o5.length) none,dI x0.Spec.Kind,dI x0.Spec.N,dS x0.Spec.S,dM (x0.Spec.List_.map eTValue),dM (x0.Spec.Fields.map eTField),dI x0.Status.Kind,dI x0.Status.N,dS x0.Status.S,dM (x0.Status.List_.map eTValue),dM (x0.Status.Fields.map eTField)]),some (.arr 0 2 (t1.map eLabel)),some (.arr 0 5 (t2.map eOwner)),some (.arr 0 1 (t3.map eS)),some (.arr 0 2 (o5.map eManager)),some (.box [dS ((⟨#[]⟩:ByteArray)),dS ((⟨#[]⟩:ByteArray)),dS ((⟨#[]⟩:ByteArray)),dI 0,dI 0,dI 0,dI 0,dB false,dI 0,dN,dN,dN,dN,dI 0,dI 0,dS ((⟨#[]⟩:ByteArray)),dN,dN,dI 0,dI 0,dS ((⟨#[]⟩:ByteArray)),dN,dN])]⟩) ?_ ?_
 ·have h:=ho
  clear ho
  obtain⟨_,hk,h⟩:=bi h
  have hk:=ck_some hk
  refine ww ?_
  refine bL (fun j s=>∃(o5_1:Nat) (o5_0:List Manager),(o5_1≤t4.length∧j=t4.length-o5_1)∧s=⟨[(1,.one (.c (.pt 0 0))),(2,.one (.c (.pt 5 0))),(3,.one (.c (.pt 0 0))),(42,.one (.c (dI ((t4.length:Int))))),(43,.one (.c (dI ((o5_1:Int)))))],[some (.box [dS x0.Meta.Kind,dS x0.Meta.Namespace,dS x0.Meta.Name,dI x0.Meta.Uid,dI x0.Meta.Version,dI x0.Meta.Generation,dI x0.Meta.Created,dB x0.Meta.Deleting,dI x0.Meta.DeleteAt,.own 1 0 0 (t1.length) none,.own 2 0 0 (t2.length) none,.own 3 0 0 (t3.length) none,.own 4 0 0 (o5_0.length) none,dI x0.Spec.Kind,dI x0.Spec.N,dS x0.Spec.S,dM (x0.Spec.List_.map eTValue),dM (x0.Spec.Fields.map eTField),dI x0.Status.Kind,dI x0.Status.N,dS x0.Status.S,dM (x0.Status.List_.map eTValue),dM (x0.Status.Fields.map eTField)]),some (.arr 0 2 (t1.map eLabel)),some (.arr 0 5 (t2.map eOwner)),some (.arr 0 1 (t3.map eS)),some (.arr 0 2 (o5_0.map eManager)),some (.box [dS ((⟨#[]⟩:ByteArray)),dS ((⟨#[]⟩:ByteArray)),dS ((⟨#[]⟩:ByteArray)),dI 0,dI 0,dI 0,dI 0,dB false,dI 0,dN,dN,dN,dN,dI 0,dI 0,dS ((⟨#[]⟩:ByteArray)),dN,dN,dI 0,dI 0,dS ((⟨#[]⟩:ByteArray)),dN,dN])]⟩∧F37_l5 (t4.drop o5_1) o5_1 o5_0=some o5) (t4.length-0) [some 0,some 2,some 3,some 4,some 5,some 1] ⟨0,t4,⟨hk.1,rfl⟩,rfl,h⟩ ?_
  rintro _ _ ⟨o5_1,o5_0,⟨hi,rfl⟩,rfl,h⟩
  refine ww ?_
  refine condS (fun c6=>?_) (fun c6=>?_)
  ·obtain⟨xo5,hxo5,hd⟩:=countY (show(o5_1:Int)<(t4.length:Int)from c6)
   rw[hd,F37_l5]at h
   refine ww ?_
   obtain⟨y7,hy7,h⟩:=bi h
   refine t_idxO (enc:=eManager) (xs:=o5_0) rfl rfl rfl (by first|rfl|simp only[List.length_set]|exact(clrL_len (slI_len (by assumption))).symm) hy7 (ww ?_)
   refine LdRow.rd (rdI_some hy7).2.1 (ww ?_)
   obtain⟨t8,ht8,h⟩:=bi h
   refine cN [] (F61_ok ht8) trivial (ww ?_)
   obtain⟨y9,hy9,h⟩:=bi h
   refine t_idxO (enc:=eManager) (xs:=o5_0) rfl rfl rfl (by first|rfl|simp only[List.length_set]|exact(clrL_len (slI_len (by assumption))).symm) hy9 (ww ?_)
   refine StRow.rd (y':=(⟨y9.Name,t8⟩:Manager)) (rdI_some hy9).2.1 (by simp[EE.down]) (by first|rfl|(simp only[bor_full'];rfl)) (ww ?_)
   rw[wrapN (by omega)]
   exact eL' (t4.length-(o5_1+1)) [some 0,some 1,some 2,some 3,some 4,some 5] ⟨o5_1+1,(o5_0.set ((o5_1:Int)).toNat ((⟨y9.Name,t8⟩:Manager))),⟨by omega,rfl⟩,rfl,h⟩ (by omega)
  rw[countN (show¬((o5_1:Int)<(t4.length:Int))from c6),F37_l5]at h
  refine ww ?_
  cases h
  exact eM [some 0,some 1,some 2,some 3,some 4,some 5] rfl
 rintro _ rfl
 clear ho
 refine ww ?_
 obtain⟨t11,ht11,h⟩:=bi h
 refine cN [] (F68k_ok 1099511627776 ht11) trivial (ww ?_)
 refine kD_new (by simp[wrs,allW,hset]) (ww ?_)
 obtain⟨t12,ht12,h⟩:=bi h
 refine cN [] (F68k_ok 1099511627776 ht12) trivial (ww ?_)
 cases h
 exact eF [some 1,some 2,some 3,some 4,some 6,some 7,some 8,some 9]
def F142(x0:ByteArray)(x1:ByteArray):Option (Int):=(F173 x0 x1).bind fun t1=>some t1
def a142:AFn:=⟨8,[(.tmp 4)],
 (.seq (.reg [sq 4 (.mv (kI 0))])
 (.seq (.reg [sq 5 (.mv (.t 0)),
sq 6 (.mv (.t 1)),
sq 7 (.call 173 [(.t 5),(.t 6)]),
sq 4 (.mv (.t 7))])
 .ret))⟩
theorem F142_ok{x0 x1 r}(h:F142 x0 x1=some r):CallD Tryz.prog 142 [.c (dS x0),.c (dS x1)] [] (tupV [.c (dI r)]) []:=by
 rw[F142]at h
 refine zc a142 (by kernel_rfl) rfl (ww ?_)
 obtain⟨t1,ht1,h⟩:=bi h
 refine cN [] (F173_ok ht1) trivial (ww ?_)
 cases h
 exact eF []
def F157(x0:Requirement)(x1:(List Label)):Option (Bool):=(F190 x1 x0.Key).bind fun t1=>(if x0.Op=1 then(((if t1.2=true then(F191 x0.Values t1.1).bind fun t5=>some t5 else some false)).bind fun o3=>some o3)else(if x0.Op=2 then(((if(nb t1.2)=true then some true else(F191 x0.Values t1.1).bind fun t9=>some (nb t9))).bind fun o7=>some o7)else(if x0.Op=3 then some t1.2 else(if x0.Op=4 then some (nb t1.2)else some false))))
def a157:AFn:=⟨43,[(.tmp 4)],
 (.seq (.reg [sq 2 (.box (.t 0)),
sq 4 (.mv (kB false))])
 (.seq (.reg [sq 8 (.mv (.t 1)),
sq 9 (.fieldA 0 (.t 2)),
sq 10 (.load none (.t 9)),
sq 11 (.call 190 [(.t 8),(.t 10)]),
sq 7 (.mv (.t 11)),
sq 12 (.ext (.t 7) 0),
sq 13 (.ext (.t 7) 1),
sq 5 (.mv (.t 12)),
sq 6 (.mv (.t 13))])
 (.seq (.seq (.reg [sq 14 (.fieldA 1 (.t 2)),
sq 15 (.load none (.t 14))])
 (.block 0 (.seq (.reg [sq 17 (.bin .eql (.t 15) (kI 1)),
sq 16 (.mv (.t 17))])
 (.cond (.t 16)
 (.seq (.sem (.reg [sq 18 (.mv (.t 6)),
sq 19 (.mv (.t 18)),
zg 20 19 true (.fieldA 2 (.t 2)),
zg 21 19 true (.load none (.t 20)),
zg 22 19 true (.mv (.t 5)),
zg 23 19 true (.call 191 [(.t 21),(.t 22)]),
sq 24 (.pick (.t 19) (.t 23) (kB false)),
sq 4 (.mv (.t 24))]))
 .ret)
 (.seq (.reg [sq 26 (.bin .eql (.t 15) (kI 2)),
sq 25 (.mv (.t 26))])
 (.cond (.t 25)
 (.seq (.sem (.reg [sq 27 (.mv (.t 6)),
sq 28 (.not (.t 27)),
sq 29 (.mv (.t 28)),
zg 30 29 false (.fieldA 2 (.t 2)),
zg 31 29 false (.load none (.t 30)),
zg 32 29 false (.mv (.t 5)),
zg 33 29 false (.call 191 [(.t 31),(.t 32)]),
zg 34 29 false (.not (.t 33)),
sq 35 (.pick (.t 29) (kB true) (.t 34)),
sq 4 (.mv (.t 35))]))
 .ret)
 (.seq (.reg [sq 37 (.bin .eql (.t 15) (kI 3)),
sq 36 (.mv (.t 37))])
 (.cond (.t 36)
 (.seq (.reg [sq 38 (.mv (.t 6)),
sq 4 (.mv (.t 38))])
 .ret)
 (.seq (.reg [sq 40 (.bin .eql (.t 15) (kI 4)),
sq 39 (.mv (.t 40))])
 (.cond (.t 39)
 (.seq (.reg [sq 41 (.mv (.t 6)),
sq 42 (.not (.t 41)),
sq 4 (.mv (.t 42))])
 .ret)
 .skip))))))))))
 (.seq (.reg [sq 4 (.mv (kB false))])
 .ret))))⟩
theorem F157_ok{x0 x1 r}(h:F157 x0 x1=some r):CallD Tryz.prog 157 [.agg [dS x0.Key,dI x0.Op,dM (x0.Values.map eS)],.c (dM (x1.map eLabel))] [] (tupV [.c (dB r)]) []:=by
 rw[F157]at h
 refine zc a157 (by kernel_rfl) rfl (ww ?_)
 obtain⟨t1,ht1,h⟩:=bi h
 refine cN [] (F190_ok ht1) trivial (ww ?_)
 refine condSh h (fun c2 h=>?_) (fun c2 h=>?_)
 ·refine ww ?_
  obtain⟨o3,ho,h⟩:=bi h
  refine cutS (fun s=>s=⟨[(4,.one (.c (dB o3)))],[]⟩) ?_ ?_
  ·have h:=ho
   clear ho
   refine ww ?_
   refine guardSBh h (fun g4 h=>?_) (fun g4 h=>?_)
   ·refine ww ?_
    obtain⟨t5,ht5,h⟩:=bi h
    refine cN [] (F191_ok ht5) trivial (ww ?_)
    cases h
    exact eM [] rfl
   refine ww ?_
   cases h
   exact eM [] rfl
  rintro _ rfl
  clear ho
  refine ww ?_
  cases h
  exact eF []
 refine ww ?_
 refine condSh h (fun c6 h=>?_) (fun c6 h=>?_)
 ·refine ww ?_
  obtain⟨o7,ho,h⟩:=bi h
  refine cutS (fun s=>s=⟨[(4,.one (.c (dB o7)))],[]⟩) ?_ ?_
  ·have h:=ho
   clear ho
   refine ww ?_
   refine guardSBh h (fun g8 h=>?_) (fun g8 h=>?_)
   ·refine ww ?_
    cases h
    exact eM [] rfl
   refine ww ?_
   obtain⟨t9,ht9,h⟩:=bi h
   refine cN [] (F191_ok ht9) trivial (ww ?_)
   cases h
   exact eM [] rfl
  rintro _ rfl
  clear ho
  refine ww ?_
  cases h
  exact eF []
 refine ww ?_
 refine condSh h (fun c10 h=>?_) (fun c10 h=>?_)
 ·refine ww ?_
  cases h
  exact eF []
 refine ww ?_
 refine condSh h (fun c11 h=>?_) (fun c11 h=>?_)
 ·refine ww ?_
  cases h
  exact eF []
 refine ww ?_
 cases h
 exact eF []
end Go.Proofs.YtdkmamiedcanfaaGreat
