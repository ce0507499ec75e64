/- Each Go function as a function over typed data, and its walk. -/
import Derived.Test.YtbopaemngpbdgaaGreatW0
import Derived.Test.YtbopaemngpbdgaaGreatW1
import Derived.Test.YtbopaemngpbdgaaGreatW2
import Derived.Test.YtbopaemngpbdgaaGreatW3
import Derived.Test.YtbopaemngpbdgaaGreatW4
namespace Go.Proofs.YtbopaemngpbdgaaGreat
open Go Go.Fw Go.Shelf
set_option maxRecDepth 100000
set_option maxHeartbeats 4000000
set_option linter.unusedSimpArgs false
set_option linter.unusedVariables false
def F72(x0:ByteArray)(x1:ByteArray):Option (Int):=(F101 x0 x1).bind fun t1=>some t1
def a72:AFn:=⟨8,[(.tmp 4)],
 (.seq (.reg [sq 4 (.mv (kI 0))])
 (.seq (.reg [sq 5 (.mv (.t 0)),
sq 6 (.mv (.t 1)),
sq 7 (.call 101 [(.t 5),(.t 6)]),
sq 4 (.mv (.t 7))])
 .ret))⟩
theorem F72_ok{x0 x1 r}(h:F72 x0 x1=some r):CallD Tryz.prog 72 [.c (dS x0),.c (dS x1)] [] (tupV [.c (dI r)]) []:=by
 rw[F72]at h
 refine zc a72 (by kernel_rfl) rfl (ww ?_)
 obtain⟨t1,ht1,h⟩:=bi h
 refine cN [] (F101_ok ht1) trivial (ww ?_)
 cases h
 exact eF []
def F106_l2(x0:(List Label)):List Label→Nat→Option ((Bool) ⊕ (Unit))
 |[],o2_0=>some (Sum.inr (()))
 |xo2::xs,o2_0=>(((F130 xo2.Key).bind fun t5=>(if(nb t5)=true then some true else(F131 xo2.Value).bind fun t7=>(if(nb t7)=true then some true else(if 0<(o2_0:Int)then(rdI x0 ((IntKind.i64.wrap (((o2_0:Int))-1)))).bind fun y10=>some ((Op.bytesLess xo2.Key.toList y10.Key.toList||decide (xo2.Key=y10.Key)))else some false)))).bind fun o4=>(if o4=true then(some false).map Sum.inl else F106_l2 x0 xs (o2_0+1)))
def F106(x0:(List Label)):Option (Bool):=(if 16<(x0.length:Int)then some false else(((ck (0≤x0.length∧x0.length≤4294967290)).bind fun u12=>F106_l2 x0 x0 0:Option ((Bool) ⊕ (Unit))).bind fun o2=>match o2 with|Sum.inl f=>some f|Sum.inr po2=>some true))
def a106:AFn:=⟨41,[(.tmp 2)],
 (.seq (.reg [sq 2 (.mv (kB false))])
 (.seq (.seq (.reg [sq 5 (.mv (.t 0)),
sq 6 (.len (.t 5)),
sq 7 (.bin .gtr (.t 6) (kI 16))])
 (.cond (.t 7)
 (.seq (.reg [sq 2 (.mv (kB false))])
 .ret)
 .skip))
 (.seq (.seq (.reg [sq 8 (.mv (.t 0)),
sq 9 (.len (.t 8)),
sq 10 (.mv (kI 0))])
 (.sem (.block 0 (.loop (.seq (.reg [sq 11 (.bin .lss (.t 10) (.t 9))])
 (.seq (.cond (.t 11)
 .skip
 (.exit 0))
 (.seq (.block 1 (.seq (.reg [sq 12 (.mv (.t 10)),
sq 13 (.indexA 2 (.t 8) (.t 10)),
sq 14 (.load (some 2) (.t 13)),
sq 4 (.zbox [dS ⟨#[]⟩,dS ⟨#[]⟩]),
sq 3 (.mv (.t 12)),
su (.store 2 (.t 4) (.t 14))])
 (.seq (.sem (.regd [sq 15 (.fieldA 0 (.t 4)),
sd 16 (.load none (.t 15)) [0],
zl 17 (.call 130 [(.t 16)]) [0,1] [],
sd 18 (.not (.t 17)) [0,1,2],
sd 19 (.mv (.t 18)) [0,1,2,3],
⟨(some 20),(some (19,false)),.fieldA 1 (.t 4),[0,1,2,3,4],(.new [])⟩,
⟨(some 21),(some (19,false)),.load none (.t 20),[0,1,2,3,4,5],(.new [])⟩,
⟨(some 22),(some (19,false)),.call 131 [(.t 21)],[0,1,2,3,4,5,6],(.lone [])⟩,
⟨(some 23),(some (19,false)),.not (.t 22),[0,1,2,3,4,5,6,7],(.new [])⟩,
zl 24 (.pick (.t 19) (kB true) (.t 23)) [0,1,2,3,4,5,6,7,8] [],
sd 25 (.mv (.t 24)) [0,1,2,3,4,5,6,7,8,9],
⟨(some 26),(some (25,false)),.mv (.t 3),[0,1,2,3,4,5,6,7,8,9,10],(.new [])⟩,
⟨(some 27),(some (25,false)),.bin .gtr (.t 26) (kI 0),[0,1,2,3,4,5,6,7,8,9,10,11],(.new [])⟩,
⟨(some 28),(some (25,false)),.mv (.t 27),[0,1,2,3,4,5,6,7,8,9,10,11,12],(.new [])⟩,
⟨(some 29),(some (28,true)),.fieldA 0 (.t 4),[0,1,2,3,4,5,6,7,8,9,10,11,12,13],(.new [])⟩,
⟨(some 30),(some (28,true)),.load none (.t 29),[0,1,2,3,4,5,6,7,8,9,10,11,12,13,14],(.new [])⟩,
⟨(some 31),(some (28,true)),.mv (.t 0),[0,1,2,3,4,5,6,7,8,9,10,11,12,13],(.new [])⟩,
⟨(some 32),(some (28,true)),.mv (.t 3),[0,1,2,3,4,5,6,7,8,9,10,11,12,13],(.new [])⟩,
⟨(some 33),(some (28,true)),.bin .sub (.t 32) (kI 1),[0,1,2,3,4,5,6,7,8,9,10,11,12,13,17],(.new [])⟩,
⟨(some 34),(some (28,true)),.indexA 2 (.t 31) (.t 33),[0,1,2,3,4,5,6,7,8,9,10,11,12,13,16,17,18],(.new [])⟩,
⟨(some 35),(some (28,true)),.fieldA 0 (.t 34),[0,1,2,3,4,5,6,7,8,9,10,11,12,13,16,17,18,19],(.new [])⟩,
⟨(some 36),(some (28,true)),.load none (.t 35),[0,1,2,3,4,5,6,7,8,9,10,11,12,13,16,17,18,19,20],(.new [])⟩,
⟨(some 37),(some (28,true)),.bin .leq (.t 30) (.t 36),[0,1,2,3,4,5,6,7,8,9,10,11,12,13,14,15,16,17,18,19,20,21],(.new [])⟩,
⟨(some 38),(some (25,false)),.pick (.t 28) (.t 37) (kB false),[0,1,2,3,4,5,6,7,8,9,10,11,12,13,14,15,16,17,18,19,20,21,22],(.lone [])⟩,
zl 39 (.pick (.t 25) (kB true) (.t 38)) [0,1,2,3,4,5,6,7,8,9,10,11,12,13,14,15,16,17,18,19,20,21,22,23] []]))
 (.cond (.t 39)
 (.seq (.reg [sq 2 (.mv (kB false))])
 .ret)
 .skip))))
 (.reg [sq 40 (.bin .add (.t 10) (kI 1)),
sq 10 (.mv (.t 40))]))))))))
 (.seq (.reg [sq 2 (.mv (kB true))])
 .ret))))⟩
theorem F106_ok{x0 r}(h:F106 x0=some r):CallD Tryz.prog 106 [.c (dM (x0.map eLabel))] [] (tupV [.c (dB r)]) []:=by
 rw[F106]at h
 refine zc a106 (by kernel_rfl) rfl (ww ?_)
 refine condSh h (fun c1 h=>?_) (fun c1 h=>?_)
 ·refine ww ?_
  cases h
  exact eF []
 refine ww ?_
 obtain⟨o2,ho,h⟩:=bi h
 refine cutS (fun s=>∃po2,o2=Sum.inr po2∧s=⟨[],[]⟩) ?_ ?_
 ·have h0o2:=h
  have h:=ho
  clear ho
  obtain⟨_,hk,h⟩:=bi h
  have hk:=ck_some hk
  refine ww ?_
  refine bL (fun j s=>∃(o2_0:Nat),(o2_0≤x0.length∧j=x0.length-o2_0)∧s=⟨[(0,.one (.c (dM (x0.map eLabel)))),(8,.one (.c (dM (x0.map eLabel)))),(9,.one (.c (dI ((x0.length:Int))))),(10,.one (.c (dI ((o2_0:Int)))))],[]⟩∧F106_l2 x0 (x0.drop o2_0) o2_0=some o2) (x0.length-0) [] ⟨0,⟨hk.1,rfl⟩,rfl,h⟩ ?_
  rintro _ _ ⟨o2_0,⟨hi,rfl⟩,rfl,h⟩
  refine ww ?_
  refine condS (fun c3=>?_) (fun c3=>?_)
  ·obtain⟨xo2,hxo2,hd⟩:=countY (show(o2_0:Int)<(x0.length:Int)from c3)
   rw[hd,F106_l2]at h
   refine ww ?_
   refine t_idxF (enc:=eLabel) (xs:=x0) rfl rfl hxo2 rfl (ww ?_)
   obtain⟨o4,ho,h⟩:=bi h
   refine cutS (fun s=>s=⟨[(0,.one (.c (dM (x0.map eLabel)))),(8,.one (.c (dM (x0.map eLabel)))),(9,.one (.c (dI ((x0.length:Int))))),(10,.one (.c (dI ((o2_0:Int))))),(39,.one (.c (dB o4)))],[]⟩) ?_ ?_
   ·have h:=ho
    clear ho
    refine ww ?_
    obtain⟨t5,ht5,h⟩:=bi h
    refine cN [] (F130_ok ht5) trivial (ww ?_)
    refine guardDBh h (fun g6 h=>?_) (fun g6 h=>?_)
    ·refine ww ?_
     cases h
     exact eM [] rfl
    refine ww ?_
    obtain⟨t7,ht7,h⟩:=bi h
    refine cN [] (F131_ok ht7) trivial (ww ?_)
    refine guardDBh h (fun g8 h=>?_) (fun g8 h=>?_)
    ·refine ww ?_
     cases h
     exact eM [] rfl
    refine ww ?_
    refine guardDh h (fun g9 h=>?_) (fun g9 h=>?_)
    ·refine ww ?_
     obtain⟨y10,hy10,h⟩:=bi h
     refine t_idxF (enc:=eLabel) (xs:=x0) rfl rfl hy10 rfl (ww ?_)
     cases h
     exact eM [] rfl
    refine ww ?_
    cases h
    exact eM [] rfl
   rintro _ rfl
   clear ho
   refine ww ?_
   refine condBh h (fun c11 h=>?_) (fun c11 h=>?_)
   ·refine ww ?_
    obtain⟨fh0o2,hfh0o2,rfl⟩:=Option.map_eq_some_iff.1 h
    have h:=hfh0o2.trans h0o2
    cases h
    exact eF []
   refine ww ?_
   rw[wrapN (by omega)]
   exact eL' (x0.length-(o2_0+1)) [] ⟨o2_0+1,⟨by omega,rfl⟩,rfl,h⟩ (by omega)
  rw[countN (show¬((o2_0:Int)<(x0.length:Int))from c3),F106_l2]at h
  refine ww ?_
  cases h
  exact eM [] ⟨_,rfl,rfl⟩
 rintro _ ⟨po2,rfl,rfl⟩
 clear ho
 dsimp only at h
 refine ww ?_
 cases h
 exact eF []
def F110_l16(rc28:TValue→Int→Option (Bool))(x1:Int):List TValue→Nat→Option ((Bool) ⊕ (Unit))
 |[],o16_0=>some (Sum.inr (()))
 |xo16::xs,o16_0=>(rc28 xo16 ((IntKind.i64.wrap (x1-1)))).bind fun t18=>(if(nb t18)=true then(some false).map Sum.inl else F110_l16 rc28 x1 xs (o16_0+1))
def F110_l21(rc28:TValue→Int→Option (Bool))(x0:TValue)(x1:Int):List TField→Nat→Option ((Bool) ⊕ (Unit))
 |[],o21_0=>some (Sum.inr (()))
 |xo21::xs,o21_0=>(((F134 xo21.Name).bind fun t24=>(if(nb t24)=true then some true else(if 0<(o21_0:Int)then(rdI x0.Fields ((IntKind.i64.wrap (((o21_0:Int))-1)))).bind fun y27=>(if(nb (Op.bytesLess y27.Name.toList xo21.Name.toList))=true then some true else(rc28 xo21.V ((IntKind.i64.wrap (x1-1)))).bind fun t29=>some (nb t29))else(rc28 xo21.V ((IntKind.i64.wrap (x1-1)))).bind fun t30=>some (nb t30)))).bind fun o23=>(if o23=true then(some false).map Sum.inl else F110_l21 rc28 x0 x1 xs (o21_0+1)))
def F110(rc28:TValue→Int→Option (Bool))(x0:TValue)(x1:Int):Option (Bool):=(((if x1=0 then some true else(F133 x0).bind fun t3=>(if(nb t3)=true then some true else(if¬(x0.Kind=4)then(if 0<(x0.List_.length:Int)then some true else(if¬(x0.Kind=5)then(if 0<(x0.Fields.length:Int)then some true else(if 64<(x0.List_.length:Int)then some true else some (decide (64<(x0.Fields.length:Int)))))else(if 64<(x0.List_.length:Int)then some true else some (decide (64<(x0.Fields.length:Int))))))else(if¬(x0.Kind=5)then(if 0<(x0.Fields.length:Int)then some true else(if 64<(x0.List_.length:Int)then some true else some (decide (64<(x0.Fields.length:Int)))))else(if 64<(x0.List_.length:Int)then some true else some (decide (64<(x0.Fields.length:Int))))))))).bind fun o1=>(if o1=true then some false else(((ck (0≤x0.List_.length∧x0.List_.length≤4294967290)).bind fun u20=>F110_l16 rc28 x1 x0.List_ 0:Option ((Bool) ⊕ (Unit))).bind fun o16=>match o16 with|Sum.inl f=>some f|Sum.inr po16=>(((ck (0≤x0.Fields.length∧x0.Fields.length≤4294967290)).bind fun u32=>F110_l21 rc28 x0 x1 x0.Fields 0:Option ((Bool) ⊕ (Unit))).bind fun o21=>match o21 with|Sum.inl f=>some f|Sum.inr po21=>some true))))
def a110:AFn:=⟨100,[(.tmp 4)],
 (.seq (.reg [sq 2 (.box (.t 0)),
sq 4 (.mv (kB false))])
 (.seq (.seq (.sem (.reg [sq 9 (.mv (.t 1)),
sq 10 (.bin .eql (.t 9) (kI 0)),
sq 11 (.mv (.t 10)),
zg 12 11 false (.load (some 5) (.t 2)),
zg 13 11 false (.call 133 [(.t 12)]),
zg 14 11 false (.not (.t 13)),
sq 15 (.pick (.t 11) (kB true) (.t 14)),
sq 16 (.mv (.t 15)),
zg 17 16 false (.fieldA 0 (.t 2)),
zg 18 16 false (.load none (.t 17)),
zg 19 16 false (.bin .neq (.t 18) (kI 4)),
zg 20 16 false (.mv (.t 19)),
zg 21 20 true (.fieldA 3 (.t 2)),
zg 22 20 true (.load none (.t 21)),
zg 23 20 true (.len (.t 22)),
zg 24 20 true (.bin .gtr (.t 23) (kI 0)),
zg 25 16 false (.pick (.t 20) (.t 24) (kB false)),
sq 26 (.pick (.t 16) (kB true) (.t 25)),
sq 27 (.mv (.t 26)),
zg 28 27 false (.fieldA 0 (.t 2)),
zg 29 27 false (.load none (.t 28)),
zg 30 27 false (.bin .neq (.t 29) (kI 5)),
zg 31 27 false (.mv (.t 30)),
zg 32 31 true (.fieldA 4 (.t 2)),
zg 33 31 true (.load none (.t 32)),
zg 34 31 true (.len (.t 33)),
zg 35 31 true (.bin .gtr (.t 34) (kI 0)),
zg 36 27 false (.pick (.t 31) (.t 35) (kB false)),
sq 37 (.pick (.t 27) (kB true) (.t 36)),
sq 38 (.mv (.t 37)),
zg 39 38 false (.fieldA 3 (.t 2)),
zg 40 38 false (.load none (.t 39)),
zg 41 38 false (.len (.t 40)),
zg 42 38 false (.bin .gtr (.t 41) (kI 64)),
sq 43 (.pick (.t 38) (kB true) (.t 42)),
sq 44 (.mv (.t 43)),
zg 45 44 false (.fieldA 4 (.t 2)),
zg 46 44 false (.load none (.t 45)),
zg 47 44 false (.len (.t 46)),
zg 48 44 false (.bin .gtr (.t 47) (kI 64)),
sq 49 (.pick (.t 44) (kB true) (.t 48))]))
 (.cond (.t 49)
 (.seq (.reg [sq 4 (.mv (kB false))])
 .ret)
 .skip))
 (.seq (.seq (.reg [sq 50 (.fieldA 3 (.t 2)),
sq 51 (.load none (.t 50)),
sq 52 (.len (.t 51)),
sq 53 (.mv (kI 0))])
 (.sem (.block 0 (.loop (.seq (.reg [sq 54 (.bin .lss (.t 53) (.t 52))])
 (.seq (.cond (.t 54)
 .skip
 (.exit 0))
 (.seq (.block 1 (.seq (.reg [sq 55 (.indexA 5 (.t 51) (.t 53)),
sq 56 (.load (some 5) (.t 55)),
sq 6 (.zbox [dI 0,dI 0,dS ⟨#[]⟩,dN,dN]),
su (.store 5 (.t 6) (.t 56))])
 (.seq (.reg [sq 57 (.load (some 5) (.t 6)),
sq 58 (.mv (.t 1)),
sq 59 (.bin .sub (.t 58) (kI 1)),
sq 60 (.call 110 [(.t 57),(.t 59)]),
sq 61 (.not (.t 60))])
 (.cond (.t 61)
 (.seq (.reg [sq 4 (.mv (kB false))])
 .ret)
 .skip))))
 (.reg [sq 62 (.bin .add (.t 53) (kI 1)),
sq 53 (.mv (.t 62))]))))))))
 (.seq (.seq (.reg [sq 63 (.fieldA 4 (.t 2)),
sq 64 (.load none (.t 63)),
sq 65 (.len (.t 64)),
sq 66 (.mv (kI 0))])
 (.sem (.block 2 (.loop (.seq (.reg [sq 67 (.bin .lss (.t 66) (.t 65))])
 (.seq (.cond (.t 67)
 .skip
 (.exit 2))
 (.seq (.block 3 (.seq (.reg [sq 68 (.mv (.t 66)),
sq 69 (.indexA 6 (.t 64) (.t 66)),
sq 70 (.load (some 6) (.t 69)),
sq 8 (.zbox [dS ⟨#[]⟩,dI 0,dI 0,dS ⟨#[]⟩,dN,dN]),
sq 7 (.mv (.t 68)),
su (.store 6 (.t 8) (.t 70))])
 (.seq (.sem (.regd [sq 71 (.fieldA 0 (.t 8)),
sd 72 (.load none (.t 71)) [0],
zl 73 (.call 134 [(.t 72)]) [0,1] [],
sd 74 (.not (.t 73)) [0,1,2],
sd 75 (.mv (.t 74)) [0,1,2,3],
⟨(some 76),(some (75,false)),.mv (.t 7),[0,1,2,3,4],(.new [])⟩,
⟨(some 77),(some (75,false)),.bin .gtr (.t 76) (kI 0),[0,1,2,3,4,5],(.new [])⟩,
⟨(some 78),(some (75,false)),.mv (.t 77),[0,1,2,3,4,5,6],(.new [])⟩,
⟨(some 79),(some (78,true)),.fieldA 4 (.t 2),[0,1,2,3,4,5,6,7],(.new [])⟩,
⟨(some 80),(some (78,true)),.load none (.t 79),[0,1,2,3,4,5,6,7,8],(.new [])⟩,
⟨(some 81),(some (78,true)),.mv (.t 7),[0,1,2,3,4,5,6,7],(.new [])⟩,
⟨(some 82),(some (78,true)),.bin .sub (.t 81) (kI 1),[0,1,2,3,4,5,6,7,10],(.new [])⟩,
⟨(some 83),(some (78,true)),.indexA 6 (.t 80) (.t 82),[0,1,2,3,4,5,6,7,8,9,10,11],(.new [])⟩,
⟨(some 84),(some (78,true)),.fieldA 0 (.t 83),[0,1,2,3,4,5,6,7,8,9,10,11,12],(.new [])⟩,
⟨(some 85),(some (78,true)),.load none (.t 84),[0,1,2,3,4,5,6,7,8,9,10,11,12,13],(.new [])⟩,
⟨(some 86),(some (78,true)),.fieldA 0 (.t 8),[0,1,2,3,4,5,6,7],(.new [])⟩,
⟨(some 87),(some (78,true)),.load none (.t 86),[0,1,2,3,4,5,6,7,15],(.new [])⟩,
⟨(some 88),(some (78,true)),.bin .geq (.t 85) (.t 87),[0,1,2,3,4,5,6,7,8,9,10,11,12,13,14,15,16],(.new [])⟩,
⟨(some 89),(some (75,false)),.pick (.t 78) (.t 88) (kB false),[0,1,2,3,4,5,6,7,8,9,10,11,12,13,14,15,16,17],(.lone [])⟩,
zl 90 (.pick (.t 75) (kB true) (.t 89)) [0,1,2,3,4,5,6,7,8,9,10,11,12,13,14,15,16,17,18] [],
sd 91 (.mv (.t 90)) [0,1,2,3,4,5,6,7,8,9,10,11,12,13,14,15,16,17,18,19],
⟨(some 92),(some (91,false)),.fieldA 1 (.t 8),[0,1,2,3,4,5,6,7,8,9,10,11,12,13,14,15,16,17,18,19,20],(.new [])⟩,
⟨(some 93),(some (91,false)),.load (some 5) (.t 92),[0,1,2,3,4,5,6,7,8,9,10,11,12,13,14,15,16,17,18,19,20,21],(.new [])⟩,
⟨(some 94),(some (91,false)),.mv (.t 1),[0,1,2,3,4,5,6,7,8,9,10,11,12,13,14,15,16,17,18,19,20],(.new [])⟩,
⟨(some 95),(some (91,false)),.bin .sub (.t 94) (kI 1),[0,1,2,3,4,5,6,7,8,9,10,11,12,13,14,15,16,17,18,19,20,23],(.new [])⟩,
⟨(some 96),(some (91,false)),.call 110 [(.t 93),(.t 95)],[0,1,2,3,4,5,6,7,8,9,10,11,12,13,14,15,16,17,18,19,20,21,22,23,24],(.lone [])⟩,
⟨(some 97),(some (91,false)),.not (.t 96),[0,1,2,3,4,5,6,7,8,9,10,11,12,13,14,15,16,17,18,19,20,21,22,23,24,25],(.new [])⟩,
zl 98 (.pick (.t 91) (kB true) (.t 97)) [0,1,2,3,4,5,6,7,8,9,10,11,12,13,14,15,16,17,18,19,20,21,22,23,24,25,26] []]))
 (.cond (.t 98)
 (.seq (.reg [sq 4 (.mv (kB false))])
 .ret)
 .skip))))
 (.reg [sq 99 (.bin .add (.t 66) (kI 1)),
sq 66 (.mv (.t 99))]))))))))
 (.seq (.reg [sq 4 (.mv (kB true))])
 .ret)))))⟩
theorem F110_ok{rc28:TValue→Int→Option (Bool)}(ih28:∀{x0:TValue} {x1:Int} {r:Bool} (h:rc28 x0 x1=some r),CallD Tryz.prog 110 [.agg [dI x0.Kind,dI x0.N,dS x0.S,dM (x0.List_.map eTValue),dM (x0.Fields.map eTField)],.c (dI x1)] [] (tupV [.c (dB r)]) []){x0:TValue}{x1:Int}{r:Bool}(h:F110 rc28 x0 x1=some r):CallD Tryz.prog 110 [.agg [dI x0.Kind,dI x0.N,dS x0.S,dM (x0.List_.map eTValue),dM (x0.Fields.map eTField)],.c (dI x1)] [] (tupV [.c (dB r)]) []:=by
 rw[F110]at h
 refine zc a110 (by kernel_rfl) rfl (ww ?_)
 obtain⟨o1,ho,h⟩:=bi h
 refine cutS (fun s=>s=⟨[(1,.one (.c (dI x1))),(2,.one (.c (.pt 0 0))),(49,.one (.c (dB o1)))],[some (.box [dI x0.Kind,dI x0.N,dS x0.S,dM (x0.List_.map eTValue),dM (x0.Fields.map eTField)])]⟩) ?_ ?_
 ·have h:=ho
  clear ho
  refine ww ?_
  refine guardSh h (fun g2 h=>?_) (fun g2 h=>?_)
  ·refine ww ?_
   cases h
   exact eM [some 0] rfl
  refine ww ?_
  obtain⟨t3,ht3,h⟩:=bi h
  refine cN [] (F133_ok ht3) trivial (ww ?_)
  refine guardSBh h (fun g4 h=>?_) (fun g4 h=>?_)
  ·refine ww ?_
   cases h
   exact eM [some 0] rfl
  refine ww ?_
  refine guardSh h (fun g5 h=>?_) (fun g5 h=>?_)
  ·refine ww ?_
   refine guardSh h (fun g6 h=>?_) (fun g6 h=>?_)
   ·refine ww ?_
    cases h
    exact eM [some 0] rfl
   refine ww ?_
   refine guardSh h (fun g7 h=>?_) (fun g7 h=>?_)
   ·refine ww ?_
    refine guardSh h (fun g8 h=>?_) (fun g8 h=>?_)
    ·refine ww ?_
     cases h
     exact eM [some 0] rfl
    refine ww ?_
    refine guardSh h (fun g9 h=>?_) (fun g9 h=>?_)
    ·refine ww ?_
     cases h
     exact eM [some 0] rfl
    refine ww ?_
    cases h
    exact eM [some 0] rfl
   refine ww ?_
   refine guardSh h (fun g10 h=>?_) (fun g10 h=>?_)
   ·refine ww ?_
    cases h
    exact eM [some 0] rfl
   refine ww ?_
   cases h
   exact eM [some 0] rfl
  refine ww ?_
  refine guardSh h (fun g11 h=>?_) (fun g11 h=>?_)
  ·refine ww ?_
   refine guardSh h (fun g12 h=>?_) (fun g12 h=>?_)
   ·refine ww ?_
    cases h
    exact eM [some 0] rfl
   refine ww ?_
   refine guardSh h (fun g13 h=>?_) (fun g13 h=>?_)
   ·refine ww ?_
    cases h
    exact eM [some 0] rfl
   refine ww ?_
   cases h
   exact eM [some 0] rfl
  refine ww ?_
  refine guardSh h (fun g14 h=>?_) (fun g14 h=>?_)
  ·refine ww ?_
   cases h
   exact eM [some 0] rfl
  refine ww ?_
  cases h
  exact eM [some 0] rfl
 rintro _ rfl
 clear ho
 refine ww ?_
 refine condBh h (fun c15 h=>?_) (fun c15 h=>?_)
 ·refine ww ?_
  cases h
  exact eF []
 refine ww ?_
 obtain⟨o16,ho,h⟩:=bi h
 refine cutS (fun s=>∃po16,o16=Sum.inr po16∧s=⟨[(1,.one (.c (dI x1))),(2,.one (.c (.pt 0 0)))],[some (.box [dI x0.Kind,dI x0.N,dS x0.S,dM (x0.List_.map eTValue),dM (x0.Fields.map eTField)])]⟩) ?_ ?_
 ·have h0o16:=h
  have h:=ho
  clear ho
  obtain⟨_,hk,h⟩:=bi h
  have hk:=ck_some hk
  refine ww ?_
  refine bL (fun j s=>∃(o16_0:Nat),(o16_0≤x0.List_.length∧j=x0.List_.length-o16_0)∧s=⟨[(1,.one (.c (dI x1))),(2,.one (.c (.pt 0 0))),(51,.one (.c (dM (x0.List_.map eTValue)))),(52,.one (.c (dI ((x0.List_.length:Int))))),(53,.one (.c (dI ((o16_0:Int)))))],[some (.box [dI x0.Kind,dI x0.N,dS x0.S,dM (x0.List_.map eTValue),dM (x0.Fields.map eTField)])]⟩∧F110_l16 rc28 x1 (x0.List_.drop o16_0) o16_0=some o16) (x0.List_.length-0) [some 0] ⟨0,⟨hk.1,rfl⟩,rfl,h⟩ ?_
  rintro _ _ ⟨o16_0,⟨hi,rfl⟩,rfl,h⟩
  refine ww ?_
  refine condS (fun c17=>?_) (fun c17=>?_)
  ·obtain⟨xo16,hxo16,hd⟩:=countY (show(o16_0:Int)<(x0.List_.length:Int)from c17)
   rw[hd,F110_l16]at h
   refine ww ?_
   refine t_idxF (enc:=eTValue) (xs:=x0.List_) rfl rfl hxo16 (by rw[eTValue_u];rfl) (ww ?_)
   obtain⟨t18,ht18,h⟩:=bi h
   refine cN [] (ih28 ht18) trivial (ww ?_)
   refine condBh h (fun c19 h=>?_) (fun c19 h=>?_)
   ·refine ww ?_
    obtain⟨fh0o16,hfh0o16,rfl⟩:=Option.map_eq_some_iff.1 h
    have h:=hfh0o16.trans h0o16
    cases h
    exact eF []
   refine ww ?_
   rw[wrapN (by omega)]
   exact eL' (x0.List_.length-(o16_0+1)) [some 0] ⟨o16_0+1,⟨by omega,rfl⟩,rfl,h⟩ (by omega)
  rw[countN (show¬((o16_0:Int)<(x0.List_.length:Int))from c17),F110_l16]at h
  refine ww ?_
  cases h
  exact eM [some 0] ⟨_,rfl,rfl⟩
 rintro _ ⟨po16,rfl,rfl⟩
 clear ho
 dsimp only at h
 refine ww ?_
 obtain⟨o21,ho,h⟩:=bi h
 refine cutS (fun s=>∃po21,o21=Sum.inr po21∧s=⟨[],[]⟩) ?_ ?_
 ·have h0o21:=h
  have h:=ho
  clear ho
  obtain⟨_,hk,h⟩:=bi h
  have hk:=ck_some hk
  refine ww ?_
  refine bL (fun j s=>∃(o21_0:Nat),(o21_0≤x0.Fields.length∧j=x0.Fields.length-o21_0)∧s=⟨[(1,.one (.c (dI x1))),(2,.one (.c (.pt 0 0))),(64,.one (.c (dM (x0.Fields.map eTField)))),(65,.one (.c (dI ((x0.Fields.length:Int))))),(66,.one (.c (dI ((o21_0:Int)))))],[some (.box [dI x0.Kind,dI x0.N,dS x0.S,dM (x0.List_.map eTValue),dM (x0.Fields.map eTField)])]⟩∧F110_l21 rc28 x0 x1 (x0.Fields.drop o21_0) o21_0=some o21) (x0.Fields.length-0) [some 0] ⟨0,⟨hk.1,rfl⟩,rfl,h⟩ ?_
  rintro _ _ ⟨o21_0,⟨hi,rfl⟩,rfl,h⟩
  refine ww ?_
  refine condS (fun c22=>?_) (fun c22=>?_)
  ·obtain⟨xo21,hxo21,hd⟩:=countY (show(o21_0:Int)<(x0.Fields.length:Int)from c22)
   rw[hd,F110_l21]at h
   refine ww ?_
   refine t_idxF (enc:=eTField) (xs:=x0.Fields) rfl rfl hxo21 (by rw[eTField_u];rfl) (ww ?_)
   obtain⟨o23,ho,h⟩:=bi h
   refine cutS (fun s=>s=⟨[(1,.one (.c (dI x1))),(2,.one (.c (.pt 0 0))),(64,.one (.c (dM (x0.Fields.map eTField)))),(65,.one (.c (dI ((x0.Fields.length:Int))))),(66,.one (.c (dI ((o21_0:Int))))),(98,.one (.c (dB o23)))],[some (.box [dI x0.Kind,dI x0.N,dS x0.S,dM (x0.List_.map eTValue),dM (x0.Fields.map eTField)])]⟩) ?_ ?_
   ·have h:=ho
    clear ho
    refine ww ?_
    obtain⟨t24,ht24,h⟩:=bi h
    refine cN [] (F134_ok ht24) trivial (ww ?_)
    refine guardDBh h (fun g25 h=>?_) (fun g25 h=>?_)
    ·refine ww ?_
     cases h
     exact eM [some 0] rfl
    refine ww ?_
    refine guardDh h (fun g26 h=>?_) (fun g26 h=>?_)
    ·refine ww ?_
     obtain⟨y27,hy27,h⟩:=bi h
     refine t_idxF (enc:=eTField) (xs:=x0.Fields) rfl rfl hy27 (by rw[eTField_u];rfl) (ww ?_)
     refine guardDBh h (fun g28 h=>?_) (fun g28 h=>?_)
     ·refine ww ?_
      cases h
      exact eM [some 0] rfl
     refine ww ?_
     obtain⟨t29,ht29,h⟩:=bi h
     refine cN [] (ih28 ht29) trivial (ww ?_)
     cases h
     exact eM [some 0] rfl
    refine ww ?_
    obtain⟨t30,ht30,h⟩:=bi h
    refine cN [] (ih28 ht30) trivial (ww ?_)
    cases h
    exact eM [some 0] rfl
   rintro _ rfl
   clear ho
   refine ww ?_
   refine condBh h (fun c31 h=>?_) (fun c31 h=>?_)
   ·refine ww ?_
    obtain⟨fh0o21,hfh0o21,rfl⟩:=Option.map_eq_some_iff.1 h
    have h:=hfh0o21.trans h0o21
    cases h
    exact eF []
   refine ww ?_
   rw[wrapN (by omega)]
   exact eL' (x0.Fields.length-(o21_0+1)) [some 0] ⟨o21_0+1,⟨by omega,rfl⟩,rfl,h⟩ (by omega)
  rw[countN (show¬((o21_0:Int)<(x0.Fields.length:Int))from c22),F110_l21]at h
  refine ww ?_
  cases h
  exact eM [] ⟨_,rfl,rfl⟩
 rintro _ ⟨po21,rfl,rfl⟩
 clear ho
 dsimp only at h
 refine ww ?_
 cases h
 exact eF []
def F110k:Nat→TValue→Int→Option (Bool)
 |0=>fun _ _=>none
 |k+1=>F110 (F110k k)
theorem F110k_ok(k:Nat){x0:TValue}{x1:Int}{r:Bool}(h:F110k k x0 x1=some r):CallD Tryz.prog 110 [.agg [dI x0.Kind,dI x0.N,dS x0.S,dM (x0.List_.map eTValue),dM (x0.Fields.map eTField)],.c (dI x1)] [] (tupV [.c (dB r)]) []:=by
 induction k generalizing x0 x1 r with
 |zero=>cases(show(none:Option (Bool))=some _ from h)
 |succ k ih=>exact F110_ok (fun h=>ih h) h
def F102(x0:(List TValue)):Option ((List TValue)×(List TField)):=(F129k 1099511627776 ((⟨4,0,(⟨#[]⟩:ByteArray),x0,[]⟩:TValue))).bind fun t1=>some ((t1.1,t1.2))
def a102:AFn:=⟨6,[(.cell 2 (some 5))],
 (.seq (.reg [zl 2 (.zbox [dI 0,dI 0,dS ⟨#[]⟩,dN,dN]) [] []])
 (.seq (.reg [sq 3 (.mv (.t 0)),
sq 4 (.build [dI 0,dI 0,dS ⟨#[]⟩,dN,dN] [(0,1,(kI 4)),(3,1,(.t 3))]),
sq 5 (.call 129 [(.t 4)]),
su (.store 5 (.t 2) (.t 5))])
 .ret))⟩
theorem F102_ok{x0 r}(h:F102 x0=some r):CallD Tryz.prog 102 [.c (dM (x0.map eTValue))] [] (tupV [.agg [dI ((4:Int)),dI ((0:Int)),dS (((⟨#[]⟩:ByteArray))),.own 0 0 0 (r.1.length) none,.own 1 0 0 (r.2.length) none]]) [some (.arr 0 5 (r.1.map eTValue)),some (.arr 0 6 (r.2.map eTField))]:=by
 rw[F102]at h
 refine zc a102 (by kernel_rfl) rfl (ww ?_)
 obtain⟨t1,ht1,h⟩:=bi h
 refine cN [] (F129k_ok 1099511627776 ht1) trivial (ww ?_)
 cases h
 exact eF [some 1,some 2]
def F89_l13(rc84:TValue→Int→Option (Bool))(x1:Int):List TValue→Nat→Option ((Bool) ⊕ (Unit))
 |[],o13_0=>some (Sum.inr (()))
 |xo13::xs,o13_0=>(rc84 xo13 ((IntKind.i64.wrap (x1-1)))).bind fun t15=>(if(nb t15)=true then(some false).map Sum.inl else F89_l13 rc84 x1 xs (o13_0+1))
def F89_l18(rc84:TValue→Int→Option (Bool))(x0:TValue)(x1:Int):List TField→Nat→Option ((Bool) ⊕ (Unit))
 |[],o18_0=>some (Sum.inr (()))
 |xo18::xs,o18_0=>(((F121 xo18.Name).bind fun t21=>(if(nb t21)=true then some true else(if 0<(o18_0:Int)then(rdI x0.Fields ((IntKind.i64.wrap (((o18_0:Int))-1)))).bind fun y24=>(if((Op.bytesLess xo18.Name.toList y24.Name.toList||decide (xo18.Name=y24.Name)))=true then some true else(rc84 xo18.V ((IntKind.i64.wrap (x1-1)))).bind fun t26=>some (nb t26))else(rc84 xo18.V ((IntKind.i64.wrap (x1-1)))).bind fun t27=>some (nb t27)))).bind fun o20=>(if o20=true then(some false).map Sum.inl else F89_l18 rc84 x0 x1 xs (o18_0+1)))
def F89(rc84:TValue→Int→Option (Bool))(x0:TValue)(x1:Int):Option (Bool):=(((if x1=0 then some true else(F120 x0).bind fun t3=>(if(nb t3)=true then some true else(if 64<(x0.List_.length:Int)then some true else some (decide (64<(x0.Fields.length:Int))))))).bind fun o1=>(if o1=true then some false else(((if¬(x0.Kind=4)then(if 0<(x0.List_.length:Int)then some true else(if¬(x0.Kind=5)then some (decide (0<(x0.Fields.length:Int)))else some false))else(if¬(x0.Kind=5)then some (decide (0<(x0.Fields.length:Int)))else some false))).bind fun o7=>(if o7=true then some false else(((ck (0≤x0.List_.length∧x0.List_.length≤4294967290)).bind fun u17=>F89_l13 rc84 x1 x0.List_ 0:Option ((Bool) ⊕ (Unit))).bind fun o13=>match o13 with|Sum.inl f=>some f|Sum.inr po13=>(((ck (0≤x0.Fields.length∧x0.Fields.length≤4294967290)).bind fun u29=>F89_l18 rc84 x0 x1 x0.Fields 0:Option ((Bool) ⊕ (Unit))).bind fun o18=>match o18 with|Sum.inl f=>some f|Sum.inr po18=>some true))))))
def a89:AFn:=⟨109,[(.tmp 4)],
 (.seq (.reg [sq 2 (.box (.t 0)),
sq 4 (.mv (kB false))])
 (.seq (.seq (.sem (.reg [sq 7 (.mv (.t 1)),
sq 8 (.bin .eql (.t 7) (kI 0)),
sq 9 (.mv (.t 8)),
zg 10 9 false (.load (some 5) (.t 2)),
zg 11 9 false (.call 120 [(.t 10)]),
zg 12 9 false (.not (.t 11)),
sq 13 (.pick (.t 9) (kB true) (.t 12)),
sq 14 (.mv (.t 13)),
zg 15 14 false (.fieldA 3 (.t 2)),
zg 16 14 false (.load none (.t 15)),
zg 17 14 false (.len (.t 16)),
zg 18 14 false (.bin .gtr (.t 17) (kI 64)),
sq 19 (.pick (.t 14) (kB true) (.t 18)),
sq 20 (.mv (.t 19)),
zg 21 20 false (.fieldA 4 (.t 2)),
zg 22 20 false (.load none (.t 21)),
zg 23 20 false (.len (.t 22)),
zg 24 20 false (.bin .gtr (.t 23) (kI 64)),
sq 25 (.pick (.t 20) (kB true) (.t 24))]))
 (.cond (.t 25)
 (.seq (.reg [sq 4 (.mv (kB false))])
 .ret)
 .skip))
 (.seq (.seq (.sem (.reg [sq 26 (.fieldA 0 (.t 2)),
sq 27 (.load none (.t 26)),
sq 28 (.bin .neq (.t 27) (kI 4)),
sq 29 (.mv (.t 28)),
zg 30 29 true (.fieldA 3 (.t 2)),
zg 31 29 true (.load none (.t 30)),
zg 32 29 true (.len (.t 31)),
zg 33 29 true (.bin .gtr (.t 32) (kI 0)),
sq 34 (.pick (.t 29) (.t 33) (kB false)),
sq 35 (.mv (.t 34)),
zg 36 35 false (.fieldA 0 (.t 2)),
zg 37 35 false (.load none (.t 36)),
zg 38 35 false (.bin .neq (.t 37) (kI 5)),
zg 39 35 false (.mv (.t 38)),
zg 40 39 true (.fieldA 4 (.t 2)),
zg 41 39 true (.load none (.t 40)),
zg 42 39 true (.len (.t 41)),
zg 43 39 true (.bin .gtr (.t 42) (kI 0)),
zg 44 35 false (.pick (.t 39) (.t 43) (kB false)),
sq 45 (.pick (.t 35) (kB true) (.t 44))]))
 (.cond (.t 45)
 (.seq (.reg [sq 4 (.mv (kB false))])
 .ret)
 .skip))
 (.seq (.seq (.reg [sq 5 (.mv (kI 0))])
 (.sem (.block 0 (.loop (.seq (.seq (.reg [sq 46 (.mv (.t 5)),
sq 47 (.fieldA 3 (.t 2)),
sq 48 (.load none (.t 47)),
sq 49 (.len (.t 48)),
sq 50 (.bin .lss (.t 46) (.t 49))])
 (.cond (.t 50)
 .skip
 (.exit 0)))
 (.seq (.block 1 (.seq (.reg [sq 53 (.fieldA 3 (.t 2)),
sq 54 (.load none (.t 53)),
sq 55 (.mv (.t 5)),
sq 56 (.indexA 5 (.t 54) (.t 55)),
sq 57 (.load (some 5) (.t 56)),
sq 58 (.mv (.t 1)),
sq 59 (.bin .sub (.t 58) (kI 1)),
sq 60 (.call 89 [(.t 57),(.t 59)]),
sq 61 (.not (.t 60))])
 (.cond (.t 61)
 (.seq (.reg [sq 4 (.mv (kB false))])
 .ret)
 .skip)))
 (.reg [sq 51 (.mv (.t 5)),
sq 52 (.bin .add (.t 51) (kI 1)),
sq 5 (.mv (.t 52))])))))))
 (.seq (.seq (.reg [sq 6 (.mv (kI 0))])
 (.sem (.block 2 (.loop (.seq (.seq (.reg [sq 62 (.mv (.t 6)),
sq 63 (.fieldA 4 (.t 2)),
sq 64 (.load none (.t 63)),
sq 65 (.len (.t 64)),
sq 66 (.bin .lss (.t 62) (.t 65))])
 (.cond (.t 66)
 .skip
 (.exit 2)))
 (.seq (.block 3 (.seq (.sem (.regd [sq 69 (.fieldA 4 (.t 2)),
sd 70 (.load none (.t 69)) [0],
sq 71 (.mv (.t 6)),
sd 72 (.indexA 6 (.t 70) (.t 71)) [0,1,2],
sd 73 (.fieldA 0 (.t 72)) [0,1,2,3],
sd 74 (.load none (.t 73)) [0,1,2,3,4],
zl 75 (.call 121 [(.t 74)]) [0,1,2,3,4,5] [],
sd 76 (.not (.t 75)) [0,1,2,3,4,5,6],
sd 77 (.mv (.t 76)) [0,1,2,3,4,5,6,7],
⟨(some 78),(some (77,false)),.mv (.t 6),[0,1,2,3,4,5,6,7,8],(.new [])⟩,
⟨(some 79),(some (77,false)),.bin .gtr (.t 78) (kI 0),[0,1,2,3,4,5,6,7,8,9],(.new [])⟩,
⟨(some 80),(some (77,false)),.mv (.t 79),[0,1,2,3,4,5,6,7,8,9,10],(.new [])⟩,
⟨(some 81),(some (80,true)),.fieldA 4 (.t 2),[0,1,2,3,4,5,6,7,8,9,10,11],(.new [])⟩,
⟨(some 82),(some (80,true)),.load none (.t 81),[0,1,2,3,4,5,6,7,8,9,10,11,12],(.new [])⟩,
⟨(some 83),(some (80,true)),.mv (.t 6),[0,1,2,3,4,5,6,7,8,9,10,11],(.new [])⟩,
⟨(some 84),(some (80,true)),.indexA 6 (.t 82) (.t 83),[0,1,2,3,4,5,6,7,8,9,10,11,12,13,14],(.new [])⟩,
⟨(some 85),(some (80,true)),.fieldA 0 (.t 84),[0,1,2,3,4,5,6,7,8,9,10,11,12,13,14,15],(.new [])⟩,
⟨(some 86),(some (80,true)),.load none (.t 85),[0,1,2,3,4,5,6,7,8,9,10,11,12,13,14,15,16],(.new [])⟩,
⟨(some 87),(some (80,true)),.fieldA 4 (.t 2),[0,1,2,3,4,5,6,7,8,9,10,11],(.new [])⟩,
⟨(some 88),(some (80,true)),.load none (.t 87),[0,1,2,3,4,5,6,7,8,9,10,11,18],(.new [])⟩,
⟨(some 89),(some (80,true)),.mv (.t 6),[0,1,2,3,4,5,6,7,8,9,10,11],(.new [])⟩,
⟨(some 90),(some (80,true)),.bin .sub (.t 89) (kI 1),[0,1,2,3,4,5,6,7,8,9,10,11,20],(.new [])⟩,
⟨(some 91),(some (80,true)),.indexA 6 (.t 88) (.t 90),[0,1,2,3,4,5,6,7,8,9,10,11,18,19,20,21],(.new [])⟩,
⟨(some 92),(some (80,true)),.fieldA 0 (.t 91),[0,1,2,3,4,5,6,7,8,9,10,11,18,19,20,21,22],(.new [])⟩,
⟨(some 93),(some (80,true)),.load none (.t 92),[0,1,2,3,4,5,6,7,8,9,10,11,18,19,20,21,22,23],(.new [])⟩,
⟨(some 94),(some (80,true)),.bin .leq (.t 86) (.t 93),[0,1,2,3,4,5,6,7,8,9,10,11,12,13,14,15,16,17,18,19,20,21,22,23,24],(.new [])⟩,
⟨(some 95),(some (77,false)),.pick (.t 80) (.t 94) (kB false),[0,1,2,3,4,5,6,7,8,9,10,11,12,13,14,15,16,17,18,19,20,21,22,23,24,25],(.lone [])⟩,
zl 96 (.pick (.t 77) (kB true) (.t 95)) [0,1,2,3,4,5,6,7,8,9,10,11,12,13,14,15,16,17,18,19,20,21,22,23,24,25,26] [],
sd 97 (.mv (.t 96)) [0,1,2,3,4,5,6,7,8,9,10,11,12,13,14,15,16,17,18,19,20,21,22,23,24,25,26,27],
⟨(some 98),(some (97,false)),.fieldA 4 (.t 2),[0,1,2,3,4,5,6,7,8,9,10,11,12,13,14,15,16,17,18,19,20,21,22,23,24,25,26,27,28],(.new [])⟩,
⟨(some 99),(some (97,false)),.load none (.t 98),[0,1,2,3,4,5,6,7,8,9,10,11,12,13,14,15,16,17,18,19,20,21,22,23,24,25,26,27,28,29],(.new [])⟩,
⟨(some 100),(some (97,false)),.mv (.t 6),[0,1,2,3,4,5,6,7,8,9,10,11,12,13,14,15,16,17,18,19,20,21,22,23,24,25,26,27,28],(.new [])⟩,
⟨(some 101),(some (97,false)),.indexA 6 (.t 99) (.t 100),[0,1,2,3,4,5,6,7,8,9,10,11,12,13,14,15,16,17,18,19,20,21,22,23,24,25,26,27,28,29,30,31],(.new [])⟩,
⟨(some 102),(some (97,false)),.fieldA 1 (.t 101),[0,1,2,3,4,5,6,7,8,9,10,11,12,13,14,15,16,17,18,19,20,21,22,23,24,25,26,27,28,29,30,31,32],(.new [])⟩,
⟨(some 103),(some (97,false)),.load (some 5) (.t 102),[0,1,2,3,4,5,6,7,8,9,10,11,12,13,14,15,16,17,18,19,20,21,22,23,24,25,26,27,28,29,30,31,32,33],(.new [])⟩,
⟨(some 104),(some (97,false)),.mv (.t 1),[0,1,2,3,4,5,6,7,8,9,10,11,12,13,14,15,16,17,18,19,20,21,22,23,24,25,26,27,28],(.new [])⟩,
⟨(some 105),(some (97,false)),.bin .sub (.t 104) (kI 1),[0,1,2,3,4,5,6,7,8,9,10,11,12,13,14,15,16,17,18,19,20,21,22,23,24,25,26,27,28,35],(.new [])⟩,
⟨(some 106),(some (97,false)),.call 89 [(.t 103),(.t 105)],[0,1,2,3,4,5,6,7,8,9,10,11,12,13,14,15,16,17,18,19,20,21,22,23,24,25,26,27,28,29,30,31,32,33,34,35,36],(.lone [])⟩,
⟨(some 107),(some (97,false)),.not (.t 106),[0,1,2,3,4,5,6,7,8,9,10,11,12,13,14,15,16,17,18,19,20,21,22,23,24,25,26,27,28,29,30,31,32,33,34,35,36,37],(.new [])⟩,
zl 108 (.pick (.t 97) (kB true) (.t 107)) [0,1,2,3,4,5,6,7,8,9,10,11,12,13,14,15,16,17,18,19,20,21,22,23,24,25,26,27,28,29,30,31,32,33,34,35,36,37,38] []]))
 (.cond (.t 108)
 (.seq (.reg [sq 4 (.mv (kB false))])
 .ret)
 .skip)))
 (.reg [sq 67 (.mv (.t 6)),
sq 68 (.bin .add (.t 67) (kI 1)),
sq 6 (.mv (.t 68))])))))))
 (.seq (.reg [sq 4 (.mv (kB true))])
 .ret))))))⟩
theorem F89_ok{rc84:TValue→Int→Option (Bool)}(ih84:∀{x0:TValue} {x1:Int} {r:Bool} (h:rc84 x0 x1=some r),CallD Tryz.prog 89 [.agg [dI x0.Kind,dI x0.N,dS x0.S,dM (x0.List_.map eTValue),dM (x0.Fields.map eTField)],.c (dI x1)] [] (tupV [.c (dB r)]) []){x0:TValue}{x1:Int}{r:Bool}(h:F89 rc84 x0 x1=some r):CallD Tryz.prog 89 [.agg [dI x0.Kind,dI x0.N,dS x0.S,dM (x0.List_.map eTValue),dM (x0.Fields.map eTField)],.c (dI x1)] [] (tupV [.c (dB r)]) []:=by
 rw[F89]at h
 refine zc a89 (by kernel_rfl) rfl (ww ?_)
 obtain⟨o1,ho,h⟩:=bi h
 refine cutS (fun s=>s=⟨[(1,.one (.c (dI x1))),(2,.one (.c (.pt 0 0))),(25,.one (.c (dB o1)))],[some (.box [dI x0.Kind,dI x0.N,dS x0.S,dM (x0.List_.map eTValue),dM (x0.Fields.map eTField)])]⟩) ?_ ?_
 ·have h:=ho
  clear ho
  refine ww ?_
  refine guardSh h (fun g2 h=>?_) (fun g2 h=>?_)
  ·refine ww ?_
   cases h
   exact eM [some 0] rfl
  refine ww ?_
  obtain⟨t3,ht3,h⟩:=bi h
  refine cN [] (F120_ok ht3) trivial (ww ?_)
  refine guardSBh h (fun g4 h=>?_) (fun g4 h=>?_)
  ·refine ww ?_
   cases h
   exact eM [some 0] rfl
  refine ww ?_
  refine guardSh h (fun g5 h=>?_) (fun g5 h=>?_)
  ·refine ww ?_
   cases h
   exact eM [some 0] rfl
  refine ww ?_
  cases h
  exact eM [some 0] rfl
 rintro _ rfl
 clear ho
 refine ww ?_
 refine condBh h (fun c6 h=>?_) (fun c6 h=>?_)
 ·refine ww ?_
  cases h
  exact eF []
 refine ww ?_
 obtain⟨o7,ho,h⟩:=bi h
 refine cutS (fun s=>s=⟨[(1,.one (.c (dI x1))),(2,.one (.c (.pt 0 0))),(45,.one (.c (dB o7)))],[some (.box [dI x0.Kind,dI x0.N,dS x0.S,dM (x0.List_.map eTValue),dM (x0.Fields.map eTField)])]⟩) ?_ ?_
 ·have h:=ho
  clear ho
  refine ww ?_
  refine guardSh h (fun g8 h=>?_) (fun g8 h=>?_)
  ·refine ww ?_
   refine guardSh h (fun g9 h=>?_) (fun g9 h=>?_)
   ·refine ww ?_
    cases h
    exact eM [some 0] rfl
   refine ww ?_
   refine guardSh h (fun g10 h=>?_) (fun g10 h=>?_)
   ·refine ww ?_
    cases h
    exact eM [some 0] rfl
   refine ww ?_
   cases h
   exact eM [some 0] rfl
  refine ww ?_
  refine guardSh h (fun g11 h=>?_) (fun g11 h=>?_)
  ·refine ww ?_
   cases h
   exact eM [some 0] rfl
  refine ww ?_
  cases h
  exact eM [some 0] rfl
 rintro _ rfl
 clear ho
 refine ww ?_
 refine condBh h (fun c12 h=>?_) (fun c12 h=>?_)
 ·refine ww ?_
  cases h
  exact eF []
 refine ww ?_
 obtain⟨o13,ho,h⟩:=bi h
 refine cutS (fun s=>∃po13,o13=Sum.inr po13∧s=⟨[(1,.one (.c (dI x1))),(2,.one (.c (.pt 0 0)))],[some (.box [dI x0.Kind,dI x0.N,dS x0.S,dM (x0.List_.map eTValue),dM (x0.Fields.map eTField)])]⟩) ?_ ?_
 ·have h0o13:=h
  have h:=ho
  clear ho
  obtain⟨_,hk,h⟩:=bi h
  have hk:=ck_some hk
  refine ww ?_
  refine bL (fun j s=>∃(o13_0:Nat),(o13_0≤x0.List_.length∧j=x0.List_.length-o13_0)∧s=⟨[(1,.one (.c (dI x1))),(2,.one (.c (.pt 0 0))),(5,.one (.c (dI ((o13_0:Int)))))],[some (.box [dI x0.Kind,dI x0.N,dS x0.S,dM (x0.List_.map eTValue),dM (x0.Fields.map eTField)])]⟩∧F89_l13 rc84 x1 (x0.List_.drop o13_0) o13_0=some o13) (x0.List_.length-0) [some 0] ⟨0,⟨hk.1,rfl⟩,rfl,h⟩ ?_
  rintro _ _ ⟨o13_0,⟨hi,rfl⟩,rfl,h⟩
  refine ww ?_
  refine condS (fun c14=>?_) (fun c14=>?_)
  ·obtain⟨xo13,hxo13,hd⟩:=countY (show(o13_0:Int)<(x0.List_.length:Int)from c14)
   rw[hd,F89_l13]at h
   refine ww ?_
   refine t_idxF (enc:=eTValue) (xs:=x0.List_) rfl rfl hxo13 (by rw[eTValue_u];rfl) (ww ?_)
   obtain⟨t15,ht15,h⟩:=bi h
   refine cN [] (ih84 ht15) trivial (ww ?_)
   refine condBh h (fun c16 h=>?_) (fun c16 h=>?_)
   ·refine ww ?_
    obtain⟨fh0o13,hfh0o13,rfl⟩:=Option.map_eq_some_iff.1 h
    have h:=hfh0o13.trans h0o13
    cases h
    exact eF []
   refine ww ?_
   rw[wrapN (by omega)]
   exact eL' (x0.List_.length-(o13_0+1)) [some 0] ⟨o13_0+1,⟨by omega,rfl⟩,rfl,h⟩ (by omega)
  rw[countN (show¬((o13_0:Int)<(x0.List_.length:Int))from c14),F89_l13]at h
  refine ww ?_
  cases h
  exact eM [some 0] ⟨_,rfl,rfl⟩
 rintro _ ⟨po13,rfl,rfl⟩
 clear ho
 dsimp only at h
 refine ww ?_
 obtain⟨o18,ho,h⟩:=bi h
 refine cutS (fun s=>∃po18,o18=Sum.inr po18∧s=⟨[],[]⟩) ?_ ?_
 ·have h0o18:=h
  have h:=ho
  clear ho
  obtain⟨_,hk,h⟩:=bi h
  have hk:=ck_some hk
  refine ww ?_
  refine bL (fun j s=>∃(o18_0:Nat),(o18_0≤x0.Fields.length∧j=x0.Fields.length-o18_0)∧s=⟨[(1,.one (.c (dI x1))),(2,.one (.c (.pt 0 0))),(6,.one (.c (dI ((o18_0:Int)))))],[some (.box [dI x0.Kind,dI x0.N,dS x0.S,dM (x0.List_.map eTValue),dM (x0.Fields.map eTField)])]⟩∧F89_l18 rc84 x0 x1 (x0.Fields.drop o18_0) o18_0=some o18) (x0.Fields.length-0) [some 0] ⟨0,⟨hk.1,rfl⟩,rfl,h⟩ ?_
  rintro _ _ ⟨o18_0,⟨hi,rfl⟩,rfl,h⟩
  refine ww ?_
  refine condS (fun c19=>?_) (fun c19=>?_)
  ·obtain⟨xo18,hxo18,hd⟩:=countY (show(o18_0:Int)<(x0.Fields.length:Int)from c19)
   rw[hd,F89_l18]at h
   refine ww ?_
   obtain⟨o20,ho,h⟩:=bi h
   refine cutS (fun s=>s=⟨[(1,.one (.c (dI x1))),(2,.one (.c (.pt 0 0))),(6,.one (.c (dI ((o18_0:Int))))),(108,.one (.c (dB o20)))],[some (.box [dI x0.Kind,dI x0.N,dS x0.S,dM (x0.List_.map eTValue),dM (x0.Fields.map eTField)])]⟩) ?_ ?_
   ·have h:=ho
    clear ho
    refine ww ?_
    refine t_idxF (enc:=eTField) (xs:=x0.Fields) rfl rfl hxo18 (by rw[eTField_u];rfl) (ww ?_)
    obtain⟨t21,ht21,h⟩:=bi h
    refine cN [] (F121_ok ht21) trivial (ww ?_)
    refine guardDBh h (fun g22 h=>?_) (fun g22 h=>?_)
    ·refine ww ?_
     cases h
     exact eM [some 0] rfl
    refine ww ?_
    refine guardDh h (fun g23 h=>?_) (fun g23 h=>?_)
    ·refine ww ?_
     refine t_idxF (enc:=eTField) (xs:=x0.Fields) rfl rfl hxo18 (by rw[eTField_u];rfl) (ww ?_)
     obtain⟨y24,hy24,h⟩:=bi h
     refine t_idxF (enc:=eTField) (xs:=x0.Fields) rfl rfl hy24 (by rw[eTField_u];rfl) (ww ?_)
     refine guardDBh h (fun g25 h=>?_) (fun g25 h=>?_)
     ·refine ww ?_
      cases h
      exact eM [some 0] rfl
     refine ww ?_
     refine t_idxF (enc:=eTField) (xs:=x0.Fields) rfl rfl hxo18 (by rw[eTField_u];rfl) (ww ?_)
     obtain⟨t26,ht26,h⟩:=bi h
     refine cN [] (ih84 ht26) trivial (ww ?_)
     cases h
     exact eM [some 0] rfl
    refine ww ?_
    refine t_idxF (enc:=eTField) (xs:=x0.Fields) rfl rfl hxo18 (by rw[eTField_u];rfl) (ww ?_)
    obtain⟨t27,ht27,h⟩:=bi h
    refine cN [] (ih84 ht27) trivial (ww ?_)
    cases h
    exact eM [some 0] rfl
   rintro _ rfl
   clear ho
   refine ww ?_
   refine condBh h (fun c28 h=>?_) (fun c28 h=>?_)
   ·refine ww ?_
    obtain⟨fh0o18,hfh0o18,rfl⟩:=Option.map_eq_some_iff.1 h
    have h:=hfh0o18.trans h0o18
    cases h
    exact eF []
   refine ww ?_
   rw[wrapN (by omega)]
   exact eL' (x0.Fields.length-(o18_0+1)) [some 0] ⟨o18_0+1,⟨by omega,rfl⟩,rfl,h⟩ (by omega)
  rw[countN (show¬((o18_0:Int)<(x0.Fields.length:Int))from c19),F89_l18]at h
  refine ww ?_
  cases h
  exact eM [] ⟨_,rfl,rfl⟩
 rintro _ ⟨po18,rfl,rfl⟩
 clear ho
 dsimp only at h
 refine ww ?_
 cases h
 exact eF []
def F89k:Nat→TValue→Int→Option (Bool)
 |0=>fun _ _=>none
 |k+1=>F89 (F89k k)
theorem F89k_ok(k:Nat){x0:TValue}{x1:Int}{r:Bool}(h:F89k k x0 x1=some r):CallD Tryz.prog 89 [.agg [dI x0.Kind,dI x0.N,dS x0.S,dM (x0.List_.map eTValue),dM (x0.Fields.map eTField)],.c (dI x1)] [] (tupV [.c (dB r)]) []:=by
 induction k generalizing x0 x1 r with
 |zero=>cases(show(none:Option (Bool))=some _ from h)
 |succ k ih=>exact F89_ok (fun h=>ih h) h
def F56(x0:Object):Option (ByteArray):=(F93 x0.Meta).bind fun t1=>some t1
def a56:AFn:=⟨6,[(.tmp 2)],
 (.seq (.reg [sq 1 (.box (.t 0)),
sq 2 (.mv (kS ⟨#[]⟩))])
 (.seq (.reg [sq 3 (.fieldA 0 (.t 1)),
sq 4 (.load (some 13) (.t 3)),
sq 5 (.call 93 [(.t 4)]),
sq 2 (.mv (.t 5))])
 .ret))⟩
theorem F56_ok{x0 r}(h:F56 x0=some r):CallD Tryz.prog 56 [.agg [dS x0.Meta.Kind,dS x0.Meta.Namespace,dS x0.Meta.Name,dI x0.Meta.Uid,dI x0.Meta.Version,dI x0.Meta.Generation,dI x0.Meta.Created,dB x0.Meta.Deleting,dI x0.Meta.DeleteAt,dM (x0.Meta.Labels.map eLabel),dM (x0.Meta.Owners.map eOwner),dM (x0.Meta.Finalizers.map eS),dM (x0.Meta.Managers.map eManager),dI x0.Spec.Kind,dI x0.Spec.N,dS x0.Spec.S,dM (x0.Spec.List_.map eTValue),dM (x0.Spec.Fields.map eTField),dI x0.Status.Kind,dI x0.Status.N,dS x0.Status.S,dM (x0.Status.List_.map eTValue),dM (x0.Status.Fields.map eTField)]] [] (tupV [.c (dS r)]) []:=by
 rw[F56]at h
 refine zc a56 (by kernel_rfl) rfl (ww ?_)
 obtain⟨t1,ht1,h⟩:=bi h
 refine cN [] (F93_ok ht1) trivial (ww ?_)
 cases h
 exact eF []
def F64(x0:TValue)(x1:TValue):Option (Bool):=(F98k 1099511627776 x0 x1).bind fun t1=>some (decide (t1=0))
def a64:AFn:=⟨9,[(.tmp 4)],
 (.seq (.reg [sq 2 (.box (.t 0)),
sq 3 (.box (.t 1)),
sq 4 (.mv (kB false))])
 (.seq (.reg [sq 5 (.load (some 5) (.t 2)),
sq 6 (.load (some 5) (.t 3)),
sq 7 (.call 98 [(.t 5),(.t 6)]),
sq 8 (.bin .eql (.t 7) (kI 0)),
sq 4 (.mv (.t 8))])
 .ret))⟩
theorem F64_ok{x0 x1 r}(h:F64 x0 x1=some r):CallD Tryz.prog 64 [.agg [dI x0.Kind,dI x0.N,dS x0.S,dM (x0.List_.map eTValue),dM (x0.Fields.map eTField)],.agg [dI x1.Kind,dI x1.N,dS x1.S,dM (x1.List_.map eTValue),dM (x1.Fields.map eTField)]] [] (tupV [.c (dB r)]) []:=by
 rw[F64]at h
 refine zc a64 (by kernel_rfl) rfl (ww ?_)
 obtain⟨t1,ht1,h⟩:=bi h
 refine cN [] (F98k_ok 1099511627776 ht1) trivial (ww ?_)
 cases h
 exact eF []
end Go.Proofs.YtbopaemngpbdgaaGreat
