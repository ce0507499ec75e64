/- Each Go function as a function over typed data, and its walk. -/
import Derived.Test.YtbopaemngpbdgaaGreatW0
import Derived.Test.YtbopaemngpbdgaaGreatW2
import Derived.Test.YtbopaemngpbdgaaGreatW3
import Derived.Test.YtbopaemngpbdgaaGreatW4
import Derived.Test.YtbopaemngpbdgaaGreatW6
import Derived.Test.YtbopaemngpbdgaaGreatW7
import Derived.Test.YtbopaemngpbdgaaGreatW8
import Derived.Test.YtbopaemngpbdgaaGreatW9
namespace Go.Proofs.YtbopaemngpbdgaaGreat
open Go Go.Fw Go.Shelf
set_option maxRecDepth 100000
set_option maxHeartbeats 4000000
set_option linter.unusedSimpArgs false
set_option linter.unusedVariables false
def F17_l1(x0:(List Object)):Nat→Int→Int→Option (Int)
 |0,_,_=>none
 |k+1,o1_0,o1_1=>(((if o1_1<(x0.length:Int)then some (decide (o1_1≤40))else some false)).bind fun o2=>(if o2=true then(rdI x0 o1_1).bind fun y5=>(F7 y5).bind fun t6=>F17_l1 x0 k ((IntKind.i64.wrap (o1_0+t6))) ((IntKind.i64.wrap (o1_1+1)))else some o1_0))
def F17(x0:(List Object)):Option (Bool):=((F17_l1 x0 1099511627776 0 0).bind fun o1=>(((if(x0.length:Int)≤40 then some (decide (o1≤1500))else some false)).bind fun o7=>some o7))
def a17:AFn:=⟨29,[(.tmp 2)],
 (.seq (.reg [sq 2 (.mv (kB false))])
 (.seq (.reg [sq 3 (.mv (kI 0))])
 (.seq (.seq (.reg [sq 4 (.mv (kI 0))])
 (.sem (.block 0 (.loop (.seq (.seq (.sem (.reg [sq 5 (.mv (.t 4)),
sq 6 (.mv (.t 0)),
sq 7 (.len (.t 6)),
sq 8 (.bin .lss (.t 5) (.t 7)),
sq 9 (.mv (.t 8)),
zg 10 9 true (.mv (.t 4)),
zg 11 9 true (.bin .leq (.t 10) (kI 40)),
zl 12 (.pick (.t 9) (.t 11) (kB false)) [] [6]]))
 (.cond (.t 12)
 .skip
 (.exit 0)))
 (.seq (.block 1 (.reg [sq 15 (.mv (.t 3)),
sq 16 (.mv (.t 0)),
sq 17 (.mv (.t 4)),
sq 18 (.indexA 23 (.t 16) (.t 17)),
sq 19 (.load (some 23) (.t 18)),
sq 20 (.call 7 [(.t 19)]),
sq 21 (.bin .add (.t 15) (.t 20)),
sq 3 (.mv (.t 21))]))
 (.reg [sq 13 (.mv (.t 4)),
sq 14 (.bin .add (.t 13) (kI 1)),
sq 4 (.mv (.t 14))])))))))
 (.seq (.sem (.reg [sq 22 (.mv (.t 0)),
sq 23 (.len (.t 22)),
sq 24 (.bin .leq (.t 23) (kI 40)),
sq 25 (.mv (.t 24)),
zg 26 25 true (.mv (.t 3)),
zg 27 25 true (.bin .leq (.t 26) (kI 1500)),
sq 28 (.pick (.t 25) (.t 27) (kB false)),
sq 2 (.mv (.t 28))]))
 .ret))))⟩
theorem F17_ok{x0 r}(h:F17 x0=some r):CallD Tryz.prog 17 [.c (dM (x0.map eObject))] [] (tupV [.c (dB r)]) []:=by
 rw[F17]at h
 refine zc a17 (by kernel_rfl) rfl (ww ?_)
 obtain⟨o1,ho,h⟩:=bi h
 refine cutS (fun s=>s=⟨[(0,.one (.c (dM (x0.map eObject)))),(3,.one (.c (dI o1)))],[]⟩) ?_ ?_
 ·have h:=ho
  clear ho
  refine ww ?_
  refine bL (fun j s=>∃(o1_0:Int) (o1_1:Int),s=⟨[(0,.one (.c (dM (x0.map eObject)))),(3,.one (.c (dI o1_0))),(4,.one (.c (dI o1_1)))],[]⟩∧F17_l1 x0 j o1_0 o1_1=some o1) 1099511627776 [] ⟨0,0,rfl,h⟩ ?_
  rintro j _ ⟨o1_0,o1_1,rfl,h⟩
  cases j with
  |zero=>cases(show(none:Option _)=some _ from h)
  |succ j=>
   rw[F17_l1]at h
   refine ww ?_
   obtain⟨o2,ho,h⟩:=bi h
   refine cutS (fun s=>s=⟨[(0,.one (.c (dM (x0.map eObject)))),(3,.one (.c (dI o1_0))),(4,.one (.c (dI o1_1))),(12,.one (.c (dB o2)))],[]⟩) ?_ ?_
   ·have h:=ho
    clear ho
    refine ww ?_
    refine guardSh h (fun g3 h=>?_) (fun g3 h=>?_)
    ·refine ww ?_
     cases h
     exact eM [] rfl
    ·refine ww ?_
     cases h
     exact eM [] rfl
   ·rintro _ rfl
    clear ho
    refine ww ?_
    refine condBh h (fun c4 h=>?_) (fun c4 h=>?_)
    ·refine ww ?_
     obtain⟨y5,hy5,h⟩:=bi h
     refine t_idxF (enc:=eObject) (xs:=x0) rfl rfl hy5 rfl (ww ?_)
     obtain⟨t6,ht6,h⟩:=bi h
     refine cN [] (F7_ok ht6) trivial (ww ?_)
     exact eL' j [] ⟨(IntKind.i64.wrap (o1_0+t6)),(IntKind.i64.wrap (o1_1+1)),rfl,h⟩ (Nat.lt_succ_self _)
    ·refine ww ?_
     cases h
     exact eM [] rfl
 rintro _ rfl
 clear ho
 refine ww ?_
 obtain⟨o7,ho,h⟩:=bi h
 refine cutS (fun s=>s=⟨[(2,.one (.c (dB o7)))],[]⟩) ?_ ?_
 ·have h:=ho
  clear ho
  refine ww ?_
  refine guardSh h (fun g8 h=>?_) (fun g8 h=>?_)
  ·refine ww ?_
   cases h
   exact eM [] rfl
  refine ww ?_
  cases h
  exact eM [] rfl
 rintro _ rfl
 clear ho
 refine ww ?_
 cases h
 exact eF []
def F50_l1(x0:(List Object))(x1:Int)(x2:Int):List Object→Nat→(List (Int×Bool))→Option ((Bool) ⊕ (Unit))
 |[],o1_1,o1_0=>some (Sum.inr (()))
 |xo1::xs,o1_1,o1_0=>(((F38 xo1).bind fun t4=>(if(nb t4)=true then some true else(if 0<(o1_1:Int)then(F37 xo1.Meta).bind fun t7=>(rdI x0 ((IntKind.i64.wrap (((o1_1:Int))-1)))).bind fun y8=>(F37 y8.Meta).bind fun t9=>(if((Op.bytesLess t7.toList t9.toList||decide (t7=t9)))=true then some true else(if xo1.Meta.Uid<1 then some true else(if x2≤xo1.Meta.Uid then some true else(if(((getM xo1.Meta.Uid o1_0).getD false))=true then some true else(if xo1.Meta.Version<1 then some true else(if x1<xo1.Meta.Version then some true else some (decide (xo1.Meta.Generation<1))))))))else(if xo1.Meta.Uid<1 then some true else(if x2≤xo1.Meta.Uid then some true else(if(((getM xo1.Meta.Uid o1_0).getD false))=true then some true else(if xo1.Meta.Version<1 then some true else(if x1<xo1.Meta.Version then some true else some (decide (xo1.Meta.Generation<1)))))))))).bind fun o3=>(if o3=true then(some false).map Sum.inl else F50_l1 x0 x1 x2 xs (o1_1+1) ((putM xo1.Meta.Uid true o1_0))))
def F50(x0:(List Object))(x1:Int)(x2:Int):Option (Bool):=(((ck (0≤x0.length∧x0.length≤4294967290)).bind fun u22=>F50_l1 x0 x1 x2 x0 0 ([]):Option ((Bool) ⊕ (Unit))).bind fun o1=>match o1 with|Sum.inl f=>some f|Sum.inr po1=>some (decide ((x0.length:Int)≤500)))
def a50:AFn:=⟨80,[(.tmp 6)],
 (.seq (.reg [sq 6 (.mv (kB false))])
 (.seq (.reg [sq 11 (.mkmap),
sq 7 (.mv (.t 11))])
 (.seq (.seq (.reg [sq 12 (.mv (.t 0)),
sq 13 (.len (.t 12)),
sq 14 (.mv (kI 0))])
 (.sem (.block 0 (.loop (.seq (.reg [sq 15 (.bin .lss (.t 14) (.t 13))])
 (.seq (.cond (.t 15)
 .skip
 (.exit 0))
 (.seq (.block 1 (.seq (.reg [sq 16 (.mv (.t 14)),
sq 17 (.indexA 23 (.t 12) (.t 14)),
sq 18 (.load (some 23) (.t 17)),
sq 9 (.zbox [dS ⟨#[]⟩,dS ⟨#[]⟩,dS ⟨#[]⟩,dI 0,dI 0,dI 0,dI 0,dB false,dI 0,dN,dN,dN,dN,dI 0,dI 0,dS ⟨#[]⟩,dN,dN,dI 0,dI 0,dS ⟨#[]⟩,dN,dN]),
sq 8 (.mv (.t 16)),
su (.store 23 (.t 9) (.t 18))])
 (.seq (.reg [sq 19 (.fieldA 0 (.t 9)),
sq 20 (.load (some 13) (.t 19)),
sq 10 (.zbox [dS ⟨#[]⟩,dS ⟨#[]⟩,dS ⟨#[]⟩,dI 0,dI 0,dI 0,dI 0,dB false,dI 0,dN,dN,dN,dN]),
su (.store 13 (.t 10) (.t 20))])
 (.seq (.seq (.sem (.regd [sq 21 (.load (some 23) (.t 9)),
zl 22 (.call 38 [(.t 21)]) [0] [],
sd 23 (.not (.t 22)) [0,1],
sd 24 (.mv (.t 23)) [0,1,2],
⟨(some 25),(some (24,false)),.mv (.t 8),[0,1,2,3],(.new [])⟩,
⟨(some 26),(some (24,false)),.bin .gtr (.t 25) (kI 0),[0,1,2,3,4],(.new [])⟩,
⟨(some 27),(some (24,false)),.mv (.t 26),[0,1,2,3,4,5],(.new [])⟩,
⟨(some 28),(some (27,true)),.load (some 13) (.t 10),[0,1,2,3,4,5,6],(.new [])⟩,
⟨(some 29),(some (27,true)),.call 37 [(.t 28)],[0,1,2,3,4,5,6,7],(.new [7])⟩,
⟨(some 30),(some (27,true)),.mv (.t 0),[0,1,2,3,4,5,6],(.new [])⟩,
⟨(some 31),(some (27,true)),.mv (.t 8),[0,1,2,3,4,5,6],(.new [])⟩,
⟨(some 32),(some (27,true)),.bin .sub (.t 31) (kI 1),[0,1,2,3,4,5,6,10],(.new [])⟩,
⟨(some 33),(some (27,true)),.indexA 23 (.t 30) (.t 32),[0,1,2,3,4,5,6,9,10,11],(.new [])⟩,
⟨(some 34),(some (27,true)),.fieldA 0 (.t 33),[0,1,2,3,4,5,6,9,10,11,12],(.new [])⟩,
⟨(some 35),(some (27,true)),.load (some 13) (.t 34),[0,1,2,3,4,5,6,9,10,11,12,13],(.new [])⟩,
⟨(some 36),(some (27,true)),.call 37 [(.t 35)],[0,1,2,3,4,5,6,7,8,9,10,11,12,13,14],(.lone [])⟩,
⟨(some 37),(some (27,true)),.bin .leq (.t 29) (.t 36),[0,1,2,3,4,5,6,7,8,9,10,11,12,13,14,15],(.new [])⟩,
⟨(some 38),(some (24,false)),.pick (.t 27) (.t 37) (kB false),[0,1,2,3,4,5,6,7,8,9,10,11,12,13,14,15,16],(.lone [])⟩,
zl 39 (.pick (.t 24) (kB true) (.t 38)) [0,1,2,3,4,5,6,7,8,9,10,11,12,13,14,15,16,17] [],
sd 40 (.mv (.t 39)) [0,1,2,3,4,5,6,7,8,9,10,11,12,13,14,15,16,17,18],
⟨(some 41),(some (40,false)),.fieldA 3 (.t 10),[0,1,2,3,4,5,6,7,8,9,10,11,12,13,14,15,16,17,18,19],(.new [])⟩,
⟨(some 42),(some (40,false)),.load none (.t 41),[0,1,2,3,4,5,6,7,8,9,10,11,12,13,14,15,16,17,18,19,20],(.new [])⟩,
⟨(some 43),(some (40,false)),.bin .lss (.t 42) (kI 1),[0,1,2,3,4,5,6,7,8,9,10,11,12,13,14,15,16,17,18,19,20,21],(.new [])⟩,
zl 44 (.pick (.t 40) (kB true) (.t 43)) [0,1,2,3,4,5,6,7,8,9,10,11,12,13,14,15,16,17,18,19,20,21,22] [],
sd 45 (.mv (.t 44)) [0,1,2,3,4,5,6,7,8,9,10,11,12,13,14,15,16,17,18,19,20,21,22,23],
⟨(some 46),(some (45,false)),.fieldA 3 (.t 10),[0,1,2,3,4,5,6,7,8,9,10,11,12,13,14,15,16,17,18,19,20,21,22,23,24],(.new [])⟩,
⟨(some 47),(some (45,false)),.load none (.t 46),[0,1,2,3,4,5,6,7,8,9,10,11,12,13,14,15,16,17,18,19,20,21,22,23,24,25],(.new [])⟩,
⟨(some 48),(some (45,false)),.mv (.t 2),[0,1,2,3,4,5,6,7,8,9,10,11,12,13,14,15,16,17,18,19,20,21,22,23,24],(.new [])⟩,
⟨(some 49),(some (45,false)),.bin .geq (.t 47) (.t 48),[0,1,2,3,4,5,6,7,8,9,10,11,12,13,14,15,16,17,18,19,20,21,22,23,24,25,26,27],(.new [])⟩,
zl 50 (.pick (.t 45) (kB true) (.t 49)) [0,1,2,3,4,5,6,7,8,9,10,11,12,13,14,15,16,17,18,19,20,21,22,23,24,25,26,27,28] [],
sd 51 (.mv (.t 50)) [0,1,2,3,4,5,6,7,8,9,10,11,12,13,14,15,16,17,18,19,20,21,22,23,24,25,26,27,28,29],
⟨(some 52),(some (51,false)),.mv (.t 7),[0,1,2,3,4,5,6,7,8,9,10,11,12,13,14,15,16,17,18,19,20,21,22,23,24,25,26,27,28,29,30],(.new [])⟩,
⟨(some 53),(some (51,false)),.fieldA 3 (.t 10),[0,1,2,3,4,5,6,7,8,9,10,11,12,13,14,15,16,17,18,19,20,21,22,23,24,25,26,27,28,29,30],(.new [])⟩,
⟨(some 54),(some (51,false)),.load none (.t 53),[0,1,2,3,4,5,6,7,8,9,10,11,12,13,14,15,16,17,18,19,20,21,22,23,24,25,26,27,28,29,30,32],(.new [])⟩,
⟨(some 55),(some (51,false)),.mget 0 false (.c (dB false)) (.t 52) (.t 54),[0,1,2,3,4,5,6,7,8,9,10,11,12,13,14,15,16,17,18,19,20,21,22,23,24,25,26,27,28,29,30,31,32,33],(.lone [])⟩,
zl 56 (.pick (.t 51) (kB true) (.t 55)) [0,1,2,3,4,5,6,7,8,9,10,11,12,13,14,15,16,17,18,19,20,21,22,23,24,25,26,27,28,29,30,31,32,33,34] [],
sd 57 (.mv (.t 56)) [0,1,2,3,4,5,6,7,8,9,10,11,12,13,14,15,16,17,18,19,20,21,22,23,24,25,26,27,28,29,30,31,32,33,34,35],
⟨(some 58),(some (57,false)),.fieldA 4 (.t 10),[0,1,2,3,4,5,6,7,8,9,10,11,12,13,14,15,16,17,18,19,20,21,22,23,24,25,26,27,28,29,30,31,32,33,34,35,36],(.new [])⟩,
⟨(some 59),(some (57,false)),.load none (.t 58),[0,1,2,3,4,5,6,7,8,9,10,11,12,13,14,15,16,17,18,19,20,21,22,23,24,25,26,27,28,29,30,31,32,33,34,35,36,37],(.new [])⟩,
⟨(some 60),(some (57,false)),.bin .lss (.t 59) (kI 1),[0,1,2,3,4,5,6,7,8,9,10,11,12,13,14,15,16,17,18,19,20,21,22,23,24,25,26,27,28,29,30,31,32,33,34,35,36,37,38],(.new [])⟩,
zl 61 (.pick (.t 57) (kB true) (.t 60)) [0,1,2,3,4,5,6,7,8,9,10,11,12,13,14,15,16,17,18,19,20,21,22,23,24,25,26,27,28,29,30,31,32,33,34,35,36,37,38,39] [],
sd 62 (.mv (.t 61)) [0,1,2,3,4,5,6,7,8,9,10,11,12,13,14,15,16,17,18,19,20,21,22,23,24,25,26,27,28,29,30,31,32,33,34,35,36,37,38,39,40],
⟨(some 63),(some (62,false)),.fieldA 4 (.t 10),[0,1,2,3,4,5,6,7,8,9,10,11,12,13,14,15,16,17,18,19,20,21,22,23,24,25,26,27,28,29,30,31,32,33,34,35,36,37,38,39,40,41],(.new [])⟩,
⟨(some 64),(some (62,false)),.load none (.t 63),[0,1,2,3,4,5,6,7,8,9,10,11,12,13,14,15,16,17,18,19,20,21,22,23,24,25,26,27,28,29,30,31,32,33,34,35,36,37,38,39,40,41,42],(.new [])⟩,
⟨(some 65),(some (62,false)),.mv (.t 1),[0,1,2,3,4,5,6,7,8,9,10,11,12,13,14,15,16,17,18,19,20,21,22,23,24,25,26,27,28,29,30,31,32,33,34,35,36,37,38,39,40,41],(.new [])⟩,
⟨(some 66),(some (62,false)),.bin .gtr (.t 64) (.t 65),[0,1,2,3,4,5,6,7,8,9,10,11,12,13,14,15,16,17,18,19,20,21,22,23,24,25,26,27,28,29,30,31,32,33,34,35,36,37,38,39,40,41,42,43,44],(.new [])⟩,
zl 67 (.pick (.t 62) (kB true) (.t 66)) [0,1,2,3,4,5,6,7,8,9,10,11,12,13,14,15,16,17,18,19,20,21,22,23,24,25,26,27,28,29,30,31,32,33,34,35,36,37,38,39,40,41,42,43,44,45] [],
sd 68 (.mv (.t 67)) [0,1,2,3,4,5,6,7,8,9,10,11,12,13,14,15,16,17,18,19,20,21,22,23,24,25,26,27,28,29,30,31,32,33,34,35,36,37,38,39,40,41,42,43,44,45,46],
⟨(some 69),(some (68,false)),.fieldA 5 (.t 10),[0,1,2,3,4,5,6,7,8,9,10,11,12,13,14,15,16,17,18,19,20,21,22,23,24,25,26,27,28,29,30,31,32,33,34,35,36,37,38,39,40,41,42,43,44,45,46,47],(.new [])⟩,
⟨(some 70),(some (68,false)),.load none (.t 69),[0,1,2,3,4,5,6,7,8,9,10,11,12,13,14,15,16,17,18,19,20,21,22,23,24,25,26,27,28,29,30,31,32,33,34,35,36,37,38,39,40,41,42,43,44,45,46,47,48],(.new [])⟩,
⟨(some 71),(some (68,false)),.bin .lss (.t 70) (kI 1),[0,1,2,3,4,5,6,7,8,9,10,11,12,13,14,15,16,17,18,19,20,21,22,23,24,25,26,27,28,29,30,31,32,33,34,35,36,37,38,39,40,41,42,43,44,45,46,47,48,49],(.new [])⟩,
zl 72 (.pick (.t 68) (kB true) (.t 71)) [0,1,2,3,4,5,6,7,8,9,10,11,12,13,14,15,16,17,18,19,20,21,22,23,24,25,26,27,28,29,30,31,32,33,34,35,36,37,38,39,40,41,42,43,44,45,46,47,48,49,50] []]))
 (.cond (.t 72)
 (.seq (.reg [sq 6 (.mv (kB false))])
 .ret)
 .skip))
 (.reg [sq 73 (.mv (.t 7)),
sq 74 (.fieldA 3 (.t 10)),
sq 75 (.load none (.t 74)),
⟨none,none,.mset 0 (.t 73) (.t 75) (kB true),[],(.lone [10,74])⟩])))))
 (.reg [sq 76 (.bin .add (.t 14) (kI 1)),
sq 14 (.mv (.t 76))]))))))))
 (.seq (.reg [sq 77 (.mv (.t 0)),
sq 78 (.len (.t 77)),
sq 79 (.bin .leq (.t 78) (kI 500)),
sq 6 (.mv (.t 79))])
 .ret))))⟩
theorem F50_ok{x0 x1 x2 r}(h:F50 x0 x1 x2=some r):CallD Tryz.prog 50 [.c (dM (x0.map eObject)),.c (dI x1),.c (dI x2)] [] (tupV [.c (dB r)]) []:=by
 rw[F50]at h
 refine zc a50 (by kernel_rfl) rfl (ww ?_)
 refine t_mkmap1 (κ:=Int) (α:=Bool) (enc:=(fun x=> .v (.bool x))) (Value.int .i64) (ww ?_)
 obtain⟨o1,ho,h⟩:=bi h
 refine cutS (fun s=>∃po1,o1=Sum.inr po1∧s=⟨[(0,.one (.c (dM (x0.map eObject))))],[]⟩) ?_ ?_
 ·have h0o1:=h
  have h:=ho
  clear ho
  obtain⟨_,hk,h⟩:=bi h
  have hk:=ck_some hk
  refine ww ?_
  refine bL (fun j s=>∃(o1_1:Nat) (o1_0:List (Int×Bool)),(o1_1≤x0.length∧j=x0.length-o1_1)∧s=⟨[(0,.one (.c (dM (x0.map eObject)))),(1,.one (.c (dI x1))),(2,.one (.c (dI x2))),(7,.one (.c (.mref 0))),(12,.one (.c (dM (x0.map eObject)))),(13,.one (.c (dI ((x0.length:Int))))),(14,.one (.c (dI ((o1_1:Int)))))],[some (.map (eM1 (Value.int .i64) (fun x=> .v (.bool x)) o1_0))]⟩∧F50_l1 x0 x1 x2 (x0.drop o1_1) o1_1 o1_0=some o1) (x0.length-0) [some 0] ⟨0,[],⟨hk.1,rfl⟩,rfl,h⟩ ?_
  rintro _ _ ⟨o1_1,o1_0,⟨hi,rfl⟩,rfl,h⟩
  refine ww ?_
  refine condS (fun c2=>?_) (fun c2=>?_)
  ·obtain⟨xo1,hxo1,hd⟩:=countY (show(o1_1:Int)<(x0.length:Int)from c2)
   rw[hd,F50_l1]at h
   refine ww ?_
   refine t_idxF (enc:=eObject) (xs:=x0) rfl rfl hxo1 rfl (ww ?_)
   obtain⟨o3,ho,h⟩:=bi h
   refine cutS (fun s=>s=⟨[(0,.one (.c (dM (x0.map eObject)))),(1,.one (.c (dI x1))),(2,.one (.c (dI x2))),(7,.one (.c (.mref 0))),(10,.one (.c (.pt 1 0))),(12,.one (.c (dM (x0.map eObject)))),(13,.one (.c (dI ((x0.length:Int))))),(14,.one (.c (dI ((o1_1:Int))))),(72,.one (.c (dB o3)))],[some (.map (eM1 (Value.int .i64) (fun x=> .v (.bool x)) o1_0)),some (.box [dS xo1.Meta.Kind,dS xo1.Meta.Namespace,dS xo1.Meta.Name,dI xo1.Meta.Uid,dI xo1.Meta.Version,dI xo1.Meta.Generation,dI xo1.Meta.Created,dB xo1.Meta.Deleting,dI xo1.Meta.DeleteAt,dM (xo1.Meta.Labels.map eLabel),dM (xo1.Meta.Owners.map eOwner),dM (xo1.Meta.Finalizers.map eS),dM (xo1.Meta.Managers.map eManager)])]⟩) ?_ ?_
   ·have h:=ho
    clear ho
    refine ww ?_
    obtain⟨t4,ht4,h⟩:=bi h
    refine cN [] (F38_ok ht4) trivial (ww ?_)
    refine guardDBh h (fun g5 h=>?_) (fun g5 h=>?_)
    ·refine ww ?_
     cases h
     exact eM [some 0,some 2] rfl
    refine ww ?_
    refine guardDh h (fun g6 h=>?_) (fun g6 h=>?_)
    ·refine ww ?_
     obtain⟨t7,ht7,h⟩:=bi h
     refine cN [] (F37_ok ht7) trivial (ww ?_)
     obtain⟨y8,hy8,h⟩:=bi h
     refine t_idxF (enc:=eObject) (xs:=x0) rfl rfl hy8 rfl (ww ?_)
     obtain⟨t9,ht9,h⟩:=bi h
     refine cN [] (F37_ok ht9) trivial (ww ?_)
     refine guardDBh h (fun g10 h=>?_) (fun g10 h=>?_)
     ·refine ww ?_
      cases h
      exact eM [some 0,some 2] rfl
     refine ww ?_
     refine guardDh h (fun g11 h=>?_) (fun g11 h=>?_)
     ·refine ww ?_
      cases h
      exact eM [some 0,some 2] rfl
     refine ww ?_
     refine guardDh h (fun g12 h=>?_) (fun g12 h=>?_)
     ·refine ww ?_
      cases h
      exact eM [some 0,some 2] rfl
     refine ww ?_
     refine t_mget1 (enc:=(fun x=> .v (.bool x))) (l:=o1_0) (z:=false) kkI rfl rfl rfl rfl (ww ?_)
     refine guardDBh h (fun g13 h=>?_) (fun g13 h=>?_)
     ·refine ww ?_
      cases h
      exact eM [some 0,some 2] rfl
     refine ww ?_
     refine guardDh h (fun g14 h=>?_) (fun g14 h=>?_)
     ·refine ww ?_
      cases h
      exact eM [some 0,some 2] rfl
     refine ww ?_
     refine guardDh h (fun g15 h=>?_) (fun g15 h=>?_)
     ·refine ww ?_
      cases h
      exact eM [some 0,some 2] rfl
     refine ww ?_
     cases h
     exact eM [some 0,some 2] rfl
    refine ww ?_
    refine guardDh h (fun g16 h=>?_) (fun g16 h=>?_)
    ·refine ww ?_
     cases h
     exact eM [some 0,some 2] rfl
    refine ww ?_
    refine guardDh h (fun g17 h=>?_) (fun g17 h=>?_)
    ·refine ww ?_
     cases h
     exact eM [some 0,some 2] rfl
    refine ww ?_
    refine t_mget1 (enc:=(fun x=> .v (.bool x))) (l:=o1_0) (z:=false) kkI rfl rfl rfl rfl (ww ?_)
    refine guardDBh h (fun g18 h=>?_) (fun g18 h=>?_)
    ·refine ww ?_
     cases h
     exact eM [some 0,some 2] rfl
    refine ww ?_
    refine guardDh h (fun g19 h=>?_) (fun g19 h=>?_)
    ·refine ww ?_
     cases h
     exact eM [some 0,some 2] rfl
    refine ww ?_
    refine guardDh h (fun g20 h=>?_) (fun g20 h=>?_)
    ·refine ww ?_
     cases h
     exact eM [some 0,some 2] rfl
    refine ww ?_
    cases h
    exact eM [some 0,some 2] rfl
   rintro _ rfl
   clear ho
   refine ww ?_
   refine condBh h (fun c21 h=>?_) (fun c21 h=>?_)
   ·refine ww ?_
    obtain⟨fh0o1,hfh0o1,rfl⟩:=Option.map_eq_some_iff.1 h
    have h:=hfh0o1.trans h0o1
    cases h
    exact eF []
   refine ww ?_
   refine t_mset1 (enc:=(fun x=> .v (.bool x))) (l:=o1_0) (x:=true) kkI rfl rfl rfl rfl (ww ?_)
   rw[wrapN (by omega)]
   exact eL' (x0.length-(o1_1+1)) [some 0] ⟨o1_1+1,(putM xo1.Meta.Uid true o1_0),⟨by omega,rfl⟩,rfl,h⟩ (by omega)
  rw[countN (show¬((o1_1:Int)<(x0.length:Int))from c2),F50_l1]at h
  refine ww ?_
  cases h
  exact eM [] ⟨_,rfl,rfl⟩
 rintro _ ⟨po1,rfl,rfl⟩
 clear ho
 dsimp only at h
 refine ww ?_
 cases h
 exact eF []
def F92_l2(x1:(List Object)):List Object→Nat→Option ((Bool) ⊕ (Unit))
 |[],o2_0=>some (Sum.inr (()))
 |xo2::xs,o2_0=>(rdI x1 ((o2_0:Int))).bind fun y4=>(F16 xo2 y4).bind fun t5=>(if(nb t5)=true then(some false).map Sum.inl else F92_l2 x1 xs (o2_0+1))
def F92(x0:(List Object))(x1:(List Object)):Option (Bool):=(if¬((x0.length:Int)=(x1.length:Int))then some false else(((ck (0≤x0.length∧x0.length≤4294967290)).bind fun u7=>F92_l2 x1 x0 0:Option ((Bool) ⊕ (Unit))).bind fun o2=>match o2 with|Sum.inl f=>some f|Sum.inr po2=>some true))
def a92:AFn:=⟨32,[(.tmp 6)],
 (.seq (.reg [sq 6 (.mv (kB false))])
 (.seq (.seq (.reg [sq 10 (.mv (.t 0)),
sq 11 (.len (.t 10)),
sq 12 (.mv (.t 1)),
sq 13 (.len (.t 12)),
sq 14 (.bin .neq (.t 11) (.t 13))])
 (.cond (.t 14)
 (.seq (.reg [sq 6 (.mv (kB false))])
 .ret)
 .skip))
 (.seq (.seq (.reg [sq 15 (.mv (.t 0)),
sq 16 (.len (.t 15)),
sq 17 (.mv (kI 0))])
 (.sem (.block 0 (.loop (.seq (.reg [sq 18 (.bin .lss (.t 17) (.t 16))])
 (.seq (.cond (.t 18)
 .skip
 (.exit 0))
 (.seq (.block 1 (.seq (.reg [sq 19 (.mv (.t 17)),
sq 20 (.indexA 23 (.t 15) (.t 17)),
sq 21 (.load (some 23) (.t 20)),
sq 8 (.zbox [dS ⟨#[]⟩,dS ⟨#[]⟩,dS ⟨#[]⟩,dI 0,dI 0,dI 0,dI 0,dB false,dI 0,dN,dN,dN,dN,dI 0,dI 0,dS ⟨#[]⟩,dN,dN,dI 0,dI 0,dS ⟨#[]⟩,dN,dN]),
sq 7 (.mv (.t 19)),
su (.store 23 (.t 8) (.t 21))])
 (.seq (.reg [sq 22 (.mv (.t 1)),
sq 23 (.mv (.t 7)),
sq 24 (.indexA 23 (.t 22) (.t 23)),
sq 25 (.load (some 23) (.t 24)),
sq 9 (.zbox [dS ⟨#[]⟩,dS ⟨#[]⟩,dS ⟨#[]⟩,dI 0,dI 0,dI 0,dI 0,dB false,dI 0,dN,dN,dN,dN,dI 0,dI 0,dS ⟨#[]⟩,dN,dN,dI 0,dI 0,dS ⟨#[]⟩,dN,dN]),
su (.store 23 (.t 9) (.t 25))])
 (.seq (.reg [sq 26 (.mv (.t 2)),
sq 27 (.load (some 23) (.t 8)),
sq 28 (.load (some 23) (.t 9)),
sq 29 (.callv (.t 26) [(.t 27),(.t 28)]),
sq 30 (.not (.t 29))])
 (.cond (.t 30)
 (.seq (.reg [sq 6 (.mv (kB false))])
 .ret)
 .skip)))))
 (.reg [sq 31 (.bin .add (.t 17) (kI 1)),
sq 17 (.mv (.t 31))]))))))))
 (.seq (.reg [sq 6 (.mv (kB true))])
 .ret))))⟩
theorem F92_ok{x0 x1 r}(h:F92 x0 x1=some r):CallD Tryz.prog 92 [.c (dM (x0.map eObject)),.c (dM (x1.map eObject)),.c (.fn 16 [])] [] (tupV [.c (dB r)]) []:=by
 rw[F92]at h
 refine zc a92 (by kernel_rfl) rfl (ww ?_)
 refine condSh h (fun c1 h=>?_) (fun c1 h=>?_)
 ·refine ww ?_
  cases h
  exact eF []
 refine ww ?_
 obtain⟨o2,ho,h⟩:=bi h
 refine cutS (fun s=>∃po2,o2=Sum.inr po2∧s=⟨[],[]⟩) ?_ ?_
 ·have h0o2:=h
  have h:=ho
  clear ho
  obtain⟨_,hk,h⟩:=bi h
  have hk:=ck_some hk
  refine ww ?_
  refine bL (fun j s=>∃(o2_0:Nat),(o2_0≤x0.length∧j=x0.length-o2_0)∧s=⟨[(1,.one (.c (dM (x1.map eObject)))),(2,.one (.c (.fn 16 []))),(15,.one (.c (dM (x0.map eObject)))),(16,.one (.c (dI ((x0.length:Int))))),(17,.one (.c (dI ((o2_0:Int)))))],[]⟩∧F92_l2 x1 (x0.drop o2_0) o2_0=some o2) (x0.length-0) [] ⟨0,⟨hk.1,rfl⟩,rfl,h⟩ ?_
  rintro _ _ ⟨o2_0,⟨hi,rfl⟩,rfl,h⟩
  refine ww ?_
  refine condS (fun c3=>?_) (fun c3=>?_)
  ·obtain⟨xo2,hxo2,hd⟩:=countY (show(o2_0:Int)<(x0.length:Int)from c3)
   rw[hd,F92_l2]at h
   refine ww ?_
   refine t_idxF (enc:=eObject) (xs:=x0) rfl rfl hxo2 rfl (ww ?_)
   obtain⟨y4,hy4,h⟩:=bi h
   refine t_idxF (enc:=eObject) (xs:=x1) rfl rfl hy4 rfl (ww ?_)
   obtain⟨t5,ht5,h⟩:=bi h
   refine cN [] (F16_ok ht5) trivial (ww ?_)
   refine condBh h (fun c6 h=>?_) (fun c6 h=>?_)
   ·refine ww ?_
    obtain⟨fh0o2,hfh0o2,rfl⟩:=Option.map_eq_some_iff.1 h
    have h:=hfh0o2.trans h0o2
    cases h
    exact eF []
   refine ww ?_
   rw[wrapN (by omega)]
   exact eL' (x0.length-(o2_0+1)) [] ⟨o2_0+1,⟨by omega,rfl⟩,rfl,h⟩ (by omega)
  rw[countN (show¬((o2_0:Int)<(x0.length:Int))from c3),F92_l2]at h
  refine ww ?_
  cases h
  exact eM [] ⟨_,rfl,rfl⟩
 rintro _ ⟨po2,rfl,rfl⟩
 clear ho
 dsimp only at h
 refine ww ?_
 cases h
 exact eF []
def F53(x0:(List Object))(x1:(List Object)):Option (Bool):=(F92 x0 x1).bind fun t1=>some t1
def a53:AFn:=⟨8,[(.tmp 4)],
 (.seq (.reg [sq 4 (.mv (kB false))])
 (.seq (.reg [sq 5 (.mv (.t 0)),
sq 6 (.mv (.t 1)),
sq 7 (.call 92 [(.t 5),(.t 6),(.f 16)]),
sq 4 (.mv (.t 7))])
 .ret))⟩
theorem F53_ok{x0 x1 r}(h:F53 x0 x1=some r):CallD Tryz.prog 53 [.c (dM (x0.map eObject)),.c (dM (x1.map eObject))] [] (tupV [.c (dB r)]) []:=by
 rw[F53]at h
 refine zc a53 (by kernel_rfl) rfl (ww ?_)
 obtain⟨t1,ht1,h⟩:=bi h
 refine cN [] (F92_ok ht1) trivial (ww ?_)
 cases h
 exact eF []
def F18_l15(x0:TStore):List Change→Nat→(List Object)→Option ((Bool) ⊕ ((List Object)))
 |[],o15_1,o15_0=>some (Sum.inr o15_0)
 |xo15::xs,o15_1,o15_0=>(((if¬(xo15.Rev=(IntKind.i64.wrap (((IntKind.i64.wrap (x0.Floor+1)))+((o15_1:Int)))))then some true else(if¬(xo15.Kind=1)then(if¬(xo15.Kind=2)then some true else(F38 xo15.Object).bind fun t21=>(if(nb t21)=true then some true else some (decide (¬(xo15.Object.Meta.Version=xo15.Rev)))))else(F38 xo15.Object).bind fun t23=>(if(nb t23)=true then some true else some (decide (¬(xo15.Object.Meta.Version=xo15.Rev))))))).bind fun o17=>(if o17=true then(some false).map Sum.inl else(F52 o15_0 xo15).bind fun t26=>(if(nb t26.2)=true then(some false).map Sum.inl else F18_l15 x0 xs (o15_1+1) t26.1)))
def F18(x0:TStore):Option (Bool):=(((if x0.Floor<0 then some true else(if x0.Rev<x0.Floor then some true else(if 1000000000000000<x0.Rev then some true else(if x0.NextUid<1 then some true else(if 1000000000000000<x0.NextUid then some true else(if¬((x0.History.length:Int)=(IntKind.i64.wrap (x0.Rev-x0.Floor)))then some true else some (decide (4000<(x0.History.length:Int)))))))))).bind fun o1=>(if o1=true then some false else(((F50 x0.Base x0.Floor x0.NextUid).bind fun t10=>(if(nb t10)=true then some true else(F50 x0.Objects x0.Rev x0.NextUid).bind fun t12=>some (nb t12))).bind fun o9=>(if o9=true then some false else(cloneI x0.Base).bind fun t14=>(((ck (0≤x0.History.length∧x0.History.length≤4294967290)).bind fun u28=>F18_l15 x0 x0.History 0 t14:Option ((Bool) ⊕ ((List Object)))).bind fun o15=>match o15 with|Sum.inl f=>some f|Sum.inr po15=>(F53 po15 x0.Objects).bind fun t29=>some t29)))))
def a18:AFn:=⟨124,[(.tmp 2)],
 (.seq (.reg [sq 1 (.box (.t 0)),
sq 2 (.mv (kB false))])
 (.seq (.seq (.sem (.reg [sq 7 (.fieldA 1 (.t 1)),
sq 8 (.load none (.t 7)),
sq 9 (.bin .lss (.t 8) (kI 0)),
sq 10 (.mv (.t 9)),
zg 11 10 false (.fieldA 1 (.t 1)),
zg 12 10 false (.load none (.t 11)),
zg 13 10 false (.fieldA 0 (.t 1)),
zg 14 10 false (.load none (.t 13)),
zg 15 10 false (.bin .gtr (.t 12) (.t 14)),
sq 16 (.pick (.t 10) (kB true) (.t 15)),
sq 17 (.mv (.t 16)),
zg 18 17 false (.fieldA 0 (.t 1)),
zg 19 17 false (.load none (.t 18)),
zg 20 17 false (.bin .gtr (.t 19) (kI 1000000000000000)),
sq 21 (.pick (.t 17) (kB true) (.t 20)),
sq 22 (.mv (.t 21)),
zg 23 22 false (.fieldA 2 (.t 1)),
zg 24 22 false (.load none (.t 23)),
zg 25 22 false (.bin .lss (.t 24) (kI 1)),
sq 26 (.pick (.t 22) (kB true) (.t 25)),
sq 27 (.mv (.t 26)),
zg 28 27 false (.fieldA 2 (.t 1)),
zg 29 27 false (.load none (.t 28)),
zg 30 27 false (.bin .gtr (.t 29) (kI 1000000000000000)),
sq 31 (.pick (.t 27) (kB true) (.t 30)),
sq 32 (.mv (.t 31)),
zg 33 32 false (.fieldA 5 (.t 1)),
zg 34 32 false (.load none (.t 33)),
zg 35 32 false (.len (.t 34)),
zg 36 32 false (.fieldA 0 (.t 1)),
zg 37 32 false (.load none (.t 36)),
zg 38 32 false (.fieldA 1 (.t 1)),
zg 39 32 false (.load none (.t 38)),
zg 40 32 false (.bin .sub (.t 37) (.t 39)),
zg 41 32 false (.bin .neq (.t 35) (.t 40)),
sq 42 (.pick (.t 32) (kB true) (.t 41)),
sq 43 (.mv (.t 42)),
zg 44 43 false (.fieldA 5 (.t 1)),
zg 45 43 false (.load none (.t 44)),
zg 46 43 false (.len (.t 45)),
zg 47 43 false (.bin .gtr (.t 46) (kI 4000)),
sq 48 (.pick (.t 43) (kB true) (.t 47))]))
 (.cond (.t 48)
 (.seq (.reg [sq 2 (.mv (kB false))])
 .ret)
 .skip))
 (.seq (.seq (.sem (.reg [sq 49 (.fieldA 3 (.t 1)),
sq 50 (.load none (.t 49)),
sq 51 (.fieldA 1 (.t 1)),
sq 52 (.load none (.t 51)),
sq 53 (.fieldA 2 (.t 1)),
sq 54 (.load none (.t 53)),
sq 55 (.call 50 [(.t 50),(.t 52),(.t 54)]),
sq 56 (.not (.t 55)),
sq 57 (.mv (.t 56)),
zg 58 57 false (.fieldA 4 (.t 1)),
zg 59 57 false (.load none (.t 58)),
zg 60 57 false (.fieldA 0 (.t 1)),
zg 61 57 false (.load none (.t 60)),
zg 62 57 false (.fieldA 2 (.t 1)),
zg 63 57 false (.load none (.t 62)),
zg 64 57 false (.call 50 [(.t 59),(.t 61),(.t 63)]),
zg 65 57 false (.not (.t 64)),
sq 66 (.pick (.t 57) (kB true) (.t 65))]))
 (.cond (.t 66)
 (.seq (.reg [sq 2 (.mv (kB false))])
 .ret)
 .skip))
 (.seq (.reg [sq 67 (.fieldA 3 (.t 1)),
sq 68 (.load none (.t 67)),
sq 69 (.call 51 [(.t 68)]),
sq 3 (.mv (.t 69))])
 (.seq (.seq (.reg [sq 70 (.fieldA 5 (.t 1)),
sq 71 (.load none (.t 70)),
sq 72 (.len (.t 71)),
sq 73 (.mv (kI 0))])
 (.sem (.block 0 (.loop (.seq (.reg [sq 74 (.bin .lss (.t 73) (.t 72))])
 (.seq (.cond (.t 74)
 .skip
 (.exit 0))
 (.seq (.block 1 (.seq (.reg [sq 75 (.mv (.t 73)),
sq 76 (.indexA 25 (.t 71) (.t 73)),
sq 77 (.load (some 25) (.t 76)),
sq 5 (.zbox [dI 0,dI 0,dS ⟨#[]⟩,dS ⟨#[]⟩,dS ⟨#[]⟩,dI 0,dI 0,dI 0,dI 0,dB false,dI 0,dN,dN,dN,dN,dI 0,dI 0,dS ⟨#[]⟩,dN,dN,dI 0,dI 0,dS ⟨#[]⟩,dN,dN]),
sq 4 (.mv (.t 75)),
su (.store 25 (.t 5) (.t 77))])
 (.seq (.seq (.sem (.reg [sq 78 (.fieldA 0 (.t 5)),
sq 79 (.load none (.t 78)),
sq 80 (.fieldA 1 (.t 1)),
sq 81 (.load none (.t 80)),
sq 82 (.bin .add (.t 81) (kI 1)),
sq 83 (.mv (.t 4)),
sq 84 (.bin .add (.t 82) (.t 83)),
sq 85 (.bin .neq (.t 79) (.t 84)),
sq 86 (.mv (.t 85)),
zg 87 86 false (.fieldA 1 (.t 5)),
zg 88 86 false (.load none (.t 87)),
zg 89 86 false (.bin .neq (.t 88) (kI 1)),
zg 90 86 false (.mv (.t 89)),
zg 91 90 true (.fieldA 1 (.t 5)),
zg 92 90 true (.load none (.t 91)),
zg 93 90 true (.bin .neq (.t 92) (kI 2)),
zg 94 86 false (.pick (.t 90) (.t 93) (kB false)),
sq 95 (.pick (.t 86) (kB true) (.t 94)),
sq 96 (.mv (.t 95)),
zg 97 96 false (.fieldA 2 (.t 5)),
zg 98 96 false (.load (some 23) (.t 97)),
zg 99 96 false (.call 38 [(.t 98)]),
zg 100 96 false (.not (.t 99)),
sq 101 (.pick (.t 96) (kB true) (.t 100)),
sq 102 (.mv (.t 101)),
zg 103 102 false (.fieldA 2 (.t 5)),
zg 104 102 false (.fieldA 0 (.t 103)),
zg 105 102 false (.fieldA 4 (.t 104)),
zg 106 102 false (.load none (.t 105)),
zg 107 102 false (.fieldA 0 (.t 5)),
zg 108 102 false (.load none (.t 107)),
zg 109 102 false (.bin .neq (.t 106) (.t 108)),
sq 110 (.pick (.t 102) (kB true) (.t 109))]))
 (.cond (.t 110)
 (.seq (.reg [sq 2 (.mv (kB false))])
 .ret)
 .skip))
 (.seq (.reg [sq 6 (.mv (kB false))])
 (.seq (.reg [sq 112 (.mv (.t 3)),
sq 113 (.load (some 25) (.t 5)),
sq 114 (.call 52 [(.t 112),(.t 113)]),
sq 111 (.mv (.t 114)),
sq 115 (.ext (.t 111) 0),
sq 116 (.ext (.t 111) 1),
sq 3 (.mv (.t 115)),
sq 6 (.mv (.t 116))])
 (.seq (.reg [sq 117 (.mv (.t 6)),
sq 118 (.not (.t 117))])
 (.cond (.t 118)
 (.seq (.reg [sq 2 (.mv (kB false))])
 .ret)
 .skip)))))))
 (.reg [sq 119 (.bin .add (.t 73) (kI 1)),
sq 73 (.mv (.t 119))]))))))))
 (.seq (.reg [sq 120 (.mv (.t 3)),
sq 121 (.fieldA 4 (.t 1)),
sq 122 (.load none (.t 121)),
sq 123 (.call 53 [(.t 120),(.t 122)]),
sq 2 (.mv (.t 123))])
 .ret))))))⟩
theorem F18_ok{x0 r}(h:F18 x0=some r):CallD Tryz.prog 18 [.agg [dI x0.Rev,dI x0.Floor,dI x0.NextUid,dM (x0.Base.map eObject),dM (x0.Objects.map eObject),dM (x0.History.map eChange)]] [] (tupV [.c (dB r)]) []:=by
 rw[F18]at h
 refine zc a18 (by kernel_rfl) rfl (ww ?_)
 obtain⟨o1,ho,h⟩:=bi h
 refine cutS (fun s=>s=⟨[(1,.one (.c (.pt 0 0))),(48,.one (.c (dB o1)))],[some (.box [dI x0.Rev,dI x0.Floor,dI x0.NextUid,dM (x0.Base.map eObject),dM (x0.Objects.map eObject),dM (x0.History.map eChange)])]⟩) ?_ ?_
 ·have h:=ho
  clear ho
  refine ww ?_
  refine guardSh h (fun g2 h=>?_) (fun g2 h=>?_)
  ·refine ww ?_
   cases h
   exact eM [some 0] rfl
  refine ww ?_
  refine guardSh h (fun g3 h=>?_) (fun g3 h=>?_)
  ·refine ww ?_
   cases h
   exact eM [some 0] rfl
  refine ww ?_
  refine guardSh h (fun g4 h=>?_) (fun g4 h=>?_)
  ·refine ww ?_
   cases h
   exact eM [some 0] rfl
  refine ww ?_
  refine guardSh h (fun g5 h=>?_) (fun g5 h=>?_)
  ·refine ww ?_
   cases h
   exact eM [some 0] rfl
  refine ww ?_
  refine guardSh h (fun g6 h=>?_) (fun g6 h=>?_)
  ·refine ww ?_
   cases h
   exact eM [some 0] rfl
  refine ww ?_
  refine guardSh h (fun g7 h=>?_) (fun g7 h=>?_)
  ·refine ww ?_
   cases h
   exact eM [some 0] rfl
  refine ww ?_
  cases h
  exact eM [some 0] rfl
 rintro _ rfl
 clear ho
 refine ww ?_
 refine condBh h (fun c8 h=>?_) (fun c8 h=>?_)
 ·refine ww ?_
  cases h
  exact eF []
 refine ww ?_
 obtain⟨o9,ho,h⟩:=bi h
 refine cutS (fun s=>s=⟨[(1,.one (.c (.pt 0 0))),(66,.one (.c (dB o9)))],[some (.box [dI x0.Rev,dI x0.Floor,dI x0.NextUid,dM (x0.Base.map eObject),dM (x0.Objects.map eObject),dM (x0.History.map eChange)])]⟩) ?_ ?_
 ·have h:=ho
  clear ho
  refine ww ?_
  obtain⟨t10,ht10,h⟩:=bi h
  refine cN [] (F50_ok ht10) trivial (ww ?_)
  refine guardSBh h (fun g11 h=>?_) (fun g11 h=>?_)
  ·refine ww ?_
   cases h
   exact eM [some 0] rfl
  refine ww ?_
  obtain⟨t12,ht12,h⟩:=bi h
  refine cN [] (F50_ok ht12) trivial (ww ?_)
  cases h
  exact eM [some 0] rfl
 rintro _ rfl
 clear ho
 refine ww ?_
 refine condBh h (fun c13 h=>?_) (fun c13 h=>?_)
 ·refine ww ?_
  cases h
  exact eF []
 refine ww ?_
 obtain⟨t14,ht14,h⟩:=bi h
 refine cN [] (F51_ok ht14) trivial (ww ?_)
 obtain⟨o15,ho,h⟩:=bi h
 refine cutS (fun s=>∃po15,o15=Sum.inr po15∧s=⟨[(1,.one (.c (.pt 0 0))),(3,.one (.c (.own 1 0 0 (po15.length) none)))],[some (.box [dI x0.Rev,dI x0.Floor,dI x0.NextUid,dM (x0.Base.map eObject),dM (x0.Objects.map eObject),dM (x0.History.map eChange)]),some (.arr 0 23 (po15.map eObject))]⟩) ?_ ?_
 ·have h0o15:=h
  have h:=ho
  clear ho
  obtain⟨_,hk,h⟩:=bi h
  have hk:=ck_some hk
  refine ww ?_
  refine bL (fun j s=>∃(o15_1:Nat) (o15_0:List Object),(o15_1≤x0.History.length∧j=x0.History.length-o15_1)∧s=⟨[(1,.one (.c (.pt 0 0))),(3,.one (.c (.own 1 0 0 (o15_0.length) none))),(71,.one (.c (dM (x0.History.map eChange)))),(72,.one (.c (dI ((x0.History.length:Int))))),(73,.one (.c (dI ((o15_1:Int)))))],[some (.box [dI x0.Rev,dI x0.Floor,dI x0.NextUid,dM (x0.Base.map eObject),dM (x0.Objects.map eObject),dM (x0.History.map eChange)]),some (.arr 0 23 (o15_0.map eObject))]⟩∧F18_l15 x0 (x0.History.drop o15_1) o15_1 o15_0=some o15) (x0.History.length-0) [some 0,some 1] ⟨0,t14,⟨hk.1,rfl⟩,rfl,h⟩ ?_
  rintro _ _ ⟨o15_1,o15_0,⟨hi,rfl⟩,rfl,h⟩
  refine ww ?_
  refine condS (fun c16=>?_) (fun c16=>?_)
  ·obtain⟨xo15,hxo15,hd⟩:=countY (show(o15_1:Int)<(x0.History.length:Int)from c16)
   rw[hd,F18_l15]at h
   refine ww ?_
   refine t_idxF (enc:=eChange) (xs:=x0.History) rfl rfl hxo15 rfl (ww ?_)
   obtain⟨o17,ho,h⟩:=bi h
   refine cutS (fun s=>s=⟨[(1,.one (.c (.pt 0 0))),(3,.one (.c (.own 1 0 0 (o15_0.length) none))),(5,.one (.c (.pt 2 0))),(71,.one (.c (dM (x0.History.map eChange)))),(72,.one (.c (dI ((x0.History.length:Int))))),(73,.one (.c (dI ((o15_1:Int))))),(110,.one (.c (dB o17)))],[some (.box [dI x0.Rev,dI x0.Floor,dI x0.NextUid,dM (x0.Base.map eObject),dM (x0.Objects.map eObject),dM (x0.History.map eChange)]),some (.arr 0 23 (o15_0.map eObject)),some (.box [dI xo15.Rev,dI xo15.Kind,dS xo15.Object.Meta.Kind,dS xo15.Object.Meta.Namespace,dS xo15.Object.Meta.Name,dI xo15.Object.Meta.Uid,dI xo15.Object.Meta.Version,dI xo15.Object.Meta.Generation,dI xo15.Object.Meta.Created,dB xo15.Object.Meta.Deleting,dI xo15.Object.Meta.DeleteAt,dM (xo15.Object.Meta.Labels.map eLabel),dM (xo15.Object.Meta.Owners.map eOwner),dM (xo15.Object.Meta.Finalizers.map eS),dM (xo15.Object.Meta.Managers.map eManager),dI xo15.Object.Spec.Kind,dI xo15.Object.Spec.N,dS xo15.Object.Spec.S,dM (xo15.Object.Spec.List_.map eTValue),dM (xo15.Object.Spec.Fields.map eTField),dI xo15.Object.Status.Kind,dI xo15.Object.Status.N,dS xo15.Object.Status.S,dM (xo15.Object.Status.List_.map eTValue),dM (xo15.Object.Status.Fields.map eTField)])]⟩) ?_ ?_
   ·have h:=ho
    clear ho
    refine ww ?_
    refine guardSh h (fun g18 h=>?_) (fun g18 h=>?_)
    ·refine ww ?_
     cases h
     exact eM [some 0,some 1,some 2] rfl
    refine ww ?_
    refine guardSh h (fun g19 h=>?_) (fun g19 h=>?_)
    ·refine ww ?_
     refine guardSh h (fun g20 h=>?_) (fun g20 h=>?_)
     ·refine ww ?_
      cases h
      exact eM [some 0,some 1,some 2] rfl
     refine ww ?_
     obtain⟨t21,ht21,h⟩:=bi h
     refine cN [] (F38_ok ht21) trivial (ww ?_)
     refine guardSBh h (fun g22 h=>?_) (fun g22 h=>?_)
     ·refine ww ?_
      cases h
      exact eM [some 0,some 1,some 2] rfl
     refine ww ?_
     cases h
     exact eM [some 0,some 1,some 2] rfl
    refine ww ?_
    obtain⟨t23,ht23,h⟩:=bi h
    refine cN [] (F38_ok ht23) trivial (ww ?_)
    refine guardSBh h (fun g24 h=>?_) (fun g24 h=>?_)
    ·refine ww ?_
     cases h
     exact eM [some 0,some 1,some 2] rfl
    refine ww ?_
    cases h
    exact eM [some 0,some 1,some 2] rfl
   rintro _ rfl
   clear ho
   refine ww ?_
   refine condBh h (fun c25 h=>?_) (fun c25 h=>?_)
   ·refine ww ?_
    obtain⟨fh0o15,hfh0o15,rfl⟩:=Option.map_eq_some_iff.1 h
    have h:=hfh0o15.trans h0o15
    cases h
    exact eF []
   refine ww ?_
   obtain⟨t26,ht26,h⟩:=bi h
   refine cN [1] (F52_ok (e0:=0) ht26) ⟨⟨rfl,trivial⟩,trivial⟩ ?_
   refine ww ?_
   refine condBh h (fun c27 h=>?_) (fun c27 h=>?_)
   ·refine ww ?_
    obtain⟨fh0o15,hfh0o15,rfl⟩:=Option.map_eq_some_iff.1 h
    have h:=hfh0o15.trans h0o15
    cases h
    exact eF []
   refine ww ?_
   rw[wrapN (by omega)]
   exact eL' (x0.History.length-(o15_1+1)) [some 0,some 1] ⟨o15_1+1,t26.1,⟨by omega,rfl⟩,rfl,h⟩ (by omega)
  rw[countN (show¬((o15_1:Int)<(x0.History.length:Int))from c16),F18_l15]at h
  refine ww ?_
  cases h
  exact eM [some 0,some 1] ⟨_,rfl,rfl⟩
 rintro _ ⟨po15,rfl,rfl⟩
 clear ho
 dsimp only at h
 refine ww ?_
 obtain⟨t29,ht29,h⟩:=bi h
 refine callX_bor (F53_ok ht29) (by simp only[borAs,bors,hp,List.getElem?_cons_zero,List.getElem?_cons_succ,Option.join_some,List.drop_zero,bor_full',true_and,Nat.zero_add,List.length_map,Nat.le_refl,nrm,List.length_cons,List.length_nil,Nat.reduceAdd,Nat.reduceLeDiff,List.take_succ_cons,List.take_zero,List.take_nil,List.map_cons,List.map_nil,List.length_set,EE.down]) rfl ?_
 refine ww ?_
 cases h
 exact eF []
def F54_l17(o1_0:Nat)(x0:(List Object))(xo1:Object):Nat→Int→Option (((Bool) ⊕ (Unit)) ⊕ (Unit))
 |0,_=>none
 |k+1,o17_0=>(if o17_0<(o1_0:Int)then(rdI x0 o17_0).bind fun y19=>(if y19.Meta.Uid=xo1.Meta.Uid then((some false).map Sum.inl).map Sum.inl else F54_l17 o1_0 x0 xo1 k ((IntKind.i64.wrap (o17_0+1))))else some (Sum.inr (())))
def F54_l1(x0:(List Object))(x1:Int)(x2:Int):List Object→Nat→Option ((Bool) ⊕ (Unit))
 |[],o1_0=>some (Sum.inr (()))
 |xo1::xs,o1_0=>(((F14 xo1).bind fun t4=>(if(nb t4)=true then some true else(if xo1.Meta.Uid<1 then some true else(if x2≤xo1.Meta.Uid then some true else(if xo1.Meta.Version<1 then some true else(if x1<xo1.Meta.Version then some true else some (decide (xo1.Meta.Generation<1)))))))).bind fun o3=>(if o3=true then(some false).map Sum.inl else(((if 0<(o1_0:Int)then(rdI x0 ((IntKind.i64.wrap (((o1_0:Int))-1)))).bind fun y13=>(F56 y13).bind fun t14=>(F56 xo1).bind fun t15=>some (nb (Op.bytesLess t14.toList t15.toList))else some false)).bind fun o11=>(if o11=true then(some false).map Sum.inl else((F54_l17 o1_0 x0 xo1 1099511627776 0:Option (((Bool) ⊕ (Unit)) ⊕ (Unit))).bind fun o17=>match o17 with|Sum.inl f=>some f|Sum.inr po17=>F54_l1 x0 x1 x2 xs (o1_0+1))))))
def F54(x0:(List Object))(x1:Int)(x2:Int):Option (Bool):=(((ck (0≤x0.length∧x0.length≤4294967290)).bind fun u21=>F54_l1 x0 x1 x2 x0 0:Option ((Bool) ⊕ (Unit))).bind fun o1=>match o1 with|Sum.inl f=>some f|Sum.inr po1=>some (decide ((x0.length:Int)≤500)))
def a54:AFn:=⟨87,[(.tmp 6)],
 (.seq (.reg [sq 6 (.mv (kB false))])
 (.seq (.seq (.reg [sq 7 (.mv (kI 0))])
 (.sem (.block 0 (.loop (.seq (.seq (.reg [sq 10 (.mv (.t 7)),
sq 11 (.mv (.t 0)),
sq 12 (.len (.t 11)),
sq 13 (.bin .lss (.t 10) (.t 12))])
 (.cond (.t 13)
 .skip
 (.exit 0)))
 (.seq (.block 1 (.seq (.reg [sq 16 (.mv (.t 0)),
sq 17 (.mv (.t 7)),
sq 18 (.indexA 23 (.t 16) (.t 17)),
sq 19 (.fieldA 0 (.t 18)),
sq 20 (.load (some 13) (.t 19)),
sq 8 (.zbox [dS ⟨#[]⟩,dS ⟨#[]⟩,dS ⟨#[]⟩,dI 0,dI 0,dI 0,dI 0,dB false,dI 0,dN,dN,dN,dN]),
su (.store 13 (.t 8) (.t 20))])
 (.seq (.seq (.sem (.reg [sq 21 (.mv (.t 0)),
sq 22 (.mv (.t 7)),
sq 23 (.indexA 23 (.t 21) (.t 22)),
sq 24 (.load (some 23) (.t 23)),
sq 25 (.call 14 [(.t 24)]),
sq 26 (.not (.t 25)),
sq 27 (.mv (.t 26)),
zg 28 27 false (.fieldA 3 (.t 8)),
zg 29 27 false (.load none (.t 28)),
zg 30 27 false (.bin .lss (.t 29) (kI 1)),
sq 31 (.pick (.t 27) (kB true) (.t 30)),
sq 32 (.mv (.t 31)),
zg 33 32 false (.fieldA 3 (.t 8)),
zg 34 32 false (.load none (.t 33)),
zg 35 32 false (.mv (.t 2)),
zg 36 32 false (.bin .geq (.t 34) (.t 35)),
sq 37 (.pick (.t 32) (kB true) (.t 36)),
sq 38 (.mv (.t 37)),
zg 39 38 false (.fieldA 4 (.t 8)),
zg 40 38 false (.load none (.t 39)),
zg 41 38 false (.bin .lss (.t 40) (kI 1)),
sq 42 (.pick (.t 38) (kB true) (.t 41)),
sq 43 (.mv (.t 42)),
zg 44 43 false (.fieldA 4 (.t 8)),
zg 45 43 false (.load none (.t 44)),
zg 46 43 false (.mv (.t 1)),
zg 47 43 false (.bin .gtr (.t 45) (.t 46)),
sq 48 (.pick (.t 43) (kB true) (.t 47)),
sq 49 (.mv (.t 48)),
zg 50 49 false (.fieldA 5 (.t 8)),
zg 51 49 false (.load none (.t 50)),
zg 52 49 false (.bin .lss (.t 51) (kI 1)),
sq 53 (.pick (.t 49) (kB true) (.t 52))]))
 (.cond (.t 53)
 (.seq (.reg [sq 6 (.mv (kB false))])
 .ret)
 .skip))
 (.seq (.seq (.sem (.regd [sq 54 (.mv (.t 7)),
sd 55 (.bin .gtr (.t 54) (kI 0)) [0],
sd 56 (.mv (.t 55)) [0,1],
⟨(some 57),(some (56,true)),.mv (.t 0),[0,1,2],(.new [])⟩,
⟨(some 58),(some (56,true)),.mv (.t 7),[0,1,2],(.new [])⟩,
⟨(some 59),(some (56,true)),.bin .sub (.t 58) (kI 1),[0,1,2,4],(.new [])⟩,
⟨(some 60),(some (56,true)),.indexA 23 (.t 57) (.t 59),[0,1,2,3,4,5],(.new [])⟩,
⟨(some 61),(some (56,true)),.load (some 23) (.t 60),[0,1,2,3,4,5,6],(.new [])⟩,
⟨(some 62),(some (56,true)),.call 56 [(.t 61)],[0,1,2,3,4,5,6,7],(.new [3,4,5,6,7])⟩,
⟨(some 63),(some (56,true)),.mv (.t 0),[0,1,2],(.new [])⟩,
⟨(some 64),(some (56,true)),.mv (.t 7),[0,1,2],(.new [])⟩,
⟨(some 65),(some (56,true)),.indexA 23 (.t 63) (.t 64),[0,1,2,9,10],(.new [])⟩,
⟨(some 66),(some (56,true)),.load (some 23) (.t 65),[0,1,2,9,10,11],(.new [])⟩,
⟨(some 67),(some (56,true)),.call 56 [(.t 66)],[0,1,2,3,4,5,6,7,8,9,10,11,12],(.lone [])⟩,
⟨(some 68),(some (56,true)),.bin .geq (.t 62) (.t 67),[0,1,2,3,4,5,6,7,8,9,10,11,12,13],(.new [])⟩,
zl 69 (.pick (.t 56) (.t 68) (kB false)) [0,1,2,3,4,5,6,7,8,9,10,11,12,13,14] []]))
 (.cond (.t 69)
 (.seq (.reg [sq 6 (.mv (kB false))])
 .ret)
 .skip))
 (.seq (.reg [sq 9 (.mv (kI 0))])
 (.sem (.block 2 (.loop (.seq (.seq (.reg [sq 70 (.mv (.t 9)),
sq 71 (.mv (.t 7)),
sq 72 (.bin .lss (.t 70) (.t 71))])
 (.cond (.t 72)
 .skip
 (.exit 2)))
 (.seq (.block 3 (.seq (.regd [sq 75 (.mv (.t 0)),
sq 76 (.mv (.t 9)),
sd 77 (.indexA 23 (.t 75) (.t 76)) [0,1],
sd 78 (.fieldA 0 (.t 77)) [0,1,2],
sd 79 (.fieldA 3 (.t 78)) [0,1,2,3],
sd 80 (.load none (.t 79)) [0,1,2,3,4],
sq 81 (.fieldA 3 (.t 8)),
sd 82 (.load none (.t 81)) [6],
sd 83 (.bin .eql (.t 80) (.t 82)) [0,1,2,3,4,5,6,7]])
 (.cond (.t 83)
 (.seq (.reg [sq 6 (.mv (kB false))])
 .ret)
 .skip)))
 (.reg [sq 73 (.mv (.t 9)),
sq 74 (.bin .add (.t 73) (kI 1)),
sq 9 (.mv (.t 74))])))))))))))
 (.reg [sq 14 (.mv (.t 7)),
sq 15 (.bin .add (.t 14) (kI 1)),
sq 7 (.mv (.t 15))])))))))
 (.seq (.reg [sq 84 (.mv (.t 0)),
sq 85 (.len (.t 84)),
sq 86 (.bin .leq (.t 85) (kI 500)),
sq 6 (.mv (.t 86))])
 .ret)))⟩
theorem F54_ok{x0 x1 x2 r}(h:F54 x0 x1 x2=some r):CallD Tryz.prog 54 [.c (dM (x0.map eObject)),.c (dI x1),.c (dI x2)] [] (tupV [.c (dB r)]) []:=by
 rw[F54]at h
 refine zc a54 (by kernel_rfl) rfl (ww ?_)
 obtain⟨o1,ho,h⟩:=bi h
 refine cutS (fun s=>∃po1,o1=Sum.inr po1∧s=⟨[(0,.one (.c (dM (x0.map eObject))))],[]⟩) ?_ ?_
 ·have h0o1:=h
  have h:=ho
  clear ho
  obtain⟨_,hk,h⟩:=bi h
  have hk:=ck_some hk
  refine ww ?_
  refine bL (fun j s=>∃(o1_0:Nat),(o1_0≤x0.length∧j=x0.length-o1_0)∧s=⟨[(0,.one (.c (dM (x0.map eObject)))),(1,.one (.c (dI x1))),(2,.one (.c (dI x2))),(7,.one (.c (dI ((o1_0:Int)))))],[]⟩∧F54_l1 x0 x1 x2 (x0.drop o1_0) o1_0=some o1) (x0.length-0) [] ⟨0,⟨hk.1,rfl⟩,rfl,h⟩ ?_
  rintro _ _ ⟨o1_0,⟨hi,rfl⟩,rfl,h⟩
  refine ww ?_
  refine condS (fun c2=>?_) (fun c2=>?_)
  ·obtain⟨xo1,hxo1,hd⟩:=countY (show(o1_0:Int)<(x0.length:Int)from c2)
   rw[hd,F54_l1]at h
   refine ww ?_
   refine t_idxF (enc:=eObject) (xs:=x0) rfl rfl hxo1 rfl (ww ?_)
   obtain⟨o3,ho,h⟩:=bi h
   refine cutS (fun s=>s=⟨[(0,.one (.c (dM (x0.map eObject)))),(1,.one (.c (dI x1))),(2,.one (.c (dI x2))),(7,.one (.c (dI ((o1_0:Int))))),(8,.one (.c (.pt 0 0))),(53,.one (.c (dB o3)))],[some (.box [dS xo1.Meta.Kind,dS xo1.Meta.Namespace,dS xo1.Meta.Name,dI xo1.Meta.Uid,dI xo1.Meta.Version,dI xo1.Meta.Generation,dI xo1.Meta.Created,dB xo1.Meta.Deleting,dI xo1.Meta.DeleteAt,dM (xo1.Meta.Labels.map eLabel),dM (xo1.Meta.Owners.map eOwner),dM (xo1.Meta.Finalizers.map eS),dM (xo1.Meta.Managers.map eManager)])]⟩) ?_ ?_
   ·have h:=ho
    clear ho
    refine ww ?_
    refine t_idxF (enc:=eObject) (xs:=x0) rfl rfl hxo1 rfl (ww ?_)
    obtain⟨t4,ht4,h⟩:=bi h
    refine cN [] (F14_ok ht4) trivial (ww ?_)
    refine guardSBh h (fun g5 h=>?_) (fun g5 h=>?_)
    ·refine ww ?_
     cases h
     exact eM [some 0] rfl
    refine ww ?_
    refine guardSh h (fun g6 h=>?_) (fun g6 h=>?_)
    ·refine ww ?_
     cases h
     exact eM [some 0] rfl
    refine ww ?_
    refine guardSh h (fun g7 h=>?_) (fun g7 h=>?_)
    ·refine ww ?_
     cases h
     exact eM [some 0] rfl
    refine ww ?_
    refine guardSh h (fun g8 h=>?_) (fun g8 h=>?_)
    ·refine ww ?_
     cases h
     exact eM [some 0] rfl
    refine ww ?_
    refine guardSh h (fun g9 h=>?_) (fun g9 h=>?_)
    ·refine ww ?_
     cases h
     exact eM [some 0] rfl
    refine ww ?_
    cases h
    exact eM [some 0] rfl
   rintro _ rfl
   clear ho
   refine ww ?_
   refine condBh h (fun c10 h=>?_) (fun c10 h=>?_)
   ·refine ww ?_
    obtain⟨fh0o1,hfh0o1,rfl⟩:=Option.map_eq_some_iff.1 h
    have h:=hfh0o1.trans h0o1
    cases h
    exact eF []
   refine ww ?_
   obtain⟨o11,ho,h⟩:=bi h
   refine cutS (fun s=>s=⟨[(0,.one (.c (dM (x0.map eObject)))),(1,.one (.c (dI x1))),(2,.one (.c (dI x2))),(7,.one (.c (dI ((o1_0:Int))))),(8,.one (.c (.pt 0 0))),(69,.one (.c (dB o11)))],[some (.box [dS xo1.Meta.Kind,dS xo1.Meta.Namespace,dS xo1.Meta.Name,dI xo1.Meta.Uid,dI xo1.Meta.Version,dI xo1.Meta.Generation,dI xo1.Meta.Created,dB xo1.Meta.Deleting,dI xo1.Meta.DeleteAt,dM (xo1.Meta.Labels.map eLabel),dM (xo1.Meta.Owners.map eOwner),dM (xo1.Meta.Finalizers.map eS),dM (xo1.Meta.Managers.map eManager)])]⟩) ?_ ?_
   ·have h:=ho
    clear ho
    refine ww ?_
    refine guardDh h (fun g12 h=>?_) (fun g12 h=>?_)
    ·refine ww ?_
     obtain⟨y13,hy13,h⟩:=bi h
     refine t_idxF (enc:=eObject) (xs:=x0) rfl rfl hy13 rfl (ww ?_)
     obtain⟨t14,ht14,h⟩:=bi h
     refine cN [] (F56_ok ht14) trivial (ww ?_)
     refine t_idxF (enc:=eObject) (xs:=x0) rfl rfl hxo1 rfl (ww ?_)
     obtain⟨t15,ht15,h⟩:=bi h
     refine cN [] (F56_ok ht15) trivial (ww ?_)
     cases h
     exact eM [some 0] rfl
    refine ww ?_
    cases h
    exact eM [some 0] rfl
   rintro _ rfl
   clear ho
   refine ww ?_
   refine condBh h (fun c16 h=>?_) (fun c16 h=>?_)
   ·refine ww ?_
    obtain⟨fh0o1,hfh0o1,rfl⟩:=Option.map_eq_some_iff.1 h
    have h:=hfh0o1.trans h0o1
    cases h
    exact eF []
   refine ww ?_
   obtain⟨o17,ho,h⟩:=bi h
   refine cutS (fun s=>∃po17,o17=Sum.inr po17∧s=⟨[(0,.one (.c (dM (x0.map eObject)))),(1,.one (.c (dI x1))),(2,.one (.c (dI x2))),(7,.one (.c (dI ((o1_0:Int)))))],[]⟩) ?_ ?_
   ·have h0o17:=h
    have h:=ho
    clear ho
    refine ww ?_
    refine bL (fun j s=>∃(o17_0:Int),s=⟨[(0,.one (.c (dM (x0.map eObject)))),(1,.one (.c (dI x1))),(2,.one (.c (dI x2))),(7,.one (.c (dI ((o1_0:Int))))),(8,.one (.c (.pt 0 0))),(9,.one (.c (dI o17_0)))],[some (.box [dS xo1.Meta.Kind,dS xo1.Meta.Namespace,dS xo1.Meta.Name,dI xo1.Meta.Uid,dI xo1.Meta.Version,dI xo1.Meta.Generation,dI xo1.Meta.Created,dB xo1.Meta.Deleting,dI xo1.Meta.DeleteAt,dM (xo1.Meta.Labels.map eLabel),dM (xo1.Meta.Owners.map eOwner),dM (xo1.Meta.Finalizers.map eS),dM (xo1.Meta.Managers.map eManager)])]⟩∧F54_l17 o1_0 x0 xo1 j o17_0=some o17) 1099511627776 [some 0] ⟨0,rfl,h⟩ ?_
    rintro j _ ⟨o17_0,rfl,h⟩
    cases j with
    |zero=>cases(show(none:Option _)=some _ from h)
    |succ j=>
     rw[F54_l17]at h
     refine ww ?_
     refine condSh h (fun c18 h=>?_) (fun c18 h=>?_)
     ·refine ww ?_
      obtain⟨y19,hy19,h⟩:=bi h
      refine t_idxF (enc:=eObject) (xs:=x0) rfl rfl hy19 rfl (ww ?_)
      refine condSh h (fun c20 h=>?_) (fun c20 h=>?_)
      ·refine ww ?_
       obtain⟨fh0o17,hfh0o17,rfl⟩:=Option.map_eq_some_iff.1 h
       have h:=hfh0o17.trans h0o17
       obtain⟨fh0o1,hfh0o1,rfl⟩:=Option.map_eq_some_iff.1 h
       have h:=hfh0o1.trans h0o1
       cases h
       exact eF []
      ·refine ww ?_
       exact eL' j [some 0] ⟨(IntKind.i64.wrap (o17_0+1)),rfl,h⟩ (Nat.lt_succ_self _)
     ·refine ww ?_
      cases h
      exact eM [] ⟨_,rfl,rfl⟩
   rintro _ ⟨po17,rfl,rfl⟩
   clear ho
   dsimp only at h
   refine ww ?_
   rw[wrapN (by omega)]
   exact eL' (x0.length-(o1_0+1)) [] ⟨o1_0+1,⟨by omega,rfl⟩,rfl,h⟩ (by omega)
  rw[countN (show¬((o1_0:Int)<(x0.length:Int))from c2),F54_l1]at h
  refine ww ?_
  cases h
  exact eM [] ⟨_,rfl,rfl⟩
 rintro _ ⟨po1,rfl,rfl⟩
 clear ho
 dsimp only at h
 refine ww ?_
 cases h
 exact eF []
def F19_l14(x0:TStore):List Change→Nat→(List Object)→Option ((Bool) ⊕ (((List Object))))
 |[],o14_1,o14_0=>some (Sum.inr o14_0)
 |xo14::xs,o14_1,o14_0=>(((if¬(xo14.Rev=(IntKind.i64.wrap (((IntKind.i64.wrap (x0.Floor+1)))+((o14_1:Int)))))then some true else(if¬(xo14.Kind=1)then(if¬(xo14.Kind=2)then some true else(F14 xo14.Object).bind fun t20=>(if(nb t20)=true then some true else some (decide (¬(xo14.Object.Meta.Version=xo14.Rev)))))else(F14 xo14.Object).bind fun t22=>(if(nb t22)=true then some true else some (decide (¬(xo14.Object.Meta.Version=xo14.Rev))))))).bind fun o16=>(if o16=true then(some false).map Sum.inl else(((if xo14.Kind=2 then(F56 xo14.Object).bind fun t27=>(F55 o14_0 t27).bind fun t28=>some (decide (t28<0))else some false)).bind fun o25=>(if o25=true then(some false).map Sum.inl else(F57 o14_0 xo14).bind fun t30=>F19_l14 x0 xs (o14_1+1) t30))))
def F19(x0:TStore):Option (Bool):=(((if x0.Floor<0 then some true else(if x0.Rev<x0.Floor then some true else(if 1000000000000000<x0.Rev then some true else(if x0.NextUid<1 then some true else(if 1000000000000000<x0.NextUid then some true else(if¬((x0.History.length:Int)=(IntKind.i64.wrap (x0.Rev-x0.Floor)))then some true else some (decide (4000<(x0.History.length:Int)))))))))).bind fun o1=>(if o1=true then some false else(((F54 x0.Base x0.Floor x0.NextUid).bind fun t10=>(if(nb t10)=true then some true else(F54 x0.Objects x0.Rev x0.NextUid).bind fun t12=>some (nb t12))).bind fun o9=>(if o9=true then some false else(((ck (0≤x0.History.length∧x0.History.length≤4294967290)).bind fun u31=>F19_l14 x0 x0.History 0 x0.Base:Option ((Bool) ⊕ (((List Object))))).bind fun o14=>match o14 with|Sum.inl f=>some f|Sum.inr po14=>(F27 po14 x0.Objects).bind fun t32=>some t32)))))
def a19:AFn:=⟨131,[(.tmp 2)],
 (.seq (.reg [sq 1 (.box (.t 0)),
sq 2 (.mv (kB false))])
 (.seq (.seq (.sem (.reg [sq 6 (.fieldA 1 (.t 1)),
sq 7 (.load none (.t 6)),
sq 8 (.bin .lss (.t 7) (kI 0)),
sq 9 (.mv (.t 8)),
zg 10 9 false (.fieldA 1 (.t 1)),
zg 11 9 false (.load none (.t 10)),
zg 12 9 false (.fieldA 0 (.t 1)),
zg 13 9 false (.load none (.t 12)),
zg 14 9 false (.bin .gtr (.t 11) (.t 13)),
sq 15 (.pick (.t 9) (kB true) (.t 14)),
sq 16 (.mv (.t 15)),
zg 17 16 false (.fieldA 0 (.t 1)),
zg 18 16 false (.load none (.t 17)),
zg 19 16 false (.bin .gtr (.t 18) (kI 1000000000000000)),
sq 20 (.pick (.t 16) (kB true) (.t 19)),
sq 21 (.mv (.t 20)),
zg 22 21 false (.fieldA 2 (.t 1)),
zg 23 21 false (.load none (.t 22)),
zg 24 21 false (.bin .lss (.t 23) (kI 1)),
sq 25 (.pick (.t 21) (kB true) (.t 24)),
sq 26 (.mv (.t 25)),
zg 27 26 false (.fieldA 2 (.t 1)),
zg 28 26 false (.load none (.t 27)),
zg 29 26 false (.bin .gtr (.t 28) (kI 1000000000000000)),
sq 30 (.pick (.t 26) (kB true) (.t 29)),
sq 31 (.mv (.t 30)),
zg 32 31 false (.fieldA 5 (.t 1)),
zg 33 31 false (.load none (.t 32)),
zg 34 31 false (.len (.t 33)),
zg 35 31 false (.fieldA 0 (.t 1)),
zg 36 31 false (.load none (.t 35)),
zg 37 31 false (.fieldA 1 (.t 1)),
zg 38 31 false (.load none (.t 37)),
zg 39 31 false (.bin .sub (.t 36) (.t 38)),
zg 40 31 false (.bin .neq (.t 34) (.t 39)),
sq 41 (.pick (.t 31) (kB true) (.t 40)),
sq 42 (.mv (.t 41)),
zg 43 42 false (.fieldA 5 (.t 1)),
zg 44 42 false (.load none (.t 43)),
zg 45 42 false (.len (.t 44)),
zg 46 42 false (.bin .gtr (.t 45) (kI 4000)),
sq 47 (.pick (.t 42) (kB true) (.t 46))]))
 (.cond (.t 47)
 (.seq (.reg [sq 2 (.mv (kB false))])
 .ret)
 .skip))
 (.seq (.seq (.sem (.reg [sq 48 (.fieldA 3 (.t 1)),
sq 49 (.load none (.t 48)),
sq 50 (.fieldA 1 (.t 1)),
sq 51 (.load none (.t 50)),
sq 52 (.fieldA 2 (.t 1)),
sq 53 (.load none (.t 52)),
sq 54 (.call 54 [(.t 49),(.t 51),(.t 53)]),
sq 55 (.not (.t 54)),
sq 56 (.mv (.t 55)),
zg 57 56 false (.fieldA 4 (.t 1)),
zg 58 56 false (.load none (.t 57)),
zg 59 56 false (.fieldA 0 (.t 1)),
zg 60 56 false (.load none (.t 59)),
zg 61 56 false (.fieldA 2 (.t 1)),
zg 62 56 false (.load none (.t 61)),
zg 63 56 false (.call 54 [(.t 58),(.t 60),(.t 62)]),
zg 64 56 false (.not (.t 63)),
sq 65 (.pick (.t 56) (kB true) (.t 64))]))
 (.cond (.t 65)
 (.seq (.reg [sq 2 (.mv (kB false))])
 .ret)
 .skip))
 (.seq (.reg [sq 66 (.fieldA 3 (.t 1)),
sq 67 (.load none (.t 66)),
sq 3 (.mv (.t 67))])
 (.seq (.seq (.reg [sq 4 (.mv (kI 0))])
 (.sem (.block 0 (.loop (.seq (.seq (.reg [sq 68 (.mv (.t 4)),
sq 69 (.fieldA 5 (.t 1)),
sq 70 (.load none (.t 69)),
sq 71 (.len (.t 70)),
sq 72 (.bin .lss (.t 68) (.t 71))])
 (.cond (.t 72)
 .skip
 (.exit 0)))
 (.seq (.block 1 (.seq (.reg [sq 75 (.fieldA 5 (.t 1)),
sq 76 (.load none (.t 75)),
sq 77 (.mv (.t 4)),
sq 78 (.indexA 25 (.t 76) (.t 77)),
sq 79 (.load (some 25) (.t 78)),
sq 5 (.zbox [dI 0,dI 0,dS ⟨#[]⟩,dS ⟨#[]⟩,dS ⟨#[]⟩,dI 0,dI 0,dI 0,dI 0,dB false,dI 0,dN,dN,dN,dN,dI 0,dI 0,dS ⟨#[]⟩,dN,dN,dI 0,dI 0,dS ⟨#[]⟩,dN,dN]),
su (.store 25 (.t 5) (.t 79))])
 (.seq (.seq (.sem (.reg [sq 80 (.fieldA 0 (.t 5)),
sq 81 (.load none (.t 80)),
sq 82 (.fieldA 1 (.t 1)),
sq 83 (.load none (.t 82)),
sq 84 (.bin .add (.t 83) (kI 1)),
sq 85 (.mv (.t 4)),
sq 86 (.bin .add (.t 84) (.t 85)),
sq 87 (.bin .neq (.t 81) (.t 86)),
sq 88 (.mv (.t 87)),
zg 89 88 false (.fieldA 1 (.t 5)),
zg 90 88 false (.load none (.t 89)),
zg 91 88 false (.bin .neq (.t 90) (kI 1)),
zg 92 88 false (.mv (.t 91)),
zg 93 92 true (.fieldA 1 (.t 5)),
zg 94 92 true (.load none (.t 93)),
zg 95 92 true (.bin .neq (.t 94) (kI 2)),
zg 96 88 false (.pick (.t 92) (.t 95) (kB false)),
sq 97 (.pick (.t 88) (kB true) (.t 96)),
sq 98 (.mv (.t 97)),
zg 99 98 false (.fieldA 2 (.t 5)),
zg 100 98 false (.load (some 23) (.t 99)),
zg 101 98 false (.call 14 [(.t 100)]),
zg 102 98 false (.not (.t 101)),
sq 103 (.pick (.t 98) (kB true) (.t 102)),
sq 104 (.mv (.t 103)),
zg 105 104 false (.fieldA 2 (.t 5)),
zg 106 104 false (.fieldA 0 (.t 105)),
zg 107 104 false (.fieldA 4 (.t 106)),
zg 108 104 false (.load none (.t 107)),
zg 109 104 false (.fieldA 0 (.t 5)),
zg 110 104 false (.load none (.t 109)),
zg 111 104 false (.bin .neq (.t 108) (.t 110)),
sq 112 (.pick (.t 104) (kB true) (.t 111))]))
 (.cond (.t 112)
 (.seq (.reg [sq 2 (.mv (kB false))])
 .ret)
 .skip))
 (.seq (.seq (.sem (.reg [sq 113 (.fieldA 1 (.t 5)),
sq 114 (.load none (.t 113)),
sq 115 (.bin .eql (.t 114) (kI 2)),
sq 116 (.mv (.t 115)),
zg 117 116 true (.mv (.t 3)),
zg 118 116 true (.fieldA 2 (.t 5)),
zg 119 116 true (.load (some 23) (.t 118)),
zg 120 116 true (.call 56 [(.t 119)]),
zg 121 116 true (.call 55 [(.t 117),(.t 120)]),
zg 122 116 true (.bin .lss (.t 121) (kI 0)),
sq 123 (.pick (.t 116) (.t 122) (kB false))]))
 (.cond (.t 123)
 (.seq (.reg [sq 2 (.mv (kB false))])
 .ret)
 .skip))
 (.reg [sq 124 (.mv (.t 3)),
sq 125 (.load (some 25) (.t 5)),
sq 126 (.call 57 [(.t 124),(.t 125)]),
sq 3 (.mv (.t 126))])))))
 (.reg [sq 73 (.mv (.t 4)),
sq 74 (.bin .add (.t 73) (kI 1)),
sq 4 (.mv (.t 74))])))))))
 (.seq (.reg [sq 127 (.mv (.t 3)),
sq 128 (.fieldA 4 (.t 1)),
sq 129 (.load none (.t 128)),
sq 130 (.call 27 [(.t 127),(.t 129)]),
sq 2 (.mv (.t 130))])
 .ret))))))⟩
theorem F19_ok{x0 r}(h:F19 x0=some r):CallD Tryz.prog 19 [.agg [dI x0.Rev,dI x0.Floor,dI x0.NextUid,dM (x0.Base.map eObject),dM (x0.Objects.map eObject),dM (x0.History.map eChange)]] [] (tupV [.c (dB r)]) []:=by
 rw[F19]at h
 refine zc a19 (by kernel_rfl) rfl (ww ?_)
 obtain⟨o1,ho,h⟩:=bi h
 refine cutS (fun s=>s=⟨[(1,.one (.c (.pt 0 0))),(47,.one (.c (dB o1)))],[some (.box [dI x0.Rev,dI x0.Floor,dI x0.NextUid,dM (x0.Base.map eObject),dM (x0.Objects.map eObject),dM (x0.History.map eChange)])]⟩) ?_ ?_
 ·have h:=ho
  clear ho
  refine ww ?_
  refine guardSh h (fun g2 h=>?_) (fun g2 h=>?_)
  ·refine ww ?_
   cases h
   exact eM [some 0] rfl
  refine ww ?_
  refine guardSh h (fun g3 h=>?_) (fun g3 h=>?_)
  ·refine ww ?_
   cases h
   exact eM [some 0] rfl
  refine ww ?_
  refine guardSh h (fun g4 h=>?_) (fun g4 h=>?_)
  ·refine ww ?_
   cases h
   exact eM [some 0] rfl
  refine ww ?_
  refine guardSh h (fun g5 h=>?_) (fun g5 h=>?_)
  ·refine ww ?_
   cases h
   exact eM [some 0] rfl
  refine ww ?_
  refine guardSh h (fun g6 h=>?_) (fun g6 h=>?_)
  ·refine ww ?_
   cases h
   exact eM [some 0] rfl
  refine ww ?_
  refine guardSh h (fun g7 h=>?_) (fun g7 h=>?_)
  ·refine ww ?_
   cases h
   exact eM [some 0] rfl
  refine ww ?_
  cases h
  exact eM [some 0] rfl
 rintro _ rfl
 clear ho
 refine ww ?_
 refine condBh h (fun c8 h=>?_) (fun c8 h=>?_)
 ·refine ww ?_
  cases h
  exact eF []
 refine ww ?_
 obtain⟨o9,ho,h⟩:=bi h
 refine cutS (fun s=>s=⟨[(1,.one (.c (.pt 0 0))),(65,.one (.c (dB o9)))],[some (.box [dI x0.Rev,dI x0.Floor,dI x0.NextUid,dM (x0.Base.map eObject),dM (x0.Objects.map eObject),dM (x0.History.map eChange)])]⟩) ?_ ?_
 ·have h:=ho
  clear ho
  refine ww ?_
  obtain⟨t10,ht10,h⟩:=bi h
  refine cN [] (F54_ok ht10) trivial (ww ?_)
  refine guardSBh h (fun g11 h=>?_) (fun g11 h=>?_)
  ·refine ww ?_
   cases h
   exact eM [some 0] rfl
  refine ww ?_
  obtain⟨t12,ht12,h⟩:=bi h
  refine cN [] (F54_ok ht12) trivial (ww ?_)
  cases h
  exact eM [some 0] rfl
 rintro _ rfl
 clear ho
 refine ww ?_
 refine condBh h (fun c13 h=>?_) (fun c13 h=>?_)
 ·refine ww ?_
  cases h
  exact eF []
 refine ww ?_
 obtain⟨o14,ho,h⟩:=bi h
 refine cutS (fun s=>∃po14,o14=Sum.inr po14∧s=⟨[(1,.one (.c (.pt 0 0))),(3,.one (.c (dM (po14.map eObject))))],[some (.box [dI x0.Rev,dI x0.Floor,dI x0.NextUid,dM (x0.Base.map eObject),dM (x0.Objects.map eObject),dM (x0.History.map eChange)])]⟩) ?_ ?_
 ·have h0o14:=h
  have h:=ho
  clear ho
  obtain⟨_,hk,h⟩:=bi h
  have hk:=ck_some hk
  refine ww ?_
  refine bL (fun j s=>∃(o14_1:Nat) (o14_0:List Object),(o14_1≤x0.History.length∧j=x0.History.length-o14_1)∧s=⟨[(1,.one (.c (.pt 0 0))),(3,.one (.c (dM (o14_0.map eObject)))),(4,.one (.c (dI ((o14_1:Int)))))],[some (.box [dI x0.Rev,dI x0.Floor,dI x0.NextUid,dM (x0.Base.map eObject),dM (x0.Objects.map eObject),dM (x0.History.map eChange)])]⟩∧F19_l14 x0 (x0.History.drop o14_1) o14_1 o14_0=some o14) (x0.History.length-0) [some 0] ⟨0,x0.Base,⟨hk.1,rfl⟩,rfl,h⟩ ?_
  rintro _ _ ⟨o14_1,o14_0,⟨hi,rfl⟩,rfl,h⟩
  refine ww ?_
  refine condS (fun c15=>?_) (fun c15=>?_)
  ·obtain⟨xo14,hxo14,hd⟩:=countY (show(o14_1:Int)<(x0.History.length:Int)from c15)
   rw[hd,F19_l14]at h
   refine ww ?_
   refine t_idxF (enc:=eChange) (xs:=x0.History) rfl rfl hxo14 rfl (ww ?_)
   obtain⟨o16,ho,h⟩:=bi h
   refine cutS (fun s=>s=⟨[(1,.one (.c (.pt 0 0))),(3,.one (.c (dM (o14_0.map eObject)))),(4,.one (.c (dI ((o14_1:Int))))),(5,.one (.c (.pt 1 0))),(112,.one (.c (dB o16)))],[some (.box [dI x0.Rev,dI x0.Floor,dI x0.NextUid,dM (x0.Base.map eObject),dM (x0.Objects.map eObject),dM (x0.History.map eChange)]),some (.box [dI xo14.Rev,dI xo14.Kind,dS xo14.Object.Meta.Kind,dS xo14.Object.Meta.Namespace,dS xo14.Object.Meta.Name,dI xo14.Object.Meta.Uid,dI xo14.Object.Meta.Version,dI xo14.Object.Meta.Generation,dI xo14.Object.Meta.Created,dB xo14.Object.Meta.Deleting,dI xo14.Object.Meta.DeleteAt,dM (xo14.Object.Meta.Labels.map eLabel),dM (xo14.Object.Meta.Owners.map eOwner),dM (xo14.Object.Meta.Finalizers.map eS),dM (xo14.Object.Meta.Managers.map eManager),dI xo14.Object.Spec.Kind,dI xo14.Object.Spec.N,dS xo14.Object.Spec.S,dM (xo14.Object.Spec.List_.map eTValue),dM (xo14.Object.Spec.Fields.map eTField),dI xo14.Object.Status.Kind,dI xo14.Object.Status.N,dS xo14.Object.Status.S,dM (xo14.Object.Status.List_.map eTValue),dM (xo14.Object.Status.Fields.map eTField)])]⟩) ?_ ?_
   ·have h:=ho
    clear ho
    refine ww ?_
    refine guardSh h (fun g17 h=>?_) (fun g17 h=>?_)
    ·refine ww ?_
     cases h
     exact eM [some 0,some 1] rfl
    refine ww ?_
    refine guardSh h (fun g18 h=>?_) (fun g18 h=>?_)
    ·refine ww ?_
     refine guardSh h (fun g19 h=>?_) (fun g19 h=>?_)
     ·refine ww ?_
      cases h
      exact eM [some 0,some 1] rfl
     refine ww ?_
     obtain⟨t20,ht20,h⟩:=bi h
     refine cN [] (F14_ok ht20) trivial (ww ?_)
     refine guardSBh h (fun g21 h=>?_) (fun g21 h=>?_)
     ·refine ww ?_
      cases h
      exact eM [some 0,some 1] rfl
     refine ww ?_
     cases h
     exact eM [some 0,some 1] rfl
    refine ww ?_
    obtain⟨t22,ht22,h⟩:=bi h
    refine cN [] (F14_ok ht22) trivial (ww ?_)
    refine guardSBh h (fun g23 h=>?_) (fun g23 h=>?_)
    ·refine ww ?_
     cases h
     exact eM [some 0,some 1] rfl
    refine ww ?_
    cases h
    exact eM [some 0,some 1] rfl
   rintro _ rfl
   clear ho
   refine ww ?_
   refine condBh h (fun c24 h=>?_) (fun c24 h=>?_)
   ·refine ww ?_
    obtain⟨fh0o14,hfh0o14,rfl⟩:=Option.map_eq_some_iff.1 h
    have h:=hfh0o14.trans h0o14
    cases h
    exact eF []
   refine ww ?_
   obtain⟨o25,ho,h⟩:=bi h
   refine cutS (fun s=>s=⟨[(1,.one (.c (.pt 0 0))),(3,.one (.c (dM (o14_0.map eObject)))),(4,.one (.c (dI ((o14_1:Int))))),(5,.one (.c (.pt 1 0))),(123,.one (.c (dB o25)))],[some (.box [dI x0.Rev,dI x0.Floor,dI x0.NextUid,dM (x0.Base.map eObject),dM (x0.Objects.map eObject),dM (x0.History.map eChange)]),some (.box [dI xo14.Rev,dI xo14.Kind,dS xo14.Object.Meta.Kind,dS xo14.Object.Meta.Namespace,dS xo14.Object.Meta.Name,dI xo14.Object.Meta.Uid,dI xo14.Object.Meta.Version,dI xo14.Object.Meta.Generation,dI xo14.Object.Meta.Created,dB xo14.Object.Meta.Deleting,dI xo14.Object.Meta.DeleteAt,dM (xo14.Object.Meta.Labels.map eLabel),dM (xo14.Object.Meta.Owners.map eOwner),dM (xo14.Object.Meta.Finalizers.map eS),dM (xo14.Object.Meta.Managers.map eManager),dI xo14.Object.Spec.Kind,dI xo14.Object.Spec.N,dS xo14.Object.Spec.S,dM (xo14.Object.Spec.List_.map eTValue),dM (xo14.Object.Spec.Fields.map eTField),dI xo14.Object.Status.Kind,dI xo14.Object.Status.N,dS xo14.Object.Status.S,dM (xo14.Object.Status.List_.map eTValue),dM (xo14.Object.Status.Fields.map eTField)])]⟩) ?_ ?_
   ·have h:=ho
    clear ho
    refine ww ?_
    refine guardSh h (fun g26 h=>?_) (fun g26 h=>?_)
    ·refine ww ?_
     obtain⟨t27,ht27,h⟩:=bi h
     refine cN [] (F56_ok ht27) trivial (ww ?_)
     obtain⟨t28,ht28,h⟩:=bi h
     refine cN [] (F55_ok ht28) trivial (ww ?_)
     cases h
     exact eM [some 0,some 1] rfl
    refine ww ?_
    cases h
    exact eM [some 0,some 1] rfl
   rintro _ rfl
   clear ho
   refine ww ?_
   refine condBh h (fun c29 h=>?_) (fun c29 h=>?_)
   ·refine ww ?_
    obtain⟨fh0o14,hfh0o14,rfl⟩:=Option.map_eq_some_iff.1 h
    have h:=hfh0o14.trans h0o14
    cases h
    exact eF []
   refine ww ?_
   obtain⟨t30,ht30,h⟩:=bi h
   refine cN [] (F57_ok ht30) trivial (ww ?_)
   rw[wrapN (by omega)]
   exact eL' (x0.History.length-(o14_1+1)) [some 0] ⟨o14_1+1,t30,⟨by omega,rfl⟩,rfl,h⟩ (by omega)
  rw[countN (show¬((o14_1:Int)<(x0.History.length:Int))from c15),F19_l14]at h
  refine ww ?_
  cases h
  exact eM [some 0] ⟨_,rfl,rfl⟩
 rintro _ ⟨po14,rfl,rfl⟩
 clear ho
 dsimp only at h
 refine ww ?_
 obtain⟨t32,ht32,h⟩:=bi h
 refine cN [] (F27_ok ht32) trivial (ww ?_)
 cases h
 exact eF []
end Go.Proofs.YtbopaemngpbdgaaGreat
