/- Each Go function as a function over typed data, and its walk. -/
import Derived.Test.YtbopaemngpbdgaaGreatSX
import Derived.Test.YtbopaemngpbdgaaGreatSX6
import Derived.Test.YtbopaemngpbdgaaGreatSX7
import Derived.Test.YtbopaemngpbdgaaGreatSX8
import Derived.Test.YtbopaemngpbdgaaGreatSX9
namespace Go.Proofs.YtbopaemngpbdgaaGreat
open Go Go.Fw Go.Shelf
set_option maxRecDepth 100000
set_option maxHeartbeats 4000000
set_option linter.unusedSimpArgs false
set_option linter.unusedVariables false
def F106_l2(x0:(List Label)):List Label→Nat→Option ((Bool) ⊕ (Unit))
 |[],o2_0=>some (Sum.inr (()))
 |xo2::xs,o2_0=>(((F130 xo2.Key).bind fun t5=>(if(nb t5)=true then some true else(F131 xo2.Value).bind fun t7=>(if(nb t7)=true then some true else(if 0<(o2_0:Int)then(rdI x0 ((IntKind.i64.wrap (((o2_0:Int))-1)))).bind fun y10=>some ((Op.bytesLess xo2.Key.toList y10.Key.toList||decide (xo2.Key=y10.Key)))else some false)))).bind fun o4=>(if o4=true then(some false).map Sum.inl else F106_l2 x0 xs (o2_0+1)))
def F106(x0:(List Label)):Option (Bool):=(if 16<(x0.length:Int)then some false else(((ck (0≤x0.length∧x0.length≤4294967290)).bind fun u12=>F106_l2 x0 x0 0:Option ((Bool) ⊕ (Unit))).bind fun o2=>match o2 with|Sum.inl f=>some f|Sum.inr po2=>some true))
def a106:AFn:=⟨41,[(.tmp 2)],
 (.seq (.reg [sq 2 (.mv (kB false))])
 (.seq (.seq (.reg [sq 5 (.mv (.t 0)),
sq 6 (.len (.t 5)),
sq 7 (.bin .gtr (.t 6) (kI 16))])
 (.cond (.t 7)
 (.seq (.reg [sq 2 (.mv (kB false))])
 .ret)
 .skip))
 (.seq (.seq (.reg [sq 8 (.mv (.t 0)),
sq 9 (.len (.t 8)),
sq 10 (.mv (kI 0))])
 (.sem (.block 0 (.loop (.seq (.reg [sq 11 (.bin .lss (.t 10) (.t 9))])
 (.seq (.cond (.t 11)
 .skip
 (.exit 0))
 (.seq (.block 1 (.seq (.reg [sq 12 (.mv (.t 10)),
sq 13 (.indexA 2 (.t 8) (.t 10)),
sq 14 (.load (some 2) (.t 13)),
sq 4 (.zbox [dS ⟨#[]⟩,dS ⟨#[]⟩]),
sq 3 (.mv (.t 12)),
su (.store 2 (.t 4) (.t 14))])
 (.seq (.sem (.regd [sq 15 (.fieldA 0 (.t 4)),
sd 16 (.load none (.t 15)) [0],
zl 17 (.call 130 [(.t 16)]) [0,1] [],
sd 18 (.not (.t 17)) [0,1,2],
sd 19 (.mv (.t 18)) [0,1,2,3],
⟨(some 20),(some (19,false)),.fieldA 1 (.t 4),[0,1,2,3,4],(.new [])⟩,
⟨(some 21),(some (19,false)),.load none (.t 20),[0,1,2,3,4,5],(.new [])⟩,
⟨(some 22),(some (19,false)),.call 131 [(.t 21)],[0,1,2,3,4,5,6],(.lone [])⟩,
⟨(some 23),(some (19,false)),.not (.t 22),[0,1,2,3,4,5,6,7],(.new [])⟩,
zl 24 (.pick (.t 19) (kB true) (.t 23)) [0,1,2,3,4,5,6,7,8] [],
sd 25 (.mv (.t 24)) [0,1,2,3,4,5,6,7,8,9],
⟨(some 26),(some (25,false)),.mv (.t 3),[0,1,2,3,4,5,6,7,8,9,10],(.new [])⟩,
⟨(some 27),(some (25,false)),.bin .gtr (.t 26) (kI 0),[0,1,2,3,4,5,6,7,8,9,10,11],(.new [])⟩,
⟨(some 28),(some (25,false)),.mv (.t 27),[0,1,2,3,4,5,6,7,8,9,10,11,12],(.new [])⟩,
⟨(some 29),(some (28,true)),.fieldA 0 (.t 4),[0,1,2,3,4,5,6,7,8,9,10,11,12,13],(.new [])⟩,
⟨(some 30),(some (28,true)),.load none (.t 29),[0,1,2,3,4,5,6,7,8,9,10,11,12,13,14],(.new [])⟩,
⟨(some 31),(some (28,true)),.mv (.t 0),[0,1,2,3,4,5,6,7,8,9,10,11,12,13],(.new [])⟩,
⟨(some 32),(some (28,true)),.mv (.t 3),[0,1,2,3,4,5,6,7,8,9,10,11,12,13],(.new [])⟩,
⟨(some 33),(some (28,true)),.bin .sub (.t 32) (kI 1),[0,1,2,3,4,5,6,7,8,9,10,11,12,13,17],(.new [])⟩,
⟨(some 34),(some (28,true)),.indexA 2 (.t 31) (.t 33),[0,1,2,3,4,5,6,7,8,9,10,11,12,13,16,17,18],(.new [])⟩,
⟨(some 35),(some (28,true)),.fieldA 0 (.t 34),[0,1,2,3,4,5,6,7,8,9,10,11,12,13,16,17,18,19],(.new [])⟩,
⟨(some 36),(some (28,true)),.load none (.t 35),[0,1,2,3,4,5,6,7,8,9,10,11,12,13,16,17,18,19,20],(.new [])⟩,
⟨(some 37),(some (28,true)),.bin .leq (.t 30) (.t 36),[0,1,2,3,4,5,6,7,8,9,10,11,12,13,14,15,16,17,18,19,20,21],(.new [])⟩,
⟨(some 38),(some (25,false)),.pick (.t 28) (.t 37) (kB false),[0,1,2,3,4,5,6,7,8,9,10,11,12,13,14,15,16,17,18,19,20,21,22],(.lone [])⟩,
zl 39 (.pick (.t 25) (kB true) (.t 38)) [0,1,2,3,4,5,6,7,8,9,10,11,12,13,14,15,16,17,18,19,20,21,22,23] []]))
 (.cond (.t 39)
 (.seq (.reg [sq 2 (.mv (kB false))])
 .ret)
 .skip))))
 (.reg [sq 40 (.bin .add (.t 10) (kI 1)),
sq 10 (.mv (.t 40))]))))))))
 (.seq (.reg [sq 2 (.mv (kB true))])
 .ret))))⟩
theorem a106_ok:afn Tryz.prog 106=some a106.er:=by kernel_rfl
theorem F106_ok{x0 r}(h:F106 x0=some r):CallD Tryz.prog 106 [.c (dM (x0.map eLabel))] [] (tupV [.c (dB r)]) []:=by
 refine callS a106_ok (by simp[a106]) ?_
 rw[F106]at h
 simp only[a106,VW.down,Nat.reduceEqDiff,reduceCtorEq,Nat.reduceAdd,Nat.reduceLeDiff,Nat.reduceLT,Nat.reduceBEq,Nat.reduceSub,EE.down]
 refine condSh h (fun c1 h=>?_) (fun c1 h=>?_)
 ·refine ww ?_
  cases h
  exact eF []
 refine ww ?_
 obtain⟨o2,ho,h⟩:=bi h
 refine cutS (fun s=>∃po2,o2=Sum.inr po2∧s=⟨[],[]⟩) ?_ ?_
 ·have h0o2:=h
  have h:=ho
  clear ho
  obtain⟨_,hk,h⟩:=bi h
  have hk:=ck_some hk
  refine ww ?_
  refine bL (fun j s=>∃(o2_0:Nat),(o2_0≤x0.length∧j=x0.length-o2_0)∧s=⟨[(0,.one (.c (dM (x0.map eLabel)))),(8,.one (.c (dM (x0.map eLabel)))),(9,.one (.c (dI ((x0.length:Int))))),(10,.one (.c (dI ((o2_0:Int)))))],[]⟩∧F106_l2 x0 (x0.drop o2_0) o2_0=some o2) (x0.length-0) [] ⟨0,⟨hk.1,rfl⟩,rfl,h⟩ ?_
  rintro _ _ ⟨o2_0,⟨hi,rfl⟩,rfl,h⟩
  refine ww ?_
  refine condS (fun c3=>?_) (fun c3=>?_)
  ·obtain⟨xo2,hxo2,hd⟩:=countY (show(o2_0:Int)<(x0.length:Int)from c3)
   rw[hd,F106_l2]at h
   refine ww ?_
   refine t_idxF (enc:=eLabel) (xs:=x0) rfl rfl hxo2 rfl (ww ?_)
   obtain⟨o4,ho,h⟩:=bi h
   refine cutS (fun s=>s=⟨[(0,.one (.c (dM (x0.map eLabel)))),(8,.one (.c (dM (x0.map eLabel)))),(9,.one (.c (dI ((x0.length:Int))))),(10,.one (.c (dI ((o2_0:Int))))),(39,.one (.c (dB o4)))],[]⟩) ?_ ?_
   ·have h:=ho
    clear ho
    refine ww ?_
    obtain⟨t5,ht5,h⟩:=bi h
    refine cN [] (F130_ok ht5) trivial (ww ?_)
    refine guardDBh h (fun g6 h=>?_) (fun g6 h=>?_)
    ·refine ww ?_
     cases h
     exact eM [] rfl
    refine ww ?_
    obtain⟨t7,ht7,h⟩:=bi h
    refine cN [] (F131_ok ht7) trivial (ww ?_)
    refine guardDBh h (fun g8 h=>?_) (fun g8 h=>?_)
    ·refine ww ?_
     cases h
     exact eM [] rfl
    refine ww ?_
    refine guardDh h (fun g9 h=>?_) (fun g9 h=>?_)
    ·refine ww ?_
     obtain⟨y10,hy10,h⟩:=bi h
     refine t_idxF (enc:=eLabel) (xs:=x0) rfl rfl hy10 rfl (ww ?_)
     cases h
     exact eM [] rfl
    refine ww ?_
    cases h
    exact eM [] rfl
   rintro _ rfl
   clear ho
   refine ww ?_
   refine condBh h (fun c11 h=>?_) (fun c11 h=>?_)
   ·refine ww ?_
    obtain⟨fh0o2,hfh0o2,rfl⟩:=Option.map_eq_some_iff.1 h
    have h:=hfh0o2.trans h0o2
    cases h
    exact eF []
   refine ww ?_
   rw[wrapN (by omega)]
   exact eL' (x0.length-(o2_0+1)) [] ⟨o2_0+1,⟨by omega,rfl⟩,rfl,h⟩ (by omega)
  rw[countN (show¬((o2_0:Int)<(x0.length:Int))from c3),F106_l2]at h
  refine ww ?_
  cases h
  exact eM [] ⟨_,rfl,rfl⟩
 rintro _ ⟨po2,rfl,rfl⟩
 clear ho
 dsimp only at h
 refine ww ?_
 cases h
 exact eF []
def F102(x0:(List TValue)):Option ((List TValue)×(List TField)):=(F129k 1099511627776 ((⟨4,0,(⟨#[]⟩:ByteArray),x0,[]⟩:TValue))).bind fun t1=>some ((t1.1,t1.2))
def a102:AFn:=⟨6,[(.cell 2 (some 5))],
 (.seq (.reg [zl 2 (.zbox [dI 0,dI 0,dS ⟨#[]⟩,dN,dN]) [] []])
 (.seq (.reg [sq 3 (.mv (.t 0)),
sq 4 (.build [dI 0,dI 0,dS ⟨#[]⟩,dN,dN] [(0,1,(kI 4)),(3,1,(.t 3))]),
sq 5 (.call 129 [(.t 4)]),
su (.store 5 (.t 2) (.t 5))])
 .ret))⟩
theorem a102_ok:afn Tryz.prog 102=some a102.er:=by kernel_rfl
theorem F102_ok{x0 r}(h:F102 x0=some r):CallD Tryz.prog 102 [.c (dM (x0.map eTValue))] [] (tupV [.agg [dI ((4:Int)),dI ((0:Int)),dS (((⟨#[]⟩:ByteArray))),.own 0 0 0 (r.1.length) none,.own 1 0 0 (r.2.length) none]]) [some (.arr 0 5 (r.1.map eTValue)),some (.arr 0 6 (r.2.map eTField))]:=by
 refine callS a102_ok (by simp[a102]) ?_
 rw[F102]at h
 simp only[a102,VW.down,Nat.reduceEqDiff,reduceCtorEq,Nat.reduceAdd,Nat.reduceLeDiff,Nat.reduceLT,Nat.reduceBEq,Nat.reduceSub,EE.down]
 obtain⟨t1,ht1,h⟩:=bi h
 refine cN [] (F129k_ok 1099511627776 ht1) trivial (ww ?_)
 cases h
 exact eF [some 1,some 2]
def F49_l2(x1:(List Manager)):List Manager→Nat→Option ((Bool) ⊕ (Unit))
 |[],o2_0=>some (Sum.inr (()))
 |xo2::xs,o2_0=>(rdI x1 ((o2_0:Int))).bind fun y4=>(F48 xo2 y4).bind fun t5=>(if(nb t5)=true then(some false).map Sum.inl else F49_l2 x1 xs (o2_0+1))
def F49(x0:(List Manager))(x1:(List Manager)):Option (Bool):=(if¬((x0.length:Int)=(x1.length:Int))then some false else(((ck (0≤x0.length∧x0.length≤4294967290)).bind fun u7=>F49_l2 x1 x0 0:Option ((Bool) ⊕ (Unit))).bind fun o2=>match o2 with|Sum.inl f=>some f|Sum.inr po2=>some true))
def a49:AFn:=⟨32,[(.tmp 6)],
 (.seq (.reg [sq 6 (.mv (kB false))])
 (.seq (.seq (.reg [sq 10 (.mv (.t 0)),
sq 11 (.len (.t 10)),
sq 12 (.mv (.t 1)),
sq 13 (.len (.t 12)),
sq 14 (.bin .neq (.t 11) (.t 13))])
 (.cond (.t 14)
 (.seq (.reg [sq 6 (.mv (kB false))])
 .ret)
 .skip))
 (.seq (.seq (.reg [sq 15 (.mv (.t 0)),
sq 16 (.len (.t 15)),
sq 17 (.mv (kI 0))])
 (.sem (.block 0 (.loop (.seq (.reg [sq 18 (.bin .lss (.t 17) (.t 16))])
 (.seq (.cond (.t 18)
 .skip
 (.exit 0))
 (.seq (.block 1 (.seq (.reg [sq 19 (.mv (.t 17)),
sq 20 (.indexA 2 (.t 15) (.t 17)),
sq 21 (.load (some 2) (.t 20)),
sq 8 (.zbox [dS ⟨#[]⟩,dN]),
sq 7 (.mv (.t 19)),
su (.store 2 (.t 8) (.t 21))])
 (.seq (.reg [sq 22 (.mv (.t 1)),
sq 23 (.mv (.t 7)),
sq 24 (.indexA 2 (.t 22) (.t 23)),
sq 25 (.load (some 2) (.t 24)),
sq 9 (.zbox [dS ⟨#[]⟩,dN]),
su (.store 2 (.t 9) (.t 25))])
 (.seq (.reg [sq 26 (.mv (.t 2)),
sq 27 (.load (some 2) (.t 8)),
sq 28 (.load (some 2) (.t 9)),
sq 29 (.callv (.t 26) [(.t 27),(.t 28)]),
sq 30 (.not (.t 29))])
 (.cond (.t 30)
 (.seq (.reg [sq 6 (.mv (kB false))])
 .ret)
 .skip)))))
 (.reg [sq 31 (.bin .add (.t 17) (kI 1)),
sq 17 (.mv (.t 31))]))))))))
 (.seq (.reg [sq 6 (.mv (kB true))])
 .ret))))⟩
theorem a49_ok:afn Tryz.prog 49=some a49.er:=by kernel_rfl
theorem F49_ok{x0 x1 r}(h:F49 x0 x1=some r):CallD Tryz.prog 49 [.c (dM (x0.map eManager)),.c (dM (x1.map eManager)),.c (.fn 48 [])] [] (tupV [.c (dB r)]) []:=by
 refine callS a49_ok (by simp[a49]) ?_
 rw[F49]at h
 simp only[a49,VW.down,Nat.reduceEqDiff,reduceCtorEq,Nat.reduceAdd,Nat.reduceLeDiff,Nat.reduceLT,Nat.reduceBEq,Nat.reduceSub,EE.down]
 refine condSh h (fun c1 h=>?_) (fun c1 h=>?_)
 ·refine ww ?_
  cases h
  exact eF []
 refine ww ?_
 obtain⟨o2,ho,h⟩:=bi h
 refine cutS (fun s=>∃po2,o2=Sum.inr po2∧s=⟨[],[]⟩) ?_ ?_
 ·have h0o2:=h
  have h:=ho
  clear ho
  obtain⟨_,hk,h⟩:=bi h
  have hk:=ck_some hk
  refine ww ?_
  refine bL (fun j s=>∃(o2_0:Nat),(o2_0≤x0.length∧j=x0.length-o2_0)∧s=⟨[(1,.one (.c (dM (x1.map eManager)))),(2,.one (.c (.fn 48 []))),(15,.one (.c (dM (x0.map eManager)))),(16,.one (.c (dI ((x0.length:Int))))),(17,.one (.c (dI ((o2_0:Int)))))],[]⟩∧F49_l2 x1 (x0.drop o2_0) o2_0=some o2) (x0.length-0) [] ⟨0,⟨hk.1,rfl⟩,rfl,h⟩ ?_
  rintro _ _ ⟨o2_0,⟨hi,rfl⟩,rfl,h⟩
  refine ww ?_
  refine condS (fun c3=>?_) (fun c3=>?_)
  ·obtain⟨xo2,hxo2,hd⟩:=countY (show(o2_0:Int)<(x0.length:Int)from c3)
   rw[hd,F49_l2]at h
   refine ww ?_
   refine t_idxF (enc:=eManager) (xs:=x0) rfl rfl hxo2 rfl (ww ?_)
   obtain⟨y4,hy4,h⟩:=bi h
   refine t_idxF (enc:=eManager) (xs:=x1) rfl rfl hy4 rfl (ww ?_)
   obtain⟨t5,ht5,h⟩:=bi h
   refine cN [] (F48_ok ht5) trivial (ww ?_)
   refine condBh h (fun c6 h=>?_) (fun c6 h=>?_)
   ·refine ww ?_
    obtain⟨fh0o2,hfh0o2,rfl⟩:=Option.map_eq_some_iff.1 h
    have h:=hfh0o2.trans h0o2
    cases h
    exact eF []
   refine ww ?_
   rw[wrapN (by omega)]
   exact eL' (x0.length-(o2_0+1)) [] ⟨o2_0+1,⟨by omega,rfl⟩,rfl,h⟩ (by omega)
  rw[countN (show¬((o2_0:Int)<(x0.length:Int))from c3),F49_l2]at h
  refine ww ?_
  cases h
  exact eM [] ⟨_,rfl,rfl⟩
 rintro _ ⟨po2,rfl,rfl⟩
 clear ho
 dsimp only at h
 refine ww ?_
 cases h
 exact eF []
def F85_l2(x0:(List Label)):List Label→Nat→Option ((Bool) ⊕ (Unit))
 |[],o2_0=>some (Sum.inr (()))
 |xo2::xs,o2_0=>(((F117 xo2.Key).bind fun t5=>(if(nb t5)=true then some true else(F118 xo2.Value).bind fun t7=>(if(nb t7)=true then some true else(if 0<(o2_0:Int)then(rdI x0 ((IntKind.i64.wrap (((o2_0:Int))-1)))).bind fun y10=>some (nb (Op.bytesLess y10.Key.toList xo2.Key.toList))else some false)))).bind fun o4=>(if o4=true then(some false).map Sum.inl else F85_l2 x0 xs (o2_0+1)))
def F85(x0:(List Label)):Option (Bool):=(if 16<(x0.length:Int)then some false else(((ck (0≤x0.length∧x0.length≤4294967290)).bind fun u12=>F85_l2 x0 x0 0:Option ((Bool) ⊕ (Unit))).bind fun o2=>match o2 with|Sum.inl f=>some f|Sum.inr po2=>some true))
def a85:AFn:=⟨47,[(.tmp 2)],
 (.seq (.reg [sq 2 (.mv (kB false))])
 (.seq (.seq (.reg [sq 4 (.mv (.t 0)),
sq 5 (.len (.t 4)),
sq 6 (.bin .gtr (.t 5) (kI 16))])
 (.cond (.t 6)
 (.seq (.reg [sq 2 (.mv (kB false))])
 .ret)
 .skip))
 (.seq (.seq (.reg [sq 3 (.mv (kI 0))])
 (.sem (.block 0 (.loop (.seq (.seq (.reg [sq 7 (.mv (.t 3)),
sq 8 (.mv (.t 0)),
sq 9 (.len (.t 8)),
sq 10 (.bin .lss (.t 7) (.t 9))])
 (.cond (.t 10)
 .skip
 (.exit 0)))
 (.seq (.block 1 (.seq (.sem (.regd [sq 13 (.mv (.t 0)),
sq 14 (.mv (.t 3)),
sd 15 (.indexA 2 (.t 13) (.t 14)) [0,1],
sd 16 (.fieldA 0 (.t 15)) [0,1,2],
sd 17 (.load none (.t 16)) [0,1,2,3],
zl 18 (.call 117 [(.t 17)]) [0,1,2,3,4] [],
sd 19 (.not (.t 18)) [0,1,2,3,4,5],
sd 20 (.mv (.t 19)) [0,1,2,3,4,5,6],
⟨(some 21),(some (20,false)),.mv (.t 0),[0,1,2,3,4,5,6,7],(.new [])⟩,
⟨(some 22),(some (20,false)),.mv (.t 3),[0,1,2,3,4,5,6,7],(.new [])⟩,
⟨(some 23),(some (20,false)),.indexA 2 (.t 21) (.t 22),[0,1,2,3,4,5,6,7,8,9],(.new [])⟩,
⟨(some 24),(some (20,false)),.fieldA 1 (.t 23),[0,1,2,3,4,5,6,7,8,9,10],(.new [])⟩,
⟨(some 25),(some (20,false)),.load none (.t 24),[0,1,2,3,4,5,6,7,8,9,10,11],(.new [])⟩,
⟨(some 26),(some (20,false)),.call 118 [(.t 25)],[0,1,2,3,4,5,6,7,8,9,10,11,12],(.lone [])⟩,
⟨(some 27),(some (20,false)),.not (.t 26),[0,1,2,3,4,5,6,7,8,9,10,11,12,13],(.new [])⟩,
zl 28 (.pick (.t 20) (kB true) (.t 27)) [0,1,2,3,4,5,6,7,8,9,10,11,12,13,14] [],
sd 29 (.mv (.t 28)) [0,1,2,3,4,5,6,7,8,9,10,11,12,13,14,15],
⟨(some 30),(some (29,false)),.mv (.t 3),[0,1,2,3,4,5,6,7,8,9,10,11,12,13,14,15,16],(.new [])⟩,
⟨(some 31),(some (29,false)),.bin .gtr (.t 30) (kI 0),[0,1,2,3,4,5,6,7,8,9,10,11,12,13,14,15,16,17],(.new [])⟩,
⟨(some 32),(some (29,false)),.mv (.t 31),[0,1,2,3,4,5,6,7,8,9,10,11,12,13,14,15,16,17,18],(.new [])⟩,
⟨(some 33),(some (32,true)),.mv (.t 0),[0,1,2,3,4,5,6,7,8,9,10,11,12,13,14,15,16,17,18,19],(.new [])⟩,
⟨(some 34),(some (32,true)),.mv (.t 3),[0,1,2,3,4,5,6,7,8,9,10,11,12,13,14,15,16,17,18,19],(.new [])⟩,
⟨(some 35),(some (32,true)),.bin .sub (.t 34) (kI 1),[0,1,2,3,4,5,6,7,8,9,10,11,12,13,14,15,16,17,18,19,21],(.new [])⟩,
⟨(some 36),(some (32,true)),.indexA 2 (.t 33) (.t 35),[0,1,2,3,4,5,6,7,8,9,10,11,12,13,14,15,16,17,18,19,20,21,22],(.new [])⟩,
⟨(some 37),(some (32,true)),.fieldA 0 (.t 36),[0,1,2,3,4,5,6,7,8,9,10,11,12,13,14,15,16,17,18,19,20,21,22,23],(.new [])⟩,
⟨(some 38),(some (32,true)),.load none (.t 37),[0,1,2,3,4,5,6,7,8,9,10,11,12,13,14,15,16,17,18,19,20,21,22,23,24],(.new [])⟩,
⟨(some 39),(some (32,true)),.mv (.t 0),[0,1,2,3,4,5,6,7,8,9,10,11,12,13,14,15,16,17,18,19],(.new [])⟩,
⟨(some 40),(some (32,true)),.mv (.t 3),[0,1,2,3,4,5,6,7,8,9,10,11,12,13,14,15,16,17,18,19],(.new [])⟩,
⟨(some 41),(some (32,true)),.indexA 2 (.t 39) (.t 40),[0,1,2,3,4,5,6,7,8,9,10,11,12,13,14,15,16,17,18,19,26,27],(.new [])⟩,
⟨(some 42),(some (32,true)),.fieldA 0 (.t 41),[0,1,2,3,4,5,6,7,8,9,10,11,12,13,14,15,16,17,18,19,26,27,28],(.new [])⟩,
⟨(some 43),(some (32,true)),.load none (.t 42),[0,1,2,3,4,5,6,7,8,9,10,11,12,13,14,15,16,17,18,19,26,27,28,29],(.new [])⟩,
⟨(some 44),(some (32,true)),.bin .geq (.t 38) (.t 43),[0,1,2,3,4,5,6,7,8,9,10,11,12,13,14,15,16,17,18,19,20,21,22,23,24,25,26,27,28,29,30],(.new [])⟩,
⟨(some 45),(some (29,false)),.pick (.t 32) (.t 44) (kB false),[0,1,2,3,4,5,6,7,8,9,10,11,12,13,14,15,16,17,18,19,20,21,22,23,24,25,26,27,28,29,30,31],(.lone [])⟩,
zl 46 (.pick (.t 29) (kB true) (.t 45)) [0,1,2,3,4,5,6,7,8,9,10,11,12,13,14,15,16,17,18,19,20,21,22,23,24,25,26,27,28,29,30,31,32] []]))
 (.cond (.t 46)
 (.seq (.reg [sq 2 (.mv (kB false))])
 .ret)
 .skip)))
 (.reg [sq 11 (.mv (.t 3)),
sq 12 (.bin .add (.t 11) (kI 1)),
sq 3 (.mv (.t 12))])))))))
 (.seq (.reg [sq 2 (.mv (kB true))])
 .ret))))⟩
theorem a85_ok:afn Tryz.prog 85=some a85.er:=by kernel_rfl
theorem F85_ok{x0 r}(h:F85 x0=some r):CallD Tryz.prog 85 [.c (dM (x0.map eLabel))] [] (tupV [.c (dB r)]) []:=by
 refine callS a85_ok (by simp[a85]) ?_
 rw[F85]at h
 simp only[a85,VW.down,Nat.reduceEqDiff,reduceCtorEq,Nat.reduceAdd,Nat.reduceLeDiff,Nat.reduceLT,Nat.reduceBEq,Nat.reduceSub,EE.down]
 refine condSh h (fun c1 h=>?_) (fun c1 h=>?_)
 ·refine ww ?_
  cases h
  exact eF []
 refine ww ?_
 obtain⟨o2,ho,h⟩:=bi h
 refine cutS (fun s=>∃po2,o2=Sum.inr po2∧s=⟨[],[]⟩) ?_ ?_
 ·have h0o2:=h
  have h:=ho
  clear ho
  obtain⟨_,hk,h⟩:=bi h
  have hk:=ck_some hk
  refine ww ?_
  refine bL (fun j s=>∃(o2_0:Nat),(o2_0≤x0.length∧j=x0.length-o2_0)∧s=⟨[(0,.one (.c (dM (x0.map eLabel)))),(3,.one (.c (dI ((o2_0:Int)))))],[]⟩∧F85_l2 x0 (x0.drop o2_0) o2_0=some o2) (x0.length-0) [] ⟨0,⟨hk.1,rfl⟩,rfl,h⟩ ?_
  rintro _ _ ⟨o2_0,⟨hi,rfl⟩,rfl,h⟩
  refine ww ?_
  refine condS (fun c3=>?_) (fun c3=>?_)
  ·obtain⟨xo2,hxo2,hd⟩:=countY (show(o2_0:Int)<(x0.length:Int)from c3)
   rw[hd,F85_l2]at h
   refine ww ?_
   obtain⟨o4,ho,h⟩:=bi h
   refine cutS (fun s=>s=⟨[(0,.one (.c (dM (x0.map eLabel)))),(3,.one (.c (dI ((o2_0:Int))))),(46,.one (.c (dB o4)))],[]⟩) ?_ ?_
   ·have h:=ho
    clear ho
    refine ww ?_
    refine t_idxF (enc:=eLabel) (xs:=x0) rfl rfl hxo2 rfl (ww ?_)
    obtain⟨t5,ht5,h⟩:=bi h
    refine cN [] (F117_ok ht5) trivial (ww ?_)
    refine guardDBh h (fun g6 h=>?_) (fun g6 h=>?_)
    ·refine ww ?_
     cases h
     exact eM [] rfl
    refine ww ?_
    refine t_idxF (enc:=eLabel) (xs:=x0) rfl rfl hxo2 rfl (ww ?_)
    obtain⟨t7,ht7,h⟩:=bi h
    refine cN [] (F118_ok ht7) trivial (ww ?_)
    refine guardDBh h (fun g8 h=>?_) (fun g8 h=>?_)
    ·refine ww ?_
     cases h
     exact eM [] rfl
    refine ww ?_
    refine guardDh h (fun g9 h=>?_) (fun g9 h=>?_)
    ·refine ww ?_
     obtain⟨y10,hy10,h⟩:=bi h
     refine t_idxF (enc:=eLabel) (xs:=x0) rfl rfl hy10 rfl (ww ?_)
     refine t_idxF (enc:=eLabel) (xs:=x0) rfl rfl hxo2 rfl (ww ?_)
     cases h
     exact eM [] rfl
    refine ww ?_
    cases h
    exact eM [] rfl
   rintro _ rfl
   clear ho
   refine ww ?_
   refine condBh h (fun c11 h=>?_) (fun c11 h=>?_)
   ·refine ww ?_
    obtain⟨fh0o2,hfh0o2,rfl⟩:=Option.map_eq_some_iff.1 h
    have h:=hfh0o2.trans h0o2
    cases h
    exact eF []
   refine ww ?_
   rw[wrapN (by omega)]
   exact eL' (x0.length-(o2_0+1)) [] ⟨o2_0+1,⟨by omega,rfl⟩,rfl,h⟩ (by omega)
  rw[countN (show¬((o2_0:Int)<(x0.length:Int))from c3),F85_l2]at h
  refine ww ?_
  cases h
  exact eM [] ⟨_,rfl,rfl⟩
 rintro _ ⟨po2,rfl,rfl⟩
 clear ho
 dsimp only at h
 refine ww ?_
 cases h
 exact eF []
end Go.Proofs.YtbopaemngpbdgaaGreat
