/- Each Go function as a function over typed data, and its walk. -/
import Derived.Test.YtondgcmdhkhkkaaGreatW0
import Derived.Test.YtondgcmdhkhkkaaGreatW2
import Derived.Test.YtondgcmdhkhkkaaGreatW4
import Derived.Test.YtondgcmdhkhkkaaGreatW5
namespace Go.Proofs.YtondgcmdhkhkkaaGreat
open Go Go.Fw Go.Shelf
set_option maxRecDepth 100000
set_option maxHeartbeats 4000000
set_option linter.unusedSimpArgs false
set_option linter.unusedVariables false
def F133_l2(x0:(List Label)):List Label→Nat→Option ((Bool) ⊕ (Unit))
 |[],o2_0=>some (Sum.inr (()))
 |xo2::xs,o2_0=>(((F87 xo2.Key).bind fun t5=>(if(nb t5)=true then some true else(F89 xo2.Value).bind fun t7=>(if(nb t7)=true then some true else(if 0<(o2_0:Int)then(rdI x0 ((IntKind.i64.wrap (((o2_0:Int))-1)))).bind fun y10=>some ((Op.bytesLess xo2.Key.toList y10.Key.toList||decide (xo2.Key=y10.Key)))else some false)))).bind fun o4=>(if o4=true then(some false).map Sum.inl else F133_l2 x0 xs (o2_0+1)))
def F133(x0:(List Label)):Option (Bool):=(if 16<(x0.length:Int)then some false else(((ck (0≤x0.length∧x0.length≤4294967290)).bind fun u12=>F133_l2 x0 x0 0:Option ((Bool) ⊕ (Unit))).bind fun o2=>match o2 with|Sum.inl f=>some f|Sum.inr po2=>some true))
def a133:AFn:=⟨41,[(.tmp 2)],
 (.seq (.reg [sq 2 (.mv (kB false))])
 (.seq (.seq (.reg [sq 5 (.mv (.t 0)),
sq 6 (.len (.t 5)),
sq 7 (.bin .gtr (.t 6) (kI 16))])
 (.cond (.t 7)
 (.seq (.reg [sq 2 (.mv (kB false))])
 .ret)
 .skip))
 (.seq (.seq (.reg [sq 8 (.mv (.t 0)),
sq 9 (.len (.t 8)),
sq 10 (.mv (kI 0))])
 (.sem (.block 0 (.loop (.seq (.reg [sq 11 (.bin .lss (.t 10) (.t 9))])
 (.seq (.cond (.t 11)
 .skip
 (.exit 0))
 (.seq (.block 1 (.seq (.reg [sq 12 (.mv (.t 10)),
sq 13 (.indexA 2 (.t 8) (.t 10)),
sq 14 (.load (some 2) (.t 13)),
sq 4 (.zbox [dS ⟨#[]⟩,dS ⟨#[]⟩]),
sq 3 (.mv (.t 12)),
su (.store 2 (.t 4) (.t 14))])
 (.seq (.sem (.regd [sq 15 (.fieldA 0 (.t 4)),
sd 16 (.load none (.t 15)) [0],
zl 17 (.call 87 [(.t 16)]) [0,1] [],
sd 18 (.not (.t 17)) [0,1,2],
sd 19 (.mv (.t 18)) [0,1,2,3],
⟨(some 20),(some (19,false)),.fieldA 1 (.t 4),[0,1,2,3,4],(.new [])⟩,
⟨(some 21),(some (19,false)),.load none (.t 20),[0,1,2,3,4,5],(.new [])⟩,
⟨(some 22),(some (19,false)),.call 89 [(.t 21)],[0,1,2,3,4,5,6],(.lone [])⟩,
⟨(some 23),(some (19,false)),.not (.t 22),[0,1,2,3,4,5,6,7],(.new [])⟩,
zl 24 (.pick (.t 19) (kB true) (.t 23)) [0,1,2,3,4,5,6,7,8] [],
sd 25 (.mv (.t 24)) [0,1,2,3,4,5,6,7,8,9],
⟨(some 26),(some (25,false)),.mv (.t 3),[0,1,2,3,4,5,6,7,8,9,10],(.new [])⟩,
⟨(some 27),(some (25,false)),.bin .gtr (.t 26) (kI 0),[0,1,2,3,4,5,6,7,8,9,10,11],(.new [])⟩,
⟨(some 28),(some (25,false)),.mv (.t 27),[0,1,2,3,4,5,6,7,8,9,10,11,12],(.new [])⟩,
⟨(some 29),(some (28,true)),.fieldA 0 (.t 4),[0,1,2,3,4,5,6,7,8,9,10,11,12,13],(.new [])⟩,
⟨(some 30),(some (28,true)),.load none (.t 29),[0,1,2,3,4,5,6,7,8,9,10,11,12,13,14],(.new [])⟩,
⟨(some 31),(some (28,true)),.mv (.t 0),[0,1,2,3,4,5,6,7,8,9,10,11,12,13],(.new [])⟩,
⟨(some 32),(some (28,true)),.mv (.t 3),[0,1,2,3,4,5,6,7,8,9,10,11,12,13],(.new [])⟩,
⟨(some 33),(some (28,true)),.bin .sub (.t 32) (kI 1),[0,1,2,3,4,5,6,7,8,9,10,11,12,13,17],(.new [])⟩,
⟨(some 34),(some (28,true)),.indexA 2 (.t 31) (.t 33),[0,1,2,3,4,5,6,7,8,9,10,11,12,13,16,17,18],(.new [])⟩,
⟨(some 35),(some (28,true)),.fieldA 0 (.t 34),[0,1,2,3,4,5,6,7,8,9,10,11,12,13,16,17,18,19],(.new [])⟩,
⟨(some 36),(some (28,true)),.load none (.t 35),[0,1,2,3,4,5,6,7,8,9,10,11,12,13,16,17,18,19,20],(.new [])⟩,
⟨(some 37),(some (28,true)),.bin .leq (.t 30) (.t 36),[0,1,2,3,4,5,6,7,8,9,10,11,12,13,14,15,16,17,18,19,20,21],(.new [])⟩,
⟨(some 38),(some (25,false)),.pick (.t 28) (.t 37) (kB false),[0,1,2,3,4,5,6,7,8,9,10,11,12,13,14,15,16,17,18,19,20,21,22],(.lone [])⟩,
zl 39 (.pick (.t 25) (kB true) (.t 38)) [0,1,2,3,4,5,6,7,8,9,10,11,12,13,14,15,16,17,18,19,20,21,22,23] []]))
 (.cond (.t 39)
 (.seq (.reg [sq 2 (.mv (kB false))])
 .ret)
 .skip))))
 (.reg [sq 40 (.bin .add (.t 10) (kI 1)),
sq 10 (.mv (.t 40))]))))))))
 (.seq (.reg [sq 2 (.mv (kB true))])
 .ret))))⟩
theorem a133_ok:afn Tryz.prog 133=some a133.er:=by kernel_rfl
theorem F133_ok{x0 r}(h:F133 x0=some r):CallD Tryz.prog 133 [.c (dM (x0.map eLabel))] [] (tupV [.c (dB r)]) []:=by
 refine callS a133_ok (by simp[a133]) ?_
 rw[F133]at h
 simp only[a133,VW.down,Nat.reduceEqDiff,reduceCtorEq,Nat.reduceAdd,Nat.reduceLeDiff,Nat.reduceLT,Nat.reduceBEq,Nat.reduceSub,EE.down]
 refine condSh h (fun c1 h=>?_) (fun c1 h=>?_)
 ·refine ww ?_
  cases h
  exact eF []
 refine ww ?_
 obtain⟨o2,ho,h⟩:=bi h
 refine cutS (fun s=>∃po2,o2=Sum.inr po2∧s=⟨[],[]⟩) ?_ ?_
 ·have h0o2:=h
  have h:=ho
  clear ho
  obtain⟨_,hk,h⟩:=bi h
  have hk:=ck_some hk
  refine ww ?_
  refine bL (fun j s=>∃(o2_0:Nat),(o2_0≤x0.length∧j=x0.length-o2_0)∧s=⟨[(0,.one (.c (dM (x0.map eLabel)))),(8,.one (.c (dM (x0.map eLabel)))),(9,.one (.c (dI ((x0.length:Int))))),(10,.one (.c (dI ((o2_0:Int)))))],[]⟩∧F133_l2 x0 (x0.drop o2_0) o2_0=some o2) (x0.length-0) [] ⟨0,⟨hk.1,rfl⟩,rfl,h⟩ ?_
  rintro _ _ ⟨o2_0,⟨hi,rfl⟩,rfl,h⟩
  refine ww ?_
  refine condS (fun c3=>?_) (fun c3=>?_)
  ·obtain⟨xo2,hxo2,hd⟩:=countY (show(o2_0:Int)<(x0.length:Int)from c3)
   rw[hd,F133_l2]at h
   refine ww ?_
   refine t_idxF (enc:=eLabel) (xs:=x0) rfl rfl hxo2 rfl (ww ?_)
   obtain⟨o4,ho,h⟩:=bi h
   refine cutS (fun s=>s=⟨[(0,.one (.c (dM (x0.map eLabel)))),(8,.one (.c (dM (x0.map eLabel)))),(9,.one (.c (dI ((x0.length:Int))))),(10,.one (.c (dI ((o2_0:Int))))),(39,.one (.c (dB o4)))],[]⟩) ?_ ?_
   ·have h:=ho
    clear ho
    refine ww ?_
    obtain⟨t5,ht5,h⟩:=bi h
    refine cN [] (F87_ok ht5) trivial (ww ?_)
    refine guardDBh h (fun g6 h=>?_) (fun g6 h=>?_)
    ·refine ww ?_
     cases h
     exact eM [] rfl
    refine ww ?_
    obtain⟨t7,ht7,h⟩:=bi h
    refine cN [] (F89_ok ht7) trivial (ww ?_)
    refine guardDBh h (fun g8 h=>?_) (fun g8 h=>?_)
    ·refine ww ?_
     cases h
     exact eM [] rfl
    refine ww ?_
    refine guardDh h (fun g9 h=>?_) (fun g9 h=>?_)
    ·refine ww ?_
     obtain⟨y10,hy10,h⟩:=bi h
     refine t_idxF (enc:=eLabel) (xs:=x0) rfl rfl hy10 rfl (ww ?_)
     cases h
     exact eM [] rfl
    refine ww ?_
    cases h
    exact eM [] rfl
   rintro _ rfl
   clear ho
   refine ww ?_
   refine condBh h (fun c11 h=>?_) (fun c11 h=>?_)
   ·refine ww ?_
    obtain⟨fh0o2,hfh0o2,rfl⟩:=Option.map_eq_some_iff.1 h
    have h:=hfh0o2.trans h0o2
    cases h
    exact eF []
   refine ww ?_
   rw[wrapN (by omega)]
   exact eL' (x0.length-(o2_0+1)) [] ⟨o2_0+1,⟨by omega,rfl⟩,rfl,h⟩ (by omega)
  rw[countN (show¬((o2_0:Int)<(x0.length:Int))from c3),F133_l2]at h
  refine ww ?_
  cases h
  exact eM [] ⟨_,rfl,rfl⟩
 rintro _ ⟨po2,rfl,rfl⟩
 clear ho
 dsimp only at h
 refine ww ?_
 cases h
 exact eF []
def F116(x0:Meta):Option (Bool):=(((if(if x0.DeleteAt<(if x0.Created<(if x0.Generation<(if x0.Version<x0.Uid then x0.Version else x0.Uid)then x0.Generation else(if x0.Version<x0.Uid then x0.Version else x0.Uid))then x0.Created else(if x0.Generation<(if x0.Version<x0.Uid then x0.Version else x0.Uid)then x0.Generation else(if x0.Version<x0.Uid then x0.Version else x0.Uid)))then x0.DeleteAt else(if x0.Created<(if x0.Generation<(if x0.Version<x0.Uid then x0.Version else x0.Uid)then x0.Generation else(if x0.Version<x0.Uid then x0.Version else x0.Uid))then x0.Created else(if x0.Generation<(if x0.Version<x0.Uid then x0.Version else x0.Uid)then x0.Generation else(if x0.Version<x0.Uid then x0.Version else x0.Uid))))<0 then some true else(if(nb x0.Deleting)=true then some (decide (¬(x0.DeleteAt=0)))else some false))).bind fun o1=>(if o1=true then some false else(((F130 x0.Kind).bind fun t6=>(if t6=true then(F131 x0.Namespace).bind fun t8=>(if t8=true then(F132 x0.Name).bind fun t10=>(if t10=true then(F133 x0.Labels).bind fun t12=>(if t12=true then(F134 x0.Owners).bind fun t14=>(if t14=true then(F135 x0.Finalizers).bind fun t16=>(if t16=true then(F136 x0.Managers).bind fun t18=>some t18 else some false)else some false)else some false)else some false)else some false)else some false)).bind fun o5=>some o5)))
def a116:AFn:=⟨58,[(.tmp 2)],
 (.seq (.reg [sq 1 (.box (.t 0)),
sq 2 (.mv (kB false))])
 (.seq (.seq (.sem (.reg [sq 3 (.fieldA 3 (.t 1)),
sq 4 (.load none (.t 3)),
sq 5 (.fieldA 4 (.t 1)),
sq 6 (.load none (.t 5)),
sq 7 (.fieldA 5 (.t 1)),
sq 8 (.load none (.t 7)),
sq 9 (.fieldA 6 (.t 1)),
sq 10 (.load none (.t 9)),
sq 11 (.fieldA 8 (.t 1)),
sq 12 (.load none (.t 11)),
sq 13 (.mins (.t 4) [(.t 6),(.t 8),(.t 10),(.t 12)]),
sq 14 (.bin .lss (.t 13) (kI 0)),
sq 15 (.mv (.t 14)),
zg 16 15 false (.fieldA 7 (.t 1)),
zg 17 15 false (.load none (.t 16)),
zg 18 15 false (.not (.t 17)),
zg 19 15 false (.mv (.t 18)),
zg 20 19 true (.fieldA 8 (.t 1)),
zg 21 19 true (.load none (.t 20)),
zg 22 19 true (.bin .neq (.t 21) (kI 0)),
zg 23 15 false (.pick (.t 19) (.t 22) (kB false)),
sq 24 (.pick (.t 15) (kB true) (.t 23))]))
 (.cond (.t 24)
 (.seq (.reg [sq 2 (.mv (kB false))])
 .ret)
 .skip))
 (.seq (.sem (.reg [sq 25 (.fieldA 0 (.t 1)),
sq 26 (.load none (.t 25)),
sq 27 (.call 130 [(.t 26)]),
sq 28 (.mv (.t 27)),
zg 29 28 true (.fieldA 1 (.t 1)),
zg 30 28 true (.load none (.t 29)),
zg 31 28 true (.call 131 [(.t 30)]),
sq 32 (.pick (.t 28) (.t 31) (kB false)),
sq 33 (.mv (.t 32)),
zg 34 33 true (.fieldA 2 (.t 1)),
zg 35 33 true (.load none (.t 34)),
zg 36 33 true (.call 132 [(.t 35)]),
sq 37 (.pick (.t 33) (.t 36) (kB false)),
sq 38 (.mv (.t 37)),
zg 39 38 true (.fieldA 9 (.t 1)),
zg 40 38 true (.load none (.t 39)),
zg 41 38 true (.call 133 [(.t 40)]),
sq 42 (.pick (.t 38) (.t 41) (kB false)),
sq 43 (.mv (.t 42)),
zg 44 43 true (.fieldA 10 (.t 1)),
zg 45 43 true (.load none (.t 44)),
zg 46 43 true (.call 134 [(.t 45)]),
sq 47 (.pick (.t 43) (.t 46) (kB false)),
sq 48 (.mv (.t 47)),
zg 49 48 true (.fieldA 11 (.t 1)),
zg 50 48 true (.load none (.t 49)),
zg 51 48 true (.call 135 [(.t 50)]),
sq 52 (.pick (.t 48) (.t 51) (kB false)),
sq 53 (.mv (.t 52)),
zg 54 53 true (.fieldA 12 (.t 1)),
zg 55 53 true (.load none (.t 54)),
zg 56 53 true (.call 136 [(.t 55)]),
sq 57 (.pick (.t 53) (.t 56) (kB false)),
sq 2 (.mv (.t 57))]))
 .ret)))⟩
theorem a116_ok:afn Tryz.prog 116=some a116.er:=by kernel_rfl
theorem F116_ok{x0 r}(h:F116 x0=some r):CallD Tryz.prog 116 [.agg [dS x0.Kind,dS x0.Namespace,dS x0.Name,dI x0.Uid,dI x0.Version,dI x0.Generation,dI x0.Created,dB x0.Deleting,dI x0.DeleteAt,dM (x0.Labels.map eLabel),dM (x0.Owners.map eOwner),dM (x0.Finalizers.map eS),dM (x0.Managers.map eManager)]] [] (tupV [.c (dB r)]) []:=by
 refine callS a116_ok (by simp[a116]) ?_
 rw[F116]at h
 simp only[a116,VW.down,Nat.reduceEqDiff,reduceCtorEq,Nat.reduceAdd,Nat.reduceLeDiff,Nat.reduceLT,Nat.reduceBEq,Nat.reduceSub,EE.down]
 obtain⟨o1,ho,h⟩:=bi h
 refine cutS (fun s=>s=⟨[(1,.one (.c (.pt 0 0))),(24,.one (.c (dB o1)))],[some (.box [dS x0.Kind,dS x0.Namespace,dS x0.Name,dI x0.Uid,dI x0.Version,dI x0.Generation,dI x0.Created,dB x0.Deleting,dI x0.DeleteAt,dM (x0.Labels.map eLabel),dM (x0.Owners.map eOwner),dM (x0.Finalizers.map eS),dM (x0.Managers.map eManager)])]⟩) ?_ ?_
 ·have h:=ho
  clear ho
  refine ww ?_
  refine guardSh h (fun g2 h=>?_) (fun g2 h=>?_)
  ·refine ww ?_
   cases h
   exact eM [some 0] rfl
  refine ww ?_
  refine guardSBh h (fun g3 h=>?_) (fun g3 h=>?_)
  ·refine ww ?_
   cases h
   exact eM [some 0] rfl
  refine ww ?_
  cases h
  exact eM [some 0] rfl
 rintro _ rfl
 clear ho
 refine ww ?_
 refine condBh h (fun c4 h=>?_) (fun c4 h=>?_)
 ·refine ww ?_
  cases h
  exact eF []
 refine ww ?_
 obtain⟨o5,ho,h⟩:=bi h
 refine cutS (fun s=>s=⟨[(2,.one (.c (dB o5)))],[]⟩) ?_ ?_
 ·have h:=ho
  clear ho
  refine ww ?_
  obtain⟨t6,ht6,h⟩:=bi h
  refine cN [] (F130_ok ht6) trivial (ww ?_)
  refine guardSBh h (fun g7 h=>?_) (fun g7 h=>?_)
  ·refine ww ?_
   obtain⟨t8,ht8,h⟩:=bi h
   refine cN [] (F131_ok ht8) trivial (ww ?_)
   refine guardSBh h (fun g9 h=>?_) (fun g9 h=>?_)
   ·refine ww ?_
    obtain⟨t10,ht10,h⟩:=bi h
    refine cN [] (F132_ok ht10) trivial (ww ?_)
    refine guardSBh h (fun g11 h=>?_) (fun g11 h=>?_)
    ·refine ww ?_
     obtain⟨t12,ht12,h⟩:=bi h
     refine cN [] (F133_ok ht12) trivial (ww ?_)
     refine guardSBh h (fun g13 h=>?_) (fun g13 h=>?_)
     ·refine ww ?_
      obtain⟨t14,ht14,h⟩:=bi h
      refine cN [] (F134_ok ht14) trivial (ww ?_)
      refine guardSBh h (fun g15 h=>?_) (fun g15 h=>?_)
      ·refine ww ?_
       obtain⟨t16,ht16,h⟩:=bi h
       refine cN [] (F135_ok ht16) trivial (ww ?_)
       refine guardSBh h (fun g17 h=>?_) (fun g17 h=>?_)
       ·refine ww ?_
        obtain⟨t18,ht18,h⟩:=bi h
        refine cN [] (F136_ok ht18) trivial (ww ?_)
        cases h
        exact eM [] rfl
       refine ww ?_
       cases h
       exact eM [] rfl
      refine ww ?_
      cases h
      exact eM [] rfl
     refine ww ?_
     cases h
     exact eM [] rfl
    refine ww ?_
    cases h
    exact eM [] rfl
   refine ww ?_
   cases h
   exact eM [] rfl
  refine ww ?_
  cases h
  exact eM [] rfl
 rintro _ rfl
 clear ho
 refine ww ?_
 cases h
 exact eF []
def F51_l2(x1:(List Manager)):List Manager→Nat→Option ((Bool) ⊕ (Unit))
 |[],o2_0=>some (Sum.inr (()))
 |xo2::xs,o2_0=>(rdI x1 ((o2_0:Int))).bind fun y4=>(F50 xo2 y4).bind fun t5=>(if(nb t5)=true then(some false).map Sum.inl else F51_l2 x1 xs (o2_0+1))
def F51(x0:(List Manager))(x1:(List Manager)):Option (Bool):=(if¬((x0.length:Int)=(x1.length:Int))then some false else(((ck (0≤x0.length∧x0.length≤4294967290)).bind fun u7=>F51_l2 x1 x0 0:Option ((Bool) ⊕ (Unit))).bind fun o2=>match o2 with|Sum.inl f=>some f|Sum.inr po2=>some true))
def a51:AFn:=⟨32,[(.tmp 6)],
 (.seq (.reg [sq 6 (.mv (kB false))])
 (.seq (.seq (.reg [sq 10 (.mv (.t 0)),
sq 11 (.len (.t 10)),
sq 12 (.mv (.t 1)),
sq 13 (.len (.t 12)),
sq 14 (.bin .neq (.t 11) (.t 13))])
 (.cond (.t 14)
 (.seq (.reg [sq 6 (.mv (kB false))])
 .ret)
 .skip))
 (.seq (.seq (.reg [sq 15 (.mv (.t 0)),
sq 16 (.len (.t 15)),
sq 17 (.mv (kI 0))])
 (.sem (.block 0 (.loop (.seq (.reg [sq 18 (.bin .lss (.t 17) (.t 16))])
 (.seq (.cond (.t 18)
 .skip
 (.exit 0))
 (.seq (.block 1 (.seq (.reg [sq 19 (.mv (.t 17)),
sq 20 (.indexA 2 (.t 15) (.t 17)),
sq 21 (.load (some 2) (.t 20)),
sq 8 (.zbox [dS ⟨#[]⟩,dN]),
sq 7 (.mv (.t 19)),
su (.store 2 (.t 8) (.t 21))])
 (.seq (.reg [sq 22 (.mv (.t 1)),
sq 23 (.mv (.t 7)),
sq 24 (.indexA 2 (.t 22) (.t 23)),
sq 25 (.load (some 2) (.t 24)),
sq 9 (.zbox [dS ⟨#[]⟩,dN]),
su (.store 2 (.t 9) (.t 25))])
 (.seq (.reg [sq 26 (.mv (.t 2)),
sq 27 (.load (some 2) (.t 8)),
sq 28 (.load (some 2) (.t 9)),
sq 29 (.callv (.t 26) [(.t 27),(.t 28)]),
sq 30 (.not (.t 29))])
 (.cond (.t 30)
 (.seq (.reg [sq 6 (.mv (kB false))])
 .ret)
 .skip)))))
 (.reg [sq 31 (.bin .add (.t 17) (kI 1)),
sq 17 (.mv (.t 31))]))))))))
 (.seq (.reg [sq 6 (.mv (kB true))])
 .ret))))⟩
theorem a51_ok:afn Tryz.prog 51=some a51.er:=by kernel_rfl
theorem F51_ok{x0 x1 r}(h:F51 x0 x1=some r):CallD Tryz.prog 51 [.c (dM (x0.map eManager)),.c (dM (x1.map eManager)),.c (.fn 50 [])] [] (tupV [.c (dB r)]) []:=by
 refine callS a51_ok (by simp[a51]) ?_
 rw[F51]at h
 simp only[a51,VW.down,Nat.reduceEqDiff,reduceCtorEq,Nat.reduceAdd,Nat.reduceLeDiff,Nat.reduceLT,Nat.reduceBEq,Nat.reduceSub,EE.down]
 refine condSh h (fun c1 h=>?_) (fun c1 h=>?_)
 ·refine ww ?_
  cases h
  exact eF []
 refine ww ?_
 obtain⟨o2,ho,h⟩:=bi h
 refine cutS (fun s=>∃po2,o2=Sum.inr po2∧s=⟨[],[]⟩) ?_ ?_
 ·have h0o2:=h
  have h:=ho
  clear ho
  obtain⟨_,hk,h⟩:=bi h
  have hk:=ck_some hk
  refine ww ?_
  refine bL (fun j s=>∃(o2_0:Nat),(o2_0≤x0.length∧j=x0.length-o2_0)∧s=⟨[(1,.one (.c (dM (x1.map eManager)))),(2,.one (.c (.fn 50 []))),(15,.one (.c (dM (x0.map eManager)))),(16,.one (.c (dI ((x0.length:Int))))),(17,.one (.c (dI ((o2_0:Int)))))],[]⟩∧F51_l2 x1 (x0.drop o2_0) o2_0=some o2) (x0.length-0) [] ⟨0,⟨hk.1,rfl⟩,rfl,h⟩ ?_
  rintro _ _ ⟨o2_0,⟨hi,rfl⟩,rfl,h⟩
  refine ww ?_
  refine condS (fun c3=>?_) (fun c3=>?_)
  ·obtain⟨xo2,hxo2,hd⟩:=countY (show(o2_0:Int)<(x0.length:Int)from c3)
   rw[hd,F51_l2]at h
   refine ww ?_
   refine t_idxF (enc:=eManager) (xs:=x0) rfl rfl hxo2 rfl (ww ?_)
   obtain⟨y4,hy4,h⟩:=bi h
   refine t_idxF (enc:=eManager) (xs:=x1) rfl rfl hy4 rfl (ww ?_)
   obtain⟨t5,ht5,h⟩:=bi h
   refine cN [] (F50_ok ht5) trivial (ww ?_)
   refine condBh h (fun c6 h=>?_) (fun c6 h=>?_)
   ·refine ww ?_
    obtain⟨fh0o2,hfh0o2,rfl⟩:=Option.map_eq_some_iff.1 h
    have h:=hfh0o2.trans h0o2
    cases h
    exact eF []
   refine ww ?_
   rw[wrapN (by omega)]
   exact eL' (x0.length-(o2_0+1)) [] ⟨o2_0+1,⟨by omega,rfl⟩,rfl,h⟩ (by omega)
  rw[countN (show¬((o2_0:Int)<(x0.length:Int))from c3),F51_l2]at h
  refine ww ?_
  cases h
  exact eM [] ⟨_,rfl,rfl⟩
 rintro _ ⟨po2,rfl,rfl⟩
 clear ho
 dsimp only at h
 refine ww ?_
 cases h
 exact eF []
def F59_l11(x0:Requirement):List ByteArray→Nat→Option ((Bool) ⊕ (Unit))
 |[],o11_0=>some (Sum.inr (()))
 |xo11::xs,o11_0=>(((F89 xo11).bind fun t14=>(if(nb t14)=true then some true else(if 0<(o11_0:Int)then(rdI x0.Values ((IntKind.i64.wrap (((o11_0:Int))-1)))).bind fun y17=>some ((Op.bytesLess xo11.toList y17.toList||decide (xo11=y17)))else some false))).bind fun o13=>(if o13=true then(some false).map Sum.inl else F59_l11 x0 xs (o11_0+1)))
def F59(x0:Requirement):Option (Bool):=(F87 x0.Key).bind fun t1=>(if(nb t1)=true then some false else(F88 x0.Op).bind fun t3=>(if(nb t3)=true then(((if x0.Op=3 then some (decide ((x0.Values.length:Int)=0))else(if x0.Op=4 then some (decide ((x0.Values.length:Int)=0))else some false))).bind fun o5=>some o5)else(((if(x0.Values.length:Int)<1 then some true else some (decide (64<(x0.Values.length:Int))))).bind fun o8=>(if o8=true then some false else(((ck (0≤x0.Values.length∧x0.Values.length≤4294967290)).bind fun u19=>F59_l11 x0 x0.Values 0:Option ((Bool) ⊕ (Unit))).bind fun o11=>match o11 with|Sum.inl f=>some f|Sum.inr po11=>some true)))))
def a59:AFn:=⟨63,[(.tmp 2)],
 (.seq (.reg [sq 1 (.box (.t 0)),
sq 2 (.mv (kB false))])
 (.seq (.seq (.reg [sq 5 (.fieldA 0 (.t 1)),
sq 6 (.load none (.t 5)),
sq 7 (.call 87 [(.t 6)]),
sq 8 (.not (.t 7))])
 (.cond (.t 8)
 (.seq (.reg [sq 2 (.mv (kB false))])
 .ret)
 .skip))
 (.seq (.seq (.reg [sq 9 (.fieldA 1 (.t 1)),
sq 10 (.load none (.t 9)),
sq 11 (.call 88 [(.t 10)]),
sq 12 (.not (.t 11))])
 (.cond (.t 12)
 (.seq (.sem (.reg [sq 13 (.fieldA 1 (.t 1)),
sq 14 (.load none (.t 13)),
sq 15 (.bin .eql (.t 14) (kI 3)),
sq 16 (.mv (.t 15)),
zg 17 16 false (.fieldA 1 (.t 1)),
zg 18 16 false (.load none (.t 17)),
zg 19 16 false (.bin .eql (.t 18) (kI 4)),
sq 20 (.pick (.t 16) (kB true) (.t 19)),
sq 21 (.mv (.t 20)),
zg 22 21 true (.fieldA 2 (.t 1)),
zg 23 21 true (.load none (.t 22)),
zg 24 21 true (.len (.t 23)),
zg 25 21 true (.bin .eql (.t 24) (kI 0)),
sq 26 (.pick (.t 21) (.t 25) (kB false)),
sq 2 (.mv (.t 26))]))
 .ret)
 .skip))
 (.seq (.seq (.sem (.reg [sq 27 (.fieldA 2 (.t 1)),
sq 28 (.load none (.t 27)),
sq 29 (.len (.t 28)),
sq 30 (.bin .lss (.t 29) (kI 1)),
sq 31 (.mv (.t 30)),
zg 32 31 false (.fieldA 2 (.t 1)),
zg 33 31 false (.load none (.t 32)),
zg 34 31 false (.len (.t 33)),
zg 35 31 false (.bin .gtr (.t 34) (kI 64)),
zl 36 (.pick (.t 31) (kB true) (.t 35)) [] [1,27,28,1,32,33]]))
 (.cond (.t 36)
 (.seq (.reg [sq 2 (.mv (kB false))])
 .ret)
 .skip))
 (.seq (.seq (.reg [sq 37 (.fieldA 2 (.t 1)),
sq 38 (.load none (.t 37)),
sq 39 (.len (.t 38)),
sq 40 (.mv (kI 0))])
 (.sem (.block 0 (.loop (.seq (.reg [sq 41 (.bin .lss (.t 40) (.t 39))])
 (.seq (.cond (.t 41)
 .skip
 (.exit 0))
 (.seq (.block 1 (.seq (.reg [sq 42 (.mv (.t 40)),
sq 43 (.indexA 1 (.t 38) (.t 40)),
sq 44 (.load none (.t 43)),
sq 3 (.mv (.t 42)),
sq 4 (.mv (.t 44))])
 (.seq (.sem (.reg [sq 45 (.mv (.t 4)),
sq 46 (.call 89 [(.t 45)]),
sq 47 (.not (.t 46)),
sq 48 (.mv (.t 47)),
zg 49 48 false (.mv (.t 3)),
zg 50 48 false (.bin .gtr (.t 49) (kI 0)),
zg 51 48 false (.mv (.t 50)),
zg 52 51 true (.mv (.t 4)),
zg 53 51 true (.fieldA 2 (.t 1)),
zg 54 51 true (.load none (.t 53)),
zg 55 51 true (.mv (.t 3)),
zg 56 51 true (.bin .sub (.t 55) (kI 1)),
zg 57 51 true (.indexA 1 (.t 54) (.t 56)),
zg 58 51 true (.load none (.t 57)),
zg 59 51 true (.bin .leq (.t 52) (.t 58)),
zg 60 48 false (.pick (.t 51) (.t 59) (kB false)),
sq 61 (.pick (.t 48) (kB true) (.t 60))]))
 (.cond (.t 61)
 (.seq (.reg [sq 2 (.mv (kB false))])
 .ret)
 .skip))))
 (.reg [sq 62 (.bin .add (.t 40) (kI 1)),
sq 40 (.mv (.t 62))]))))))))
 (.seq (.reg [sq 2 (.mv (kB true))])
 .ret))))))⟩
theorem a59_ok:afn Tryz.prog 59=some a59.er:=by kernel_rfl
theorem F59_ok{x0 r}(h:F59 x0=some r):CallD Tryz.prog 59 [.agg [dS x0.Key,dI x0.Op,dM (x0.Values.map eS)]] [] (tupV [.c (dB r)]) []:=by
 refine callS a59_ok (by simp[a59]) ?_
 rw[F59]at h
 simp only[a59,VW.down,Nat.reduceEqDiff,reduceCtorEq,Nat.reduceAdd,Nat.reduceLeDiff,Nat.reduceLT,Nat.reduceBEq,Nat.reduceSub,EE.down]
 obtain⟨t1,ht1,h⟩:=bi h
 refine cN [] (F87_ok ht1) trivial (ww ?_)
 refine condBh h (fun c2 h=>?_) (fun c2 h=>?_)
 ·refine ww ?_
  cases h
  exact eF []
 refine ww ?_
 obtain⟨t3,ht3,h⟩:=bi h
 refine cN [] (F88_ok ht3) trivial (ww ?_)
 refine condBh h (fun c4 h=>?_) (fun c4 h=>?_)
 ·refine ww ?_
  obtain⟨o5,ho,h⟩:=bi h
  refine cutS (fun s=>s=⟨[(2,.one (.c (dB o5)))],[]⟩) ?_ ?_
  ·have h:=ho
   clear ho
   refine ww ?_
   refine guardSh h (fun g6 h=>?_) (fun g6 h=>?_)
   ·refine ww ?_
    cases h
    exact eM [] rfl
   refine ww ?_
   refine guardSh h (fun g7 h=>?_) (fun g7 h=>?_)
   ·refine ww ?_
    cases h
    exact eM [] rfl
   refine ww ?_
   cases h
   exact eM [] rfl
  rintro _ rfl
  clear ho
  refine ww ?_
  cases h
  exact eF []
 refine ww ?_
 obtain⟨o8,ho,h⟩:=bi h
 refine cutS (fun s=>s=⟨[(1,.one (.c (.pt 0 0))),(36,.one (.c (dB o8)))],[some (.box [dS x0.Key,dI x0.Op,dM (x0.Values.map eS)])]⟩) ?_ ?_
 ·have h:=ho
  clear ho
  refine ww ?_
  refine guardSh h (fun g9 h=>?_) (fun g9 h=>?_)
  ·refine ww ?_
   cases h
   exact eM [some 0] rfl
  refine ww ?_
  cases h
  exact eM [some 0] rfl
 rintro _ rfl
 clear ho
 refine ww ?_
 refine condBh h (fun c10 h=>?_) (fun c10 h=>?_)
 ·refine ww ?_
  cases h
  exact eF []
 refine ww ?_
 obtain⟨o11,ho,h⟩:=bi h
 refine cutS (fun s=>∃po11,o11=Sum.inr po11∧s=⟨[],[]⟩) ?_ ?_
 ·have h0o11:=h
  have h:=ho
  clear ho
  obtain⟨_,hk,h⟩:=bi h
  have hk:=ck_some hk
  refine ww ?_
  refine bL (fun j s=>∃(o11_0:Nat),(o11_0≤x0.Values.length∧j=x0.Values.length-o11_0)∧s=⟨[(1,.one (.c (.pt 0 0))),(38,.one (.c (dM (x0.Values.map eS)))),(39,.one (.c (dI ((x0.Values.length:Int))))),(40,.one (.c (dI ((o11_0:Int)))))],[some (.box [dS x0.Key,dI x0.Op,dM (x0.Values.map eS)])]⟩∧F59_l11 x0 (x0.Values.drop o11_0) o11_0=some o11) (x0.Values.length-0) [some 0] ⟨0,⟨hk.1,rfl⟩,rfl,h⟩ ?_
  rintro _ _ ⟨o11_0,⟨hi,rfl⟩,rfl,h⟩
  refine ww ?_
  refine condS (fun c12=>?_) (fun c12=>?_)
  ·obtain⟨xo11,hxo11,hd⟩:=countY (show(o11_0:Int)<(x0.Values.length:Int)from c12)
   rw[hd,F59_l11]at h
   refine ww ?_
   refine t_idxF (enc:=eS) (xs:=x0.Values) rfl rfl hxo11 rfl (ww ?_)
   obtain⟨o13,ho,h⟩:=bi h
   refine cutS (fun s=>s=⟨[(1,.one (.c (.pt 0 0))),(38,.one (.c (dM (x0.Values.map eS)))),(39,.one (.c (dI ((x0.Values.length:Int))))),(40,.one (.c (dI ((o11_0:Int))))),(61,.one (.c (dB o13)))],[some (.box [dS x0.Key,dI x0.Op,dM (x0.Values.map eS)])]⟩) ?_ ?_
   ·have h:=ho
    clear ho
    refine ww ?_
    obtain⟨t14,ht14,h⟩:=bi h
    refine cN [] (F89_ok ht14) trivial (ww ?_)
    refine guardSBh h (fun g15 h=>?_) (fun g15 h=>?_)
    ·refine ww ?_
     cases h
     exact eM [some 0] rfl
    refine ww ?_
    refine guardSh h (fun g16 h=>?_) (fun g16 h=>?_)
    ·refine ww ?_
     obtain⟨y17,hy17,h⟩:=bi h
     refine t_idxF (enc:=eS) (xs:=x0.Values) rfl rfl hy17 rfl (ww ?_)
     cases h
     exact eM [some 0] rfl
    refine ww ?_
    cases h
    exact eM [some 0] rfl
   rintro _ rfl
   clear ho
   refine ww ?_
   refine condBh h (fun c18 h=>?_) (fun c18 h=>?_)
   ·refine ww ?_
    obtain⟨fh0o11,hfh0o11,rfl⟩:=Option.map_eq_some_iff.1 h
    have h:=hfh0o11.trans h0o11
    cases h
    exact eF []
   refine ww ?_
   rw[wrapN (by omega)]
   exact eL' (x0.Values.length-(o11_0+1)) [some 0] ⟨o11_0+1,⟨by omega,rfl⟩,rfl,h⟩ (by omega)
  rw[countN (show¬((o11_0:Int)<(x0.Values.length:Int))from c12),F59_l11]at h
  refine ww ?_
  cases h
  exact eM [] ⟨_,rfl,rfl⟩
 rintro _ ⟨po11,rfl,rfl⟩
 clear ho
 dsimp only at h
 refine ww ?_
 cases h
 exact eF []
def F58(x0:Requirement):Option (Bool):=(F59 x0).bind fun t1=>some (nb t1)
def a58:AFn:=⟨6,[(.tmp 2)],
 (.seq (.reg [sq 1 (.box (.t 0)),
sq 2 (.mv (kB false))])
 (.seq (.reg [sq 3 (.load (some 3) (.t 1)),
sq 4 (.call 59 [(.t 3)]),
sq 5 (.not (.t 4)),
sq 2 (.mv (.t 5))])
 .ret))⟩
theorem a58_ok:afn Tryz.prog 58=some a58.er:=by kernel_rfl
theorem F58_ok{x0 r}(h:F58 x0=some r):CallD Tryz.prog 58 [.agg [dS x0.Key,dI x0.Op,dM (x0.Values.map eS)]] [] (tupV [.c (dB r)]) []:=by
 refine callS a58_ok (by simp[a58]) ?_
 rw[F58]at h
 simp only[a58,VW.down,Nat.reduceEqDiff,reduceCtorEq,Nat.reduceAdd,Nat.reduceLeDiff,Nat.reduceLT,Nat.reduceBEq,Nat.reduceSub,EE.down]
 obtain⟨t1,ht1,h⟩:=bi h
 refine cN [] (F59_ok ht1) trivial (ww ?_)
 cases h
 exact eF []
end Go.Proofs.YtondgcmdhkhkkaaGreat
