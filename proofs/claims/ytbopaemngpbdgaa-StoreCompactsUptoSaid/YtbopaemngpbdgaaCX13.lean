/- Each Go function as a function over typed data, and its walk. -/
import Derived.Test.YtbopaemngpbdgaaCX
import Derived.Test.YtbopaemngpbdgaaCX6
import Derived.Test.YtbopaemngpbdgaaCX7
import Derived.Test.YtbopaemngpbdgaaCX8
namespace Go.Proofs.Ytbopaemngpbdgaa
open Go Go.Fw Go.Shelf
set_option maxRecDepth 100000
set_option maxHeartbeats 4000000
set_option linter.unusedSimpArgs false
set_option linter.unusedVariables false
def F7_l1(x0:(List TOp)):Nat→Int→Int→Option (Int)
 |0,_,_=>none
 |k+1,o1_0,o1_1=>(((if o1_1<(x0.length:Int)then some (decide (o1_1≤40))else some false)).bind fun o2=>(if o2=true then(rdI x0 o1_1).bind fun y5=>(F24 y5.O).bind fun t6=>F7_l1 x0 k ((IntKind.i64.wrap (o1_0+t6))) ((IntKind.i64.wrap (o1_1+1)))else some o1_0))
def F7(x0:(List TOp)):Option (Bool):=((F7_l1 x0 1099511627776 0 0).bind fun o1=>(((if(x0.length:Int)≤40 then some (decide (o1≤1500))else some false)).bind fun o7=>some o7))
def a7:AFn:=⟨30,[(.tmp 2)],
 (.seq (.reg [sq 2 (.mv (kB false))])
 (.seq (.reg [sq 3 (.mv (kI 0))])
 (.seq (.seq (.reg [sq 4 (.mv (kI 0))])
 (.sem (.block 0 (.loop (.seq (.seq (.sem (.reg [sq 5 (.mv (.t 4)),
sq 6 (.mv (.t 0)),
sq 7 (.len (.t 6)),
sq 8 (.bin .lss (.t 5) (.t 7)),
sq 9 (.mv (.t 8)),
zg 10 9 true (.mv (.t 4)),
zg 11 9 true (.bin .leq (.t 10) (kI 40)),
zl 12 (.pick (.t 9) (.t 11) (kB false)) [] [6]]))
 (.cond (.t 12)
 .skip
 (.exit 0)))
 (.seq (.block 1 (.reg [sq 15 (.mv (.t 3)),
sq 16 (.mv (.t 0)),
sq 17 (.mv (.t 4)),
sq 18 (.indexA 28 (.t 16) (.t 17)),
sq 19 (.fieldA 1 (.t 18)),
sq 20 (.load (some 23) (.t 19)),
sq 21 (.call 24 [(.t 20)]),
sq 22 (.bin .add (.t 15) (.t 21)),
sq 3 (.mv (.t 22))]))
 (.reg [sq 13 (.mv (.t 4)),
sq 14 (.bin .add (.t 13) (kI 1)),
sq 4 (.mv (.t 14))])))))))
 (.seq (.sem (.reg [sq 23 (.mv (.t 0)),
sq 24 (.len (.t 23)),
sq 25 (.bin .leq (.t 24) (kI 40)),
sq 26 (.mv (.t 25)),
zg 27 26 true (.mv (.t 3)),
zg 28 26 true (.bin .leq (.t 27) (kI 1500)),
sq 29 (.pick (.t 26) (.t 28) (kB false)),
sq 2 (.mv (.t 29))]))
 .ret))))⟩
theorem a7_ok:afn Try.prog 7=some a7.er:=by kernel_rfl
theorem F7_ok{x0 r}(h:F7 x0=some r):CallD Try.prog 7 [.c (dM (x0.map eTOp))] [] (tupV [.c (dB r)]) []:=by
 refine callS a7_ok (by simp[a7]) ?_
 rw[F7]at h
 simp only[a7,VW.down,Nat.reduceEqDiff,reduceCtorEq,Nat.reduceAdd,Nat.reduceLeDiff,Nat.reduceLT,Nat.reduceBEq,Nat.reduceSub,EE.down]
 obtain⟨o1,ho,h⟩:=bi h
 refine cutS (fun s=>s=⟨[(0,.one (.c (dM (x0.map eTOp)))),(3,.one (.c (dI o1)))],[]⟩) ?_ ?_
 ·have h:=ho
  clear ho
  refine ww ?_
  refine bL (fun j s=>∃(o1_0:Int) (o1_1:Int),s=⟨[(0,.one (.c (dM (x0.map eTOp)))),(3,.one (.c (dI o1_0))),(4,.one (.c (dI o1_1)))],[]⟩∧F7_l1 x0 j o1_0 o1_1=some o1) 1099511627776 [] ⟨0,0,rfl,h⟩ ?_
  rintro j _ ⟨o1_0,o1_1,rfl,h⟩
  cases j with
  |zero=>cases(show(none:Option _)=some _ from h)
  |succ j=>
   rw[F7_l1]at h
   refine ww ?_
   obtain⟨o2,ho,h⟩:=bi h
   refine cutS (fun s=>s=⟨[(0,.one (.c (dM (x0.map eTOp)))),(3,.one (.c (dI o1_0))),(4,.one (.c (dI o1_1))),(12,.one (.c (dB o2)))],[]⟩) ?_ ?_
   ·have h:=ho
    clear ho
    refine ww ?_
    refine guardSh h (fun g3 h=>?_) (fun g3 h=>?_)
    ·refine ww ?_
     cases h
     exact eM [] rfl
    ·refine ww ?_
     cases h
     exact eM [] rfl
   ·rintro _ rfl
    clear ho
    refine ww ?_
    refine condBh h (fun c4 h=>?_) (fun c4 h=>?_)
    ·refine ww ?_
     obtain⟨y5,hy5,h⟩:=bi h
     refine t_idxF (enc:=eTOp) (xs:=x0) rfl rfl hy5 rfl (ww ?_)
     obtain⟨t6,ht6,h⟩:=bi h
     refine cN [] (F24_ok ht6) trivial (ww ?_)
     exact eL' j [] ⟨(IntKind.i64.wrap (o1_0+t6)),(IntKind.i64.wrap (o1_1+1)),rfl,h⟩ (Nat.lt_succ_self _)
    ·refine ww ?_
     cases h
     exact eM [] rfl
 rintro _ rfl
 clear ho
 refine ww ?_
 obtain⟨o7,ho,h⟩:=bi h
 refine cutS (fun s=>s=⟨[(2,.one (.c (dB o7)))],[]⟩) ?_ ?_
 ·have h:=ho
  clear ho
  refine ww ?_
  refine guardSh h (fun g8 h=>?_) (fun g8 h=>?_)
  ·refine ww ?_
   cases h
   exact eM [] rfl
  refine ww ?_
  cases h
  exact eM [] rfl
 rintro _ rfl
 clear ho
 refine ww ?_
 cases h
 exact eF []
def F73(x0:ByteArray)(x1:ByteArray):Option (Int):=(F97 x0 x1).bind fun t1=>some t1
def a73:AFn:=⟨8,[(.tmp 4)],
 (.seq (.reg [sq 4 (.mv (kI 0))])
 (.seq (.reg [sq 5 (.mv (.t 0)),
sq 6 (.mv (.t 1)),
sq 7 (.call 97 [(.t 5),(.t 6)]),
sq 4 (.mv (.t 7))])
 .ret))⟩
theorem a73_ok:afn Try.prog 73=some a73.er:=by kernel_rfl
theorem F73_ok{x0 x1 r}(h:F73 x0 x1=some r):CallD Try.prog 73 [.c (dS x0),.c (dS x1)] [] (tupV [.c (dI r)]) []:=by
 refine callS a73_ok (by simp[a73]) ?_
 rw[F73]at h
 simp only[a73,VW.down,Nat.reduceEqDiff,reduceCtorEq,Nat.reduceAdd,Nat.reduceLeDiff,Nat.reduceLT,Nat.reduceBEq,Nat.reduceSub,EE.down]
 obtain⟨t1,ht1,h⟩:=bi h
 refine cN [] (F97_ok ht1) trivial (ww ?_)
 cases h
 exact eF []
def F89(x0:(List TValue)):Option ((List TValue)×(List TField)):=(F106k 1099511627776 ((⟨4,0,(⟨#[]⟩:ByteArray),x0,[]⟩:TValue))).bind fun t1=>some ((t1.1,t1.2))
def a89:AFn:=⟨6,[(.cell 2 (some 5))],
 (.seq (.reg [zl 2 (.zbox [dI 0,dI 0,dS ⟨#[]⟩,dN,dN]) [] []])
 (.seq (.reg [sq 3 (.mv (.t 0)),
sq 4 (.build [dI 0,dI 0,dS ⟨#[]⟩,dN,dN] [(0,1,(kI 4)),(3,1,(.t 3))]),
sq 5 (.call 106 [(.t 4)]),
su (.store 5 (.t 2) (.t 5))])
 .ret))⟩
theorem a89_ok:afn Try.prog 89=some a89.er:=by kernel_rfl
theorem F89_ok{x0 r}(h:F89 x0=some r):CallD Try.prog 89 [.c (dM (x0.map eTValue))] [] (tupV [.agg [dI ((4:Int)),dI ((0:Int)),dS (((⟨#[]⟩:ByteArray))),.own 0 0 0 (r.1.length) none,.own 1 0 0 (r.2.length) none]]) [some (.arr 0 5 (r.1.map eTValue)),some (.arr 0 6 (r.2.map eTField))]:=by
 refine callS a89_ok (by simp[a89]) ?_
 rw[F89]at h
 simp only[a89,VW.down,Nat.reduceEqDiff,reduceCtorEq,Nat.reduceAdd,Nat.reduceLeDiff,Nat.reduceLT,Nat.reduceBEq,Nat.reduceSub,EE.down]
 obtain⟨t1,ht1,h⟩:=bi h
 refine cN [] (F106k_ok 1099511627776 ht1) trivial (ww ?_)
 cases h
 exact eF [some 1,some 2]
def F42_l2(x1:(List Manager)):List Manager→Nat→Option ((Bool) ⊕ (Unit))
 |[],o2_0=>some (Sum.inr (()))
 |xo2::xs,o2_0=>(rdI x1 ((o2_0:Int))).bind fun y4=>(F41 xo2 y4).bind fun t5=>(if(nb t5)=true then(some false).map Sum.inl else F42_l2 x1 xs (o2_0+1))
def F42(x0:(List Manager))(x1:(List Manager)):Option (Bool):=(if¬((x0.length:Int)=(x1.length:Int))then some false else(((ck (0≤x0.length∧x0.length≤4294967290)).bind fun u7=>F42_l2 x1 x0 0:Option ((Bool) ⊕ (Unit))).bind fun o2=>match o2 with|Sum.inl f=>some f|Sum.inr po2=>some true))
def a42:AFn:=⟨32,[(.tmp 6)],
 (.seq (.reg [sq 6 (.mv (kB false))])
 (.seq (.seq (.reg [sq 10 (.mv (.t 0)),
sq 11 (.len (.t 10)),
sq 12 (.mv (.t 1)),
sq 13 (.len (.t 12)),
sq 14 (.bin .neq (.t 11) (.t 13))])
 (.cond (.t 14)
 (.seq (.reg [sq 6 (.mv (kB false))])
 .ret)
 .skip))
 (.seq (.seq (.reg [sq 15 (.mv (.t 0)),
sq 16 (.len (.t 15)),
sq 17 (.mv (kI 0))])
 (.sem (.block 0 (.loop (.seq (.reg [sq 18 (.bin .lss (.t 17) (.t 16))])
 (.seq (.cond (.t 18)
 .skip
 (.exit 0))
 (.seq (.block 1 (.seq (.reg [sq 19 (.mv (.t 17)),
sq 20 (.indexA 2 (.t 15) (.t 17)),
sq 21 (.load (some 2) (.t 20)),
sq 8 (.zbox [dS ⟨#[]⟩,dN]),
sq 7 (.mv (.t 19)),
su (.store 2 (.t 8) (.t 21))])
 (.seq (.reg [sq 22 (.mv (.t 1)),
sq 23 (.mv (.t 7)),
sq 24 (.indexA 2 (.t 22) (.t 23)),
sq 25 (.load (some 2) (.t 24)),
sq 9 (.zbox [dS ⟨#[]⟩,dN]),
su (.store 2 (.t 9) (.t 25))])
 (.seq (.reg [sq 26 (.mv (.t 2)),
sq 27 (.load (some 2) (.t 8)),
sq 28 (.load (some 2) (.t 9)),
sq 29 (.callv (.t 26) [(.t 27),(.t 28)]),
sq 30 (.not (.t 29))])
 (.cond (.t 30)
 (.seq (.reg [sq 6 (.mv (kB false))])
 .ret)
 .skip)))))
 (.reg [sq 31 (.bin .add (.t 17) (kI 1)),
sq 17 (.mv (.t 31))]))))))))
 (.seq (.reg [sq 6 (.mv (kB true))])
 .ret))))⟩
theorem a42_ok:afn Try.prog 42=some a42.er:=by kernel_rfl
theorem F42_ok{x0 x1 r}(h:F42 x0 x1=some r):CallD Try.prog 42 [.c (dM (x0.map eManager)),.c (dM (x1.map eManager)),.c (.fn 41 [])] [] (tupV [.c (dB r)]) []:=by
 refine callS a42_ok (by simp[a42]) ?_
 rw[F42]at h
 simp only[a42,VW.down,Nat.reduceEqDiff,reduceCtorEq,Nat.reduceAdd,Nat.reduceLeDiff,Nat.reduceLT,Nat.reduceBEq,Nat.reduceSub,EE.down]
 refine condSh h (fun c1 h=>?_) (fun c1 h=>?_)
 ·refine ww ?_
  cases h
  exact eF []
 refine ww ?_
 obtain⟨o2,ho,h⟩:=bi h
 refine cutS (fun s=>∃po2,o2=Sum.inr po2∧s=⟨[],[]⟩) ?_ ?_
 ·have h0o2:=h
  have h:=ho
  clear ho
  obtain⟨_,hk,h⟩:=bi h
  have hk:=ck_some hk
  refine ww ?_
  refine bL (fun j s=>∃(o2_0:Nat),(o2_0≤x0.length∧j=x0.length-o2_0)∧s=⟨[(1,.one (.c (dM (x1.map eManager)))),(2,.one (.c (.fn 41 []))),(15,.one (.c (dM (x0.map eManager)))),(16,.one (.c (dI ((x0.length:Int))))),(17,.one (.c (dI ((o2_0:Int)))))],[]⟩∧F42_l2 x1 (x0.drop o2_0) o2_0=some o2) (x0.length-0) [] ⟨0,⟨hk.1,rfl⟩,rfl,h⟩ ?_
  rintro _ _ ⟨o2_0,⟨hi,rfl⟩,rfl,h⟩
  refine ww ?_
  refine condS (fun c3=>?_) (fun c3=>?_)
  ·obtain⟨xo2,hxo2,hd⟩:=countY (show(o2_0:Int)<(x0.length:Int)from c3)
   rw[hd,F42_l2]at h
   refine ww ?_
   refine t_idxF (enc:=eManager) (xs:=x0) rfl rfl hxo2 rfl (ww ?_)
   obtain⟨y4,hy4,h⟩:=bi h
   refine t_idxF (enc:=eManager) (xs:=x1) rfl rfl hy4 rfl (ww ?_)
   obtain⟨t5,ht5,h⟩:=bi h
   refine cN [] (F41_ok ht5) trivial (ww ?_)
   refine condBh h (fun c6 h=>?_) (fun c6 h=>?_)
   ·refine ww ?_
    obtain⟨fh0o2,hfh0o2,rfl⟩:=Option.map_eq_some_iff.1 h
    have h:=hfh0o2.trans h0o2
    cases h
    exact eF []
   refine ww ?_
   rw[wrapN (by omega)]
   exact eL' (x0.length-(o2_0+1)) [] ⟨o2_0+1,⟨by omega,rfl⟩,rfl,h⟩ (by omega)
  rw[countN (show¬((o2_0:Int)<(x0.length:Int))from c3),F42_l2]at h
  refine ww ?_
  cases h
  exact eM [] ⟨_,rfl,rfl⟩
 rintro _ ⟨po2,rfl,rfl⟩
 clear ho
 dsimp only at h
 refine ww ?_
 cases h
 exact eF []
end Go.Proofs.Ytbopaemngpbdgaa
