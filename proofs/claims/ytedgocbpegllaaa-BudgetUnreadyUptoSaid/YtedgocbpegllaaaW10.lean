/- Each Go function as a function over typed data, and its walk. -/
import Derived.Test.YtedgocbpegllaaaW0
import Derived.Test.YtedgocbpegllaaaW8
namespace Go.Proofs.Ytedgocbpegllaaa
open Go Go.Fw Go.Shelf
set_option maxRecDepth 100000
set_option maxHeartbeats 4000000
set_option linter.unusedSimpArgs false
set_option linter.unusedVariables false
def F13_l3(xo1:Budget):Nat→Int→Option (((Bool) ⊕ (Unit)) ⊕ (Unit))
 |0,_=>none
 |k+1,o3_0=>(if o3_0<(xo1.Disrupted.length:Int)then(rdI xo1.Disrupted o3_0).bind fun y5=>(rdI xo1.Disrupted ((IntKind.i64.wrap (o3_0-1)))).bind fun y6=>(if((Op.bytesLess y5.Key.toList y6.Key.toList||decide (y5.Key=y6.Key)))=true then((some false).map Sum.inl).map Sum.inl else F13_l3 xo1 k ((IntKind.i64.wrap (o3_0+1))))else some (Sum.inr (())))
def F13_l1:List Budget→Nat→Option ((Bool) ⊕ (Unit))
 |[],o1_0=>some (Sum.inr (()))
 |xo1::xs,o1_0=>((F13_l3 xo1 1099511627776 1:Option (((Bool) ⊕ (Unit)) ⊕ (Unit))).bind fun o3=>match o3 with|Sum.inl f=>some f|Sum.inr po3=>F13_l1 xs (o1_0+1))
def F13(x0:(List Budget)):Option (Bool):=(((ck (0≤x0.length∧x0.length≤4294967290)).bind fun u8=>F13_l1 x0 0:Option ((Bool) ⊕ (Unit))).bind fun o1=>match o1 with|Sum.inl f=>some f|Sum.inr po1=>some true)
def a13:AFn:=⟨35,[(.tmp 2)],
 (.seq (.reg [Qf 2 false])
 (.seq (.seq (.reg [Qe 3 0])
 (.sem (.block 0 (.loop (.seq (.seq (.reg [Qa 6 3,
Qa 7 0,
Qh 8 7,
Qn 9 6 8])
 (.cond (.t 9)
 .skip
 (.exit 0)))
 (.seq (.block 1 (.seq (.reg [Qa 12 0,
Qa 13 3,
Qp 14 22 12 13,
Qb 15 21 14,
Qd 16 15,
Qa 4 16])
 (.seq (.reg [Qe 5 1])
 (.sem (.block 2 (.loop (.seq (.seq (.reg [Qa 17 5,
Qa 18 4,
Qh 19 18,
Qn 20 17 19])
 (.cond (.t 20)
 .skip
 (.exit 2)))
 (.seq (.block 3 (.seq (.regd [Qa 23 4,
Qa 24 5,
sd 25 (.indexA 2 (.t 23) (.t 24)) [0,1],
sd 26 (.fieldA 0 (.t 25)) [0,1,2],
sd 27 (.load none (.t 26)) [0,1,2,3],
Qa 28 4,
Qa 29 5,
sd 30 (.bin .sub (.t 29) (kI 1)) [6],
sd 31 (.indexA 2 (.t 28) (.t 30)) [5,6,7],
sd 32 (.fieldA 0 (.t 31)) [5,6,7,8],
sd 33 (.load none (.t 32)) [5,6,7,8,9],
sd 34 (.bin .leq (.t 27) (.t 33)) [0,1,2,3,4,5,6,7,8,9,10]])
 (.cond (.t 34)
 (.seq (.reg [Qf 2 false])
 .ret)
 .skip)))
 (.reg [Qa 21 5,
Qm 22 21 1,
Qa 5 22])))))))))
 (.reg [Qa 10 3,
Qm 11 10 1,
Qa 3 11])))))))
 (.seq (.reg [Qf 2 true])
 .ret)))⟩
theorem F13_ok{x0 r}(h:F13 x0=some r):CallD Try.prog 13 [.c (dM (x0.map eBudget))] [] (tupV [.c (dB r)]) []:=by
 rw[F13]at h
 refine zc a13 (by kernel_rfl) rfl (ww ?_)
 obtain⟨o1,ho,h⟩:=bi h
 refine cutS (fun s=>∃po1,o1=Sum.inr po1∧s=⟨[],[]⟩) ?_ ?_
 ·have h0o1:=h
  have h:=ho
  clear ho
  obtain⟨_,hk,h⟩:=bi h
  have hk:=ck_some hk
  refine ww ?_
  refine bL (fun j s=>∃(o1_0:Nat),(o1_0≤x0.length∧j=x0.length-o1_0)∧s=⟨[(0,oc (dM (x0.map eBudget))),(3,oc (dI ((o1_0:Int))))],[]⟩∧F13_l1 (x0.drop o1_0) o1_0=some o1) (x0.length-0) [] ⟨0,⟨hk.1,rfl⟩,rfl,h⟩ ?_
  rintro _ _ ⟨o1_0,⟨hi,rfl⟩,rfl,h⟩
  refine ww ?_
  refine condS (fun c2=>?_) (fun c2=>?_)
  ·obtain⟨xo1,hxo1,hd⟩:=countY (show(o1_0:Int)<(x0.length:Int)from c2)
   rw[hd,F13_l1]at h
   refine ww ?_
   refine t_idxF (enc:=eBudget) (xs:=x0) rfl rfl hxo1 rfl (ww ?_)
   obtain⟨o3,ho,h⟩:=bi h
   refine cutS (fun s=>∃po3,o3=Sum.inr po3∧s=⟨[(0,oc (dM (x0.map eBudget))),(3,oc (dI ((o1_0:Int))))],[]⟩) ?_ ?_
   ·have h0o3:=h
    have h:=ho
    clear ho
    refine ww ?_
    refine bL (fun j s=>∃(o3_0:Int),s=⟨[(0,oc (dM (x0.map eBudget))),(3,oc (dI ((o1_0:Int)))),(4,oc (dM (xo1.Disrupted.map eWorkItem))),(5,oc (dI o3_0))],[]⟩∧F13_l3 xo1 j o3_0=some o3) 1099511627776 [] ⟨1,rfl,h⟩ ?_
    rintro j _ ⟨o3_0,rfl,h⟩
    cases j with
    |zero=>cases(show(none:Option _)=some _ from h)
    |succ j=>
     rw[F13_l3]at h
     refine ww ?_
     refine condSh h (fun c4 h=>ww ?_) (fun c4 h=>?_)
     ·obtain⟨y5,hy5,h⟩:=bi h
      refine t_idxF (enc:=eWorkItem) (xs:=xo1.Disrupted) rfl rfl hy5 rfl (ww ?_)
      obtain⟨y6,hy6,h⟩:=bi h
      refine t_idxF (enc:=eWorkItem) (xs:=xo1.Disrupted) rfl rfl hy6 rfl (ww ?_)
      refine condBh h (fun c7 h=>ww ?_) (fun c7 h=>?_)
      ·obtain⟨fh0o3,hfh0o3,rfl⟩:=Option.map_eq_some_iff.1 h
       have h:=hfh0o3.trans h0o3
       obtain⟨fh0o1,hfh0o1,rfl⟩:=Option.map_eq_some_iff.1 h
       have h:=hfh0o1.trans h0o1
       cases h
       exact eF []
      ·refine ww ?_
       exact eL' j [] ⟨(IntKind.i64.wrap (o3_0+1)),rfl,h⟩ (Nat.lt_succ_self _)
     ·refine ww ?_
      cases h
      exact eM [] ⟨_,rfl,rfl⟩
   rintro _ ⟨po3,rfl,rfl⟩
   clear ho
   dsimp only at h
   refine ww ?_
   rw[wrapN (by omega)]
   exact eL' (x0.length-(o1_0+1)) [] ⟨o1_0+1,⟨by omega,rfl⟩,rfl,h⟩ (by omega)
  rw[countN (show¬((o1_0:Int)<(x0.length:Int))from c2),F13_l1]at h
  refine ww ?_
  cases h
  exact eM [] ⟨_,rfl,rfl⟩
 rintro _ ⟨po1,rfl,rfl⟩
 clear ho
 dsimp only at h
 refine ww ?_
 cases h
 exact eF []
def F18_l2(x1:(List Budget)):List Budget→Nat→Option ((Bool) ⊕ (Unit))
 |[],o2_0=>some (Sum.inr (()))
 |xo2::xs,o2_0=>(rdI x1 ((o2_0:Int))).bind fun y4=>(F10 xo2 y4).bind fun t5=>(if(nb t5)=true then(some false).map Sum.inl else F18_l2 x1 xs (o2_0+1))
def F18(x0:(List Budget))(x1:(List Budget)):Option (Bool):=(if¬((x0.length:Int)=(x1.length:Int))then some false else(((ck (0≤x0.length∧x0.length≤4294967290)).bind fun u7=>F18_l2 x1 x0 0:Option ((Bool) ⊕ (Unit))).bind fun o2=>match o2 with|Sum.inl f=>some f|Sum.inr po2=>some true))
def a18:AFn:=⟨27,[(.tmp 4)],
 (.seq (.reg [Qf 4 false])
 (.seq (.seq (.reg [Qa 6 0,
Qh 7 6,
Qa 8 1,
Qh 9 8,
sq 10 (.bin .neq (.t 7) (.t 9))])
 (.cond (.t 10)
 (.seq (.reg [Qf 4 false])
 .ret)
 .skip))
 (.seq (.seq (.reg [Qe 5 0])
 (.sem (.block 0 (.loop (.seq (.seq (.reg [Qa 11 5,
Qa 12 0,
Qh 13 12,
Qn 14 11 13])
 (.cond (.t 14)
 .skip
 (.exit 0)))
 (.seq (.block 1 (.seq (.regd [Qa 17 0,
Qa 18 5,
sd 19 (.indexA 22 (.t 17) (.t 18)) [0,1],
sd 20 (.load (some 22) (.t 19)) [0,1,2],
Qa 21 1,
Qa 22 5,
sd 23 (.indexA 22 (.t 21) (.t 22)) [4,5],
sd 24 (.load (some 22) (.t 23)) [4,5,6],
zl 25 (.call 10 [(.t 20),(.t 24)]) [0,1,2,3,4,5,6,7] [],
sd 26 (.not (.t 25)) [0,1,2,3,4,5,6,7,8]])
 (.cond (.t 26)
 (.seq (.reg [Qf 4 false])
 .ret)
 .skip)))
 (.reg [Qa 15 5,
Qm 16 15 1,
Qa 5 16])))))))
 (.seq (.reg [Qf 4 true])
 .ret))))⟩
theorem F18_ok{x0 x1 r}(h:F18 x0 x1=some r):CallD Try.prog 18 [.c (dM (x0.map eBudget)),.c (dM (x1.map eBudget))] [] (tupV [.c (dB r)]) []:=by
 rw[F18]at h
 refine zc a18 (by kernel_rfl) rfl (ww ?_)
 refine condSh h (fun c1 h=>ww ?_) (fun c1 h=>ww ?_)
 ·cases h
  exact eF []
 obtain⟨o2,ho,h⟩:=bi h
 refine cutS (fun s=>∃po2,o2=Sum.inr po2∧s=⟨[],[]⟩) ?_ ?_
 ·have h0o2:=h
  have h:=ho
  clear ho
  obtain⟨_,hk,h⟩:=bi h
  have hk:=ck_some hk
  refine ww ?_
  refine bL (fun j s=>∃(o2_0:Nat),(o2_0≤x0.length∧j=x0.length-o2_0)∧s=⟨[(0,oc (dM (x0.map eBudget))),(1,oc (dM (x1.map eBudget))),(5,oc (dI ((o2_0:Int))))],[]⟩∧F18_l2 x1 (x0.drop o2_0) o2_0=some o2) (x0.length-0) [] ⟨0,⟨hk.1,rfl⟩,rfl,h⟩ ?_
  rintro _ _ ⟨o2_0,⟨hi,rfl⟩,rfl,h⟩
  refine ww ?_
  refine condS (fun c3=>?_) (fun c3=>?_)
  ·obtain⟨xo2,hxo2,hd⟩:=countY (show(o2_0:Int)<(x0.length:Int)from c3)
   rw[hd,F18_l2]at h
   refine ww ?_
   refine t_idxF (enc:=eBudget) (xs:=x0) rfl rfl hxo2 rfl (ww ?_)
   obtain⟨y4,hy4,h⟩:=bi h
   refine t_idxF (enc:=eBudget) (xs:=x1) rfl rfl hy4 rfl (ww ?_)
   obtain⟨t5,ht5,h⟩:=bi h
   refine cN [] (F10_ok ht5) trivial (ww ?_)
   refine condBh h (fun c6 h=>ww ?_) (fun c6 h=>ww ?_)
   ·obtain⟨fh0o2,hfh0o2,rfl⟩:=Option.map_eq_some_iff.1 h
    have h:=hfh0o2.trans h0o2
    cases h
    exact eF []
   rw[wrapN (by omega)]
   exact eL' (x0.length-(o2_0+1)) [] ⟨o2_0+1,⟨by omega,rfl⟩,rfl,h⟩ (by omega)
  rw[countN (show¬((o2_0:Int)<(x0.length:Int))from c3),F18_l2]at h
  refine ww ?_
  cases h
  exact eM [] ⟨_,rfl,rfl⟩
 rintro _ ⟨po2,rfl,rfl⟩
 clear ho
 dsimp only at h
 refine ww ?_
 cases h
 exact eF []
end Go.Proofs.Ytedgocbpegllaaa
