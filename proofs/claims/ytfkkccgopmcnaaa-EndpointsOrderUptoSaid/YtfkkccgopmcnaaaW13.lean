/- Each Go function as a function over typed data, and its walk. -/
import Derived.Test.YtfkkccgopmcnaaaW0
import Derived.Test.YtfkkccgopmcnaaaW4
namespace Go.Proofs.Ytfkkccgopmcnaaa
open Go Go.Fw Go.Shelf
set_option maxRecDepth 100000
set_option maxHeartbeats 4000000
set_option linter.unusedSimpArgs false
set_option linter.unusedVariables false
def F17_l3(o1_0:Nat)(x0:(List Pod))(xo1:Pod):Nat→Int→Option (((Bool) ⊕ (Unit)) ⊕ (Unit))
 |0,_=>none
 |k+1,o3_0=>(if o3_0<(o1_0:Int)then(F19 xo1.Meta).bind fun t5=>(rdI x0 o3_0).bind fun y6=>(F19 y6.Meta).bind fun t7=>(if t5=t7 then((some false).map Sum.inl).map Sum.inl else F17_l3 o1_0 x0 xo1 k ((IntKind.i64.wrap (o3_0+1))))else some (Sum.inr (())))
def F17_l1(x0:(List Pod)):List Pod→Nat→Option ((Bool) ⊕ (Unit))
 |[],o1_0=>some (Sum.inr (()))
 |xo1::xs,o1_0=>((F17_l3 o1_0 x0 xo1 1099511627776 0:Option (((Bool) ⊕ (Unit)) ⊕ (Unit))).bind fun o3=>match o3 with|Sum.inl f=>some f|Sum.inr po3=>F17_l1 x0 xs (o1_0+1))
def F17(x0:(List Pod)):Option (Bool):=(((ck (0≤x0.length∧x0.length≤4294967290)).bind fun u9=>F17_l1 x0 x0 0:Option ((Bool) ⊕ (Unit))).bind fun o1=>match o1 with|Sum.inl f=>some f|Sum.inr po1=>some true)
def a17:AFn:=⟨29,[(.tmp 2)],
 (.seq (.reg [sq 2 (.mv (kB false))])
 (.seq (.seq (.reg [sq 5 (.mv (.t 0)),
sq 6 (.len (.t 5)),
sq 7 (.mv (kI 0))])
 (.sem (.block 0 (.loop (.seq (.reg [sq 8 (.bin .lss (.t 7) (.t 6))])
 (.seq (.cond (.t 8)
 .skip
 (.exit 0))
 (.seq (.block 1 (.seq (.reg [sq 9 (.mv (.t 7)),
sq 3 (.mv (.t 9))])
 (.seq (.reg [sq 10 (.mv (.t 3)),
sq 11 (.mv (kI 0))])
 (.sem (.block 2 (.loop (.seq (.reg [sq 12 (.bin .lss (.t 11) (.t 10))])
 (.seq (.cond (.t 12)
 .skip
 (.exit 2))
 (.seq (.block 3 (.seq (.reg [sq 13 (.mv (.t 11)),
sq 4 (.mv (.t 13))])
 (.seq (.regd [sq 14 (.mv (.t 0)),
sq 15 (.mv (.t 3)),
sd 16 (.indexA 32 (.t 14) (.t 15)) [0,1],
sd 17 (.fieldA 0 (.t 16)) [0,1,2],
sd 18 (.load (some 13) (.t 17)) [0,1,2,3],
zn 19 (.call 19 [(.t 18)]) [0,1,2,3,4] [0,1,2,3,4],
sq 20 (.mv (.t 0)),
sq 21 (.mv (.t 4)),
sd 22 (.indexA 32 (.t 20) (.t 21)) [6,7],
sd 23 (.fieldA 0 (.t 22)) [6,7,8],
sd 24 (.load (some 13) (.t 23)) [6,7,8,9],
zl 25 (.call 19 [(.t 24)]) [0,1,2,3,4,5,6,7,8,9,10] [],
sd 26 (.bin .eql (.t 19) (.t 25)) [0,1,2,3,4,5,6,7,8,9,10,11]])
 (.cond (.t 26)
 (.seq (.reg [sq 2 (.mv (kB false))])
 .ret)
 .skip))))
 (.reg [sq 27 (.bin .add (.t 11) (kI 1)),
sq 11 (.mv (.t 27))]))))))))))
 (.reg [sq 28 (.bin .add (.t 7) (kI 1)),
sq 7 (.mv (.t 28))]))))))))
 (.seq (.reg [sq 2 (.mv (kB true))])
 .ret)))⟩
theorem F17_ok{x0 r}(h:F17 x0=some r):CallD Try.prog 17 [.c (dM (x0.map ePod))] [] (tupV [.c (dB r)]) []:=by
 rw[F17]at h
 refine zc a17 (by kernel_rfl) rfl (ww ?_)
 obtain⟨o1,ho,h⟩:=bi h
 refine cutS (fun s=>∃po1,o1=Sum.inr po1∧s=⟨[],[]⟩) ?_ ?_
 ·have h0o1:=h
  have h:=ho
  clear ho
  obtain⟨_,hk,h⟩:=bi h
  have hk:=ck_some hk
  refine ww ?_
  refine bL (fun j s=>∃(o1_0:Nat),(o1_0≤x0.length∧j=x0.length-o1_0)∧s=⟨[(0,.one (.c (dM (x0.map ePod)))),(6,.one (.c (dI ((x0.length:Int))))),(7,.one (.c (dI ((o1_0:Int)))))],[]⟩∧F17_l1 x0 (x0.drop o1_0) o1_0=some o1) (x0.length-0) [] ⟨0,⟨hk.1,rfl⟩,rfl,h⟩ ?_
  rintro _ _ ⟨o1_0,⟨hi,rfl⟩,rfl,h⟩
  refine ww ?_
  refine condS (fun c2=>?_) (fun c2=>?_)
  ·obtain⟨xo1,hxo1,hd⟩:=countY (show(o1_0:Int)<(x0.length:Int)from c2)
   rw[hd,F17_l1]at h
   refine ww ?_
   obtain⟨o3,ho,h⟩:=bi h
   refine cutS (fun s=>∃po3,o3=Sum.inr po3∧s=⟨[(0,.one (.c (dM (x0.map ePod)))),(6,.one (.c (dI ((x0.length:Int))))),(7,.one (.c (dI ((o1_0:Int)))))],[]⟩) ?_ ?_
   ·have h0o3:=h
    have h:=ho
    clear ho
    refine ww ?_
    refine bL (fun j s=>∃(o3_0:Int),s=⟨[(0,.one (.c (dM (x0.map ePod)))),(3,.one (.c (dI ((o1_0:Int))))),(6,.one (.c (dI ((x0.length:Int))))),(7,.one (.c (dI ((o1_0:Int))))),(10,.one (.c (dI ((o1_0:Int))))),(11,.one (.c (dI o3_0)))],[]⟩∧F17_l3 o1_0 x0 xo1 j o3_0=some o3) 1099511627776 [] ⟨0,rfl,h⟩ ?_
    rintro j _ ⟨o3_0,rfl,h⟩
    cases j with
    |zero=>cases(show(none:Option _)=some _ from h)
    |succ j=>
     rw[F17_l3]at h
     refine ww ?_
     refine condSh h (fun c4 h=>?_) (fun c4 h=>?_)
     ·refine ww ?_
      refine t_idxF (enc:=ePod) (xs:=x0) rfl rfl hxo1 rfl (ww ?_)
      obtain⟨t5,ht5,h⟩:=bi h
      refine cN [] (F19_ok ht5) trivial (ww ?_)
      obtain⟨y6,hy6,h⟩:=bi h
      refine t_idxF (enc:=ePod) (xs:=x0) rfl rfl hy6 rfl (ww ?_)
      obtain⟨t7,ht7,h⟩:=bi h
      refine cN [] (F19_ok ht7) trivial (ww ?_)
      refine condSh h (fun c8 h=>?_) (fun c8 h=>?_)
      ·refine ww ?_
       obtain⟨fh0o3,hfh0o3,rfl⟩:=Option.map_eq_some_iff.1 h
       have h:=hfh0o3.trans h0o3
       obtain⟨fh0o1,hfh0o1,rfl⟩:=Option.map_eq_some_iff.1 h
       have h:=hfh0o1.trans h0o1
       cases h
       exact eF []
      ·refine ww ?_
       exact eL' j [] ⟨(IntKind.i64.wrap (o3_0+1)),rfl,h⟩ (Nat.lt_succ_self _)
     ·refine ww ?_
      cases h
      exact eM [] ⟨_,rfl,rfl⟩
   rintro _ ⟨po3,rfl,rfl⟩
   clear ho
   dsimp only at h
   refine ww ?_
   rw[wrapN (by omega)]
   exact eL' (x0.length-(o1_0+1)) [] ⟨o1_0+1,⟨by omega,rfl⟩,rfl,h⟩ (by omega)
  rw[countN (show¬((o1_0:Int)<(x0.length:Int))from c2),F17_l1]at h
  refine ww ?_
  cases h
  exact eM [] ⟨_,rfl,rfl⟩
 rintro _ ⟨po1,rfl,rfl⟩
 clear ho
 dsimp only at h
 refine ww ?_
 cases h
 exact eF []
end Go.Proofs.Ytfkkccgopmcnaaa
