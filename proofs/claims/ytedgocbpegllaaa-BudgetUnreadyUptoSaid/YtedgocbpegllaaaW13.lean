/- Each Go function as a function over typed data, and its walk. -/
import Derived.Test.YtedgocbpegllaaaW0
import Derived.Test.YtedgocbpegllaaaW2
import Derived.Test.YtedgocbpegllaaaW6
import Derived.Test.YtedgocbpegllaaaW8
import Derived.Test.YtedgocbpegllaaaW10
namespace Go.Proofs.Ytedgocbpegllaaa
open Go Go.Fw Go.Shelf
set_option maxRecDepth 100000
set_option maxHeartbeats 4000000
set_option linter.unusedSimpArgs false
set_option linter.unusedVariables false
def F19_l3(o1_0:Nat)(x0:(List Pod))(xo1:Pod):Nat→Int→Option (((Bool) ⊕ (Unit)) ⊕ (Unit))
 |0,_=>none
 |k+1,o3_0=>(if o3_0<(o1_0:Int)then(F20 xo1.Meta).bind fun t5=>(rdI x0 o3_0).bind fun y6=>(F20 y6.Meta).bind fun t7=>(if t5=t7 then((some false).map Sum.inl).map Sum.inl else F19_l3 o1_0 x0 xo1 k ((IntKind.i64.wrap (o3_0+1))))else some (Sum.inr (())))
def F19_l1(x0:(List Pod)):List Pod→Nat→Option ((Bool) ⊕ (Unit))
 |[],o1_0=>some (Sum.inr (()))
 |xo1::xs,o1_0=>((F19_l3 o1_0 x0 xo1 1099511627776 0:Option (((Bool) ⊕ (Unit)) ⊕ (Unit))).bind fun o3=>match o3 with|Sum.inl f=>some f|Sum.inr po3=>F19_l1 x0 xs (o1_0+1))
def F19(x0:(List Pod)):Option (Bool):=(((ck (0≤x0.length∧x0.length≤4294967290)).bind fun u9=>F19_l1 x0 x0 0:Option ((Bool) ⊕ (Unit))).bind fun o1=>match o1 with|Sum.inl f=>some f|Sum.inr po1=>some true)
def a19:AFn:=⟨29,[(.tmp 2)],
 (.seq (.reg [Qf 2 false])
 (.seq (.seq (.reg [Qe 3 0])
 (.sem (.block 0 (.loop (.seq (.seq (.reg [Qa 5 3,
Qa 6 0,
Qh 7 6,
Qn 8 5 7])
 (.cond (.t 8)
 .skip
 (.exit 0)))
 (.seq (.block 1 (.seq (.reg [Qe 4 0])
 (.sem (.block 2 (.loop (.seq (.seq (.reg [Qa 11 4,
Qa 12 3,
Qn 13 11 12])
 (.cond (.t 13)
 .skip
 (.exit 2)))
 (.seq (.block 3 (.seq (.regd [Qa 16 0,
Qa 17 3,
sd 18 (.indexA 32 (.t 16) (.t 17)) [0,1],
sd 19 (.fieldA 0 (.t 18)) [0,1,2],
sd 20 (.load (some 13) (.t 19)) [0,1,2,3],
zn 21 (.call 20 [(.t 20)]) [0,1,2,3,4] [0,1,2,3,4],
Qa 22 0,
Qa 23 4,
sd 24 (.indexA 32 (.t 22) (.t 23)) [6,7],
sd 25 (.fieldA 0 (.t 24)) [6,7,8],
sd 26 (.load (some 13) (.t 25)) [6,7,8,9],
zl 27 (.call 20 [(.t 26)]) [0,1,2,3,4,5,6,7,8,9,10] [],
sd 28 (.bin .eql (.t 21) (.t 27)) [0,1,2,3,4,5,6,7,8,9,10,11]])
 (.cond (.t 28)
 (.seq (.reg [Qf 2 false])
 .ret)
 .skip)))
 (.reg [Qa 14 4,
Qm 15 14 1,
Qa 4 15]))))))))
 (.reg [Qa 9 3,
Qm 10 9 1,
Qa 3 10])))))))
 (.seq (.reg [Qf 2 true])
 .ret)))⟩
theorem F19_ok{x0 r}(h:F19 x0=some r):CallD Try.prog 19 [.c (dM (x0.map ePod))] [] (tupV [.c (dB r)]) []:=by
 rw[F19]at h
 refine zc a19 (by kernel_rfl) rfl (ww ?_)
 obtain⟨o1,ho,h⟩:=bi h
 refine cutS (fun s=>∃po1,o1=Sum.inr po1∧s=⟨[],[]⟩) ?_ ?_
 ·have h0o1:=h
  have h:=ho
  clear ho
  obtain⟨_,hk,h⟩:=bi h
  have hk:=ck_some hk
  refine ww ?_
  refine bL (fun j s=>∃(o1_0:Nat),(o1_0≤x0.length∧j=x0.length-o1_0)∧s=⟨[(0,oc (dM (x0.map ePod))),(3,oc (dI ((o1_0:Int))))],[]⟩∧F19_l1 x0 (x0.drop o1_0) o1_0=some o1) (x0.length-0) [] ⟨0,⟨hk.1,rfl⟩,rfl,h⟩ ?_
  rintro _ _ ⟨o1_0,⟨hi,rfl⟩,rfl,h⟩
  refine ww ?_
  refine condS (fun c2=>?_) (fun c2=>?_)
  ·obtain⟨xo1,hxo1,hd⟩:=countY (show(o1_0:Int)<(x0.length:Int)from c2)
   rw[hd,F19_l1]at h
   refine ww ?_
   obtain⟨o3,ho,h⟩:=bi h
   refine cutS (fun s=>∃po3,o3=Sum.inr po3∧s=⟨[(0,oc (dM (x0.map ePod))),(3,oc (dI ((o1_0:Int))))],[]⟩) ?_ ?_
   ·have h0o3:=h
    have h:=ho
    clear ho
    refine ww ?_
    refine bL (fun j s=>∃(o3_0:Int),s=⟨[(0,oc (dM (x0.map ePod))),(3,oc (dI ((o1_0:Int)))),(4,oc (dI o3_0))],[]⟩∧F19_l3 o1_0 x0 xo1 j o3_0=some o3) 1099511627776 [] ⟨0,rfl,h⟩ ?_
    rintro j _ ⟨o3_0,rfl,h⟩
    cases j with
    |zero=>cases(show(none:Option _)=some _ from h)
    |succ j=>
     rw[F19_l3]at h
     refine ww ?_
     refine condSh h (fun c4 h=>ww ?_) (fun c4 h=>?_)
     ·refine t_idxF (enc:=ePod) (xs:=x0) rfl rfl hxo1 rfl (ww ?_)
      obtain⟨t5,ht5,h⟩:=bi h
      refine cN [] (F20_ok ht5) trivial (ww ?_)
      obtain⟨y6,hy6,h⟩:=bi h
      refine t_idxF (enc:=ePod) (xs:=x0) rfl rfl hy6 rfl (ww ?_)
      obtain⟨t7,ht7,h⟩:=bi h
      refine cN [] (F20_ok ht7) trivial (ww ?_)
      refine condSh h (fun c8 h=>ww ?_) (fun c8 h=>?_)
      ·obtain⟨fh0o3,hfh0o3,rfl⟩:=Option.map_eq_some_iff.1 h
       have h:=hfh0o3.trans h0o3
       obtain⟨fh0o1,hfh0o1,rfl⟩:=Option.map_eq_some_iff.1 h
       have h:=hfh0o1.trans h0o1
       cases h
       exact eF []
      ·refine ww ?_
       exact eL' j [] ⟨(IntKind.i64.wrap (o3_0+1)),rfl,h⟩ (Nat.lt_succ_self _)
     ·refine ww ?_
      cases h
      exact eM [] ⟨_,rfl,rfl⟩
   rintro _ ⟨po3,rfl,rfl⟩
   clear ho
   dsimp only at h
   refine ww ?_
   rw[wrapN (by omega)]
   exact eL' (x0.length-(o1_0+1)) [] ⟨o1_0+1,⟨by omega,rfl⟩,rfl,h⟩ (by omega)
  rw[countN (show¬((o1_0:Int)<(x0.length:Int))from c2),F19_l1]at h
  refine ww ?_
  cases h
  exact eM [] ⟨_,rfl,rfl⟩
 rintro _ ⟨po1,rfl,rfl⟩
 clear ho
 dsimp only at h
 refine ww ?_
 cases h
 exact eF []
def F6(x0:(List Budget))(x1:(List Pod))(x2:Int)(x3:Int):Option (Bool):=(((F8 x0 x1).bind fun t2=>(if t2=true then some true else(F13 x0).bind fun t4=>(if(nb t4)=true then some true else(if(x1.length:Int)=0 then some true else(F19 x1).bind fun t7=>some (nb t7))))).bind fun o1=>(if o1=true then(F9).bind fun t9=>some t9 else(ck ((x1.length:Int)≠0)).bind fun u10=>(rdI x1 ((((IntKind.i64.wrap x2)).tmod ((x1.length:Int))))).bind fun y11=>(((if y11.Status.Ready=true then some true else(if y11.Meta.Deleting=true then some true else(if¬(y11.Status.Phase=0)then some (decide (¬(y11.Status.Phase=1)))else some false)))).bind fun o12=>(if o12=true then(F9).bind fun t17=>some t17 else(F20 y11.Meta).bind fun t18=>(F14 x0 x1 t18 x3).bind fun t19=>(((if t19.2=0 then(F18 t19.1 x0).bind fun t22=>(if t22=true then(F9).bind fun t24=>some t24 else some false)else some false)).bind fun o20=>some o20)))))
def a6:AFn:=⟨80,[(.tmp 8)],
 (.seq (.reg [Qf 8 false])
 (.seq (.seq (.sem (.reg [Qa 12 0,
Qa 13 1,
Ql 14 8 12 13,
Qa 15 14,
Qv 16 15 false 0,
zg 17 15 false (.call 13 [(.t 16)]),
zg 18 15 false (.not (.t 17)),
Qj 19 15 18,
Qa 20 19,
Qv 21 20 false 1,
zg 22 20 false (.len (.t 21)),
zg 23 20 false (.bin .eql (.t 22) (kI 0)),
Qj 24 20 23,
Qa 25 24,
Qv 26 25 false 1,
zg 27 25 false (.call 19 [(.t 26)]),
zg 28 25 false (.not (.t 27)),
Qj 29 25 28]))
 (.cond (.t 29)
 (.seq (.reg [sq 30 (.call 9 []),
Qa 8 30])
 .ret)
 .skip))
 (.seq (.reg [Qa 31 1,
Qa 32 2,
sq 33 (.conv .i64 (.t 32)),
Qa 34 1,
Qh 35 34,
sq 36 (.bin .rem (.t 33) (.t 35)),
Qp 37 32 31 36,
Qc 38 32 37,
sq 9 (.zbox [dS ⟨#[]⟩,dS ⟨#[]⟩,dS ⟨#[]⟩,dI 0,dI 0,dI 0,dI 0,dB false,dI 0,dN,dN,dN,dN,dS ⟨#[]⟩,dI 0,dI 0,dI 0,dN,dN,dN,dN,dN,dN,dI 0,dB false,dI 0,dI 0,dI 0,dN,dI 0,dS ⟨#[]⟩,dS ⟨#[]⟩]),
su (.store 32 (.t 9) (.t 38))])
 (.seq (.seq (.sem (.reg [Qb 39 23 9,
Qb 40 1 39,
Qd 41 40,
Qa 42 41,
Qs 43 42 false 0 9,
Qs 44 42 false 7 43,
Qt 45 42 false 44,
Qj 46 42 45,
Qa 47 46,
Qs 48 47 false 23 9,
Qs 49 47 false 0 48,
Qt 50 47 false 49,
zg 51 47 false (.bin .neq (.t 50) (kI 0)),
Qv 52 47 false 51,
Qs 53 52 true 23 9,
Qs 54 52 true 0 53,
Qt 55 52 true 54,
zg 56 52 true (.bin .neq (.t 55) (kI 1)),
zg 57 47 false (.pick (.t 52) (.t 56) (kB false)),
Qj 58 47 57]))
 (.cond (.t 58)
 (.seq (.reg [sq 59 (.call 9 []),
Qa 8 59])
 .ret)
 .skip))
 (.seq (.reg [Qa 61 0,
Qa 62 1,
Qb 63 0 9,
Qc 64 13 63,
Qk 65 20 64,
Qa 66 3,
sq 67 (.call 14 [(.t 61),(.t 62),(.t 65),(.t 66)]),
Qa 60 67,
Qo 68 60 0,
Qo 69 60 1,
Qa 10 68,
Qa 11 69])
 (.seq (.sem (.reg [Qa 70 11,
Qr 71 70 0,
Qa 72 71,
Qv 73 72 true 10,
Qv 74 72 true 0,
zg 75 72 true (.call 18 [(.t 73),(.t 74)]),
Qi 76 72 75,
Qa 77 76,
zg 78 77 true (.call 9 []),
Qi 79 77 78,
Qa 8 79]))
 .ret))))))⟩
theorem F6_ok{x0 x1 x2 x3 r}(h:F6 x0 x1 x2 x3=some r):CallD Try.prog 6 [.c (dM (x0.map eBudget)),.c (dM (x1.map ePod)),.c (.d (.v (.int .u8 x2))),.c (dI x3)] [] (tupV [.c (dB r)]) []:=by
 rw[F6]at h
 refine zc a6 (by kernel_rfl) rfl (ww ?_)
 obtain⟨o1,ho,h⟩:=bi h
 refine cutS (fun s=>s=⟨[(0,oc (dM (x0.map eBudget))),(1,oc (dM (x1.map ePod))),(2,oc (.d (.v (.int .u8 x2)))),(3,oc (dI x3)),(29,oc (dB o1))],[]⟩) ?_ ?_
 ·have h:=ho
  clear ho
  refine ww ?_
  obtain⟨t2,ht2,h⟩:=bi h
  refine cN [] (F8_ok ht2) trivial (ww ?_)
  refine guardSBh h (fun g3 h=>ww ?_) (fun g3 h=>ww ?_)
  ·cases h
   exact eM [] rfl
  obtain⟨t4,ht4,h⟩:=bi h
  refine cN [] (F13_ok ht4) trivial (ww ?_)
  refine guardSBh h (fun g5 h=>ww ?_) (fun g5 h=>ww ?_)
  ·cases h
   exact eM [] rfl
  refine guardSh h (fun g6 h=>ww ?_) (fun g6 h=>ww ?_)
  ·cases h
   exact eM [] rfl
  obtain⟨t7,ht7,h⟩:=bi h
  refine cN [] (F19_ok ht7) trivial (ww ?_)
  cases h
  exact eM [] rfl
 rintro _ rfl
 clear ho
 refine ww ?_
 refine condBh h (fun c8 h=>ww ?_) (fun c8 h=>ww ?_)
 ·obtain⟨t9,ht9,h⟩:=bi h
  refine cN [] (F9_ok ht9) trivial (ww ?_)
  cases h
  exact eF []
 obtain⟨u10,hu10,h⟩:=bi h
 refine⟨ck_some hu10,?_⟩
 refine ww ?_
 obtain⟨y11,hy11,h⟩:=bi h
 refine t_idxF (enc:=ePod) (xs:=x1) rfl rfl hy11 rfl (ww ?_)
 obtain⟨o12,ho,h⟩:=bi h
 refine cutS (fun s=>s=⟨[(0,oc (dM (x0.map eBudget))),(1,oc (dM (x1.map ePod))),(3,oc (dI x3)),(9,Pz 0),(58,oc (dB o12))],[xb (bPod y11)]⟩) ?_ ?_
 ·have h:=ho
  clear ho
  refine ww ?_
  refine guardSBh h (fun g13 h=>ww ?_) (fun g13 h=>ww ?_)
  ·cases h
   exact eM [some 0] rfl
  refine guardSBh h (fun g14 h=>ww ?_) (fun g14 h=>ww ?_)
  ·cases h
   exact eM [some 0] rfl
  refine guardSh h (fun g15 h=>ww ?_) (fun g15 h=>ww ?_)
  ·cases h
   exact eM [some 0] rfl
  cases h
  exact eM [some 0] rfl
 rintro _ rfl
 clear ho
 refine ww ?_
 refine condBh h (fun c16 h=>ww ?_) (fun c16 h=>ww ?_)
 ·obtain⟨t17,ht17,h⟩:=bi h
  refine cN [] (F9_ok ht17) trivial (ww ?_)
  cases h
  exact eF []
 obtain⟨t18,ht18,h⟩:=bi h
 refine cN [] (F20_ok ht18) trivial (ww ?_)
 obtain⟨t19,ht19,h⟩:=bi h
 refine cN [] (F14_ok ht19) trivial (ww ?_)
 obtain⟨o20,ho,h⟩:=bi h
 refine cutS (fun s=>s=⟨[(8,oc (dB o20))],[]⟩) ?_ ?_
 ·have h:=ho
  clear ho
  refine ww ?_
  refine guardSh h (fun g21 h=>ww ?_) (fun g21 h=>ww ?_)
  ·obtain⟨t22,ht22,h⟩:=bi h
   refine callX_bor (F18_ok ht22) (by simp only[borAs,bors,hp,List.getElem?_cons_zero,List.getElem?_cons_succ,Option.join_some,List.drop_zero,bor_full',true_and,Nat.zero_add,List.length_map,Nat.le_refl,nrm,List.length_cons,List.length_nil,Nat.reduceAdd,Nat.reduceLeDiff,List.take_succ_cons,List.take_zero,List.take_nil,List.map_cons,List.map_nil,List.length_set,EE.down]) rfl ?_
   refine ww ?_
   refine guardSBh h (fun g23 h=>ww ?_) (fun g23 h=>ww ?_)
   ·obtain⟨t24,ht24,h⟩:=bi h
    refine cN [] (F9_ok ht24) trivial (ww ?_)
    cases h
    exact eM [] rfl
   cases h
   exact eM [] rfl
  cases h
  exact eM [] rfl
 rintro _ rfl
 clear ho
 refine ww ?_
 cases h
 exact eF []
end Go.Proofs.Ytedgocbpegllaaa
