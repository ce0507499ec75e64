/- Each Go function as a function over typed data, and its walk. -/
import Derived.Test.YtdejhahgpojnoaaW0
import Derived.Test.YtdejhahgpojnoaaW2
namespace Go.Proofs.Ytdejhahgpojnoaa
open Go Go.Fw Go.Shelf
set_option maxRecDepth 100000
set_option maxHeartbeats 4000000
set_option linter.unusedSimpArgs false
set_option linter.unusedVariables false
def F55v4_l1(b0:Int)(b1:Bool):List Owner→Nat→Option ((Int) ⊕ (Unit))
 |[],o1_0=>some (Sum.inr (()))
 |xo1::xs,o1_0=>(F48 xo1 b0 b1).bind fun t3=>(if t3=true then(some ((o1_0:Int))).map Sum.inl else F55v4_l1 b0 b1 xs (o1_0+1))
def F55v4(x0:(List Owner))(b0:Int)(b1:Bool):Option (Int):=(((ck (0≤x0.length∧x0.length≤4294967290)).bind fun u5=>F55v4_l1 b0 b1 x0 0:Option ((Int) ⊕ (Unit))).bind fun o1=>match o1 with|Sum.inl f=>some f|Sum.inr po1=>some ((-1)))
def a55v4:AFn:=⟨19,[(.tmp 4)],
 (.seq (.reg [Qe 4 0])
 (.seq (.seq (.reg [Qa 6 0,
Qh 7 6,
Qe 8 0])
 (.sem (.block 0 (.loop (.seq (.reg [Qn 9 8 7])
 (.seq (.cond (.t 9)
 .skip
 (.exit 0))
 (.seq (.block 1 (.seq (.reg [Qa 10 8,
Qa 5 10])
 (.seq (.reg [Qa 11 1,
Qa 12 0,
Qa 13 5,
Qp 14 5 12 13,
Qc 15 5 14,
zl 16 (.callv (.t 11) [(.t 15)]) [] [12,14]])
 (.cond (.t 16)
 (.seq (.reg [Qa 17 5,
Qa 4 17])
 .ret)
 .skip))))
 (.reg [Qm 18 8 1,
Qa 8 18]))))))))
 (.seq (.reg [sq 4 (.mv (kI (-1)))])
 .ret)))⟩
theorem a55v4_ok:afn Try.prog 55=some a55v4.er:=by kernel_rfl
theorem F55v4_ok{x0 b0 b1 r}(h:F55v4 x0 b0 b1=some r):CallD Try.prog 55 [.c (dM (x0.map eOwner)),.c (.fn 48 [(0,0),(1,0)])] [xb [dI b0],xb [dB b1]] (tupV [.c (dI r)]) [xb [dI b0],xb [dB b1]]:=by
 refine callS a55v4_ok (by simp[a55v4]) ?_
 rw[F55v4]at h
 simp only[a55v4,VW.down,Nat.reduceEqDiff,reduceCtorEq,Nat.reduceAdd,Nat.reduceLeDiff,Nat.reduceLT,Nat.reduceBEq,Nat.reduceSub,EE.down]
 obtain⟨o1,ho,h⟩:=bi h
 refine cutS (fun s=>∃po1,o1=Sum.inr po1∧s=⟨[],[xb [dI b0],xb [dB b1]]⟩) ?_ ?_
 ·have h0o1:=h
  have h:=ho
  clear ho
  obtain⟨_,hk,h⟩:=bi h
  have hk:=ck_some hk
  refine ww ?_
  refine bL (fun j s=>∃(o1_0:Nat),(o1_0≤x0.length∧j=x0.length-o1_0)∧s=⟨[(0,oc (dM (x0.map eOwner))),(1,oc (.fn 48 [(0,0),(1,0)])),(7,oc (dI ((x0.length:Int)))),(8,oc (dI ((o1_0:Int))))],[xb [dI b0],xb [dB b1]]⟩∧F55v4_l1 b0 b1 (x0.drop o1_0) o1_0=some o1) (x0.length-0) [some 0,some 1] ⟨0,⟨hk.1,rfl⟩,rfl,h⟩ ?_
  rintro _ _ ⟨o1_0,⟨hi,rfl⟩,rfl,h⟩
  refine ww ?_
  refine condS (fun c2=>?_) (fun c2=>?_)
  ·obtain⟨xo1,hxo1,hd⟩:=countY (show(o1_0:Int)<(x0.length:Int)from c2)
   rw[hd,F55v4_l1]at h
   refine ww ?_
   refine t_idxF (enc:=eOwner) (xs:=x0) rfl rfl hxo1 rfl (ww ?_)
   obtain⟨t3,ht3,h⟩:=bi h
   refine cN [0,1] (F48_ok ht3) ⟨⟨rfl,by simp[Blk.live,C.live,hp]⟩,⟨⟨rfl,by simp[Blk.live,C.live,hp]⟩,trivial⟩⟩ ?_
   refine ww ?_
   refine condBh h (fun c4 h=>ww ?_) (fun c4 h=>ww ?_)
   ·obtain⟨fh0o1,hfh0o1,rfl⟩:=Option.map_eq_some_iff.1 h
    have h:=hfh0o1.trans h0o1
    cases h
    exact eF [some 0,some 1]
   rw[wrapN (by omega)]
   exact eL' (x0.length-(o1_0+1)) [some 0,some 1] ⟨o1_0+1,⟨by omega,rfl⟩,rfl,h⟩ (by omega)
  rw[countN (show¬((o1_0:Int)<(x0.length:Int))from c2),F55v4_l1]at h
  refine ww ?_
  cases h
  exact eM [some 0,some 1] ⟨_,rfl,rfl⟩
 rintro _ ⟨po1,rfl,rfl⟩
 clear ho
 dsimp only at h
 refine ww ?_
 cases h
 exact eF [some 0,some 1]
def F15_l6(o2_0:List Object)(o3_1:Nat):Nat→Bool→Int→Option (Bool)
 |0,_,_=>none
 |k+1,o6_0,o6_1=>(rdI o2_0 ((o3_1:Int))).bind fun y7=>(if o6_1<(y7.Meta.Owners.length:Int)then(((if o6_0=true then some true else(rdI o2_0 ((o3_1:Int))).bind fun y11=>(rdI y11.Meta.Owners o6_1).bind fun y12=>(F32 o2_0 y12.Uid).bind fun t13=>some t13)).bind fun o9=>F15_l6 o2_0 o3_1 k o9 ((IntKind.i64.wrap (o6_1+1))))else some o6_0)
def F15_l3(o2_0:List Object):List Object→Nat→(List Object)→Option ((List Object))
 |[],o3_1,o3_0=>some o3_0
 |xo3::xs,o3_1,o3_0=>((((F15_l6 o2_0 o3_1 1099511627776 false 0).bind fun o6=>(if o6=true then(rdI o2_0 ((o3_1:Int))).bind fun y15=>(apI o3_0 ([y15])).bind fun a16=>some a16 else some o3_0))).bind fun o5=>F15_l3 o2_0 xs (o3_1+1) o5)
def F15_l2:Nat→(List Object)→Option ((Bool) ⊕ (Unit))
 |0,_=>none
 |k+1,o2_0=>(((ck (0≤o2_0.length∧o2_0.length≤4294967290)).bind fun u17=>F15_l3 o2_0 o2_0 0 ([])).bind fun o3=>(if(o3.length:Int)=(o2_0.length:Int)then(some (decide ((o2_0.length:Int)=0))).map Sum.inl else F15_l2 k o3))
def F15(x0:(List Object)):Option (Bool):=(apI ([]:List Object) x0).bind fun a1=>((F15_l2 1099511627776 a1).bind fun o2=>match o2 with|Sum.inl f=>some f|Sum.inr _=>none)
def a15:AFn:=⟨60,[(.tmp 2)],
 (.seq (.reg [Qf 2 false])
 (.seq (.reg [sq 8 (.bslice 23 []),
Qa 9 0,
sq 10 (.app 23 352 (.t 8) (.t 9)),
Qa 3 10])
 (.sem (.block 0 (.loop (.block 1 (.seq (.reg [sq 4 (.mv kN)])
 (.seq (.seq (.reg [Qe 5 0])
 (.sem (.block 2 (.loop (.seq (.seq (.reg [Qa 11 5,
Qa 12 3,
Qh 13 12,
Qn 14 11 13])
 (.cond (.t 14)
 .skip
 (.exit 2)))
 (.seq (.sem (.block 3 (.seq (.reg [Qf 6 false])
 (.seq (.seq (.reg [Qe 7 0])
 (.sem (.block 4 (.loop (.seq (.seq (.reg [Qa 17 7,
Qa 18 3,
Qa 19 5,
Qp 20 23 18 19,
Qb 21 0 20,
Qb 22 10 21,
Qd 23 22,
Qh 24 23,
Qn 25 17 24])
 (.cond (.t 25)
 .skip
 (.exit 4)))
 (.seq (.sem (.block 5 (.reg [Qa 28 6,
Qa 29 28,
Qv 30 29 false 3,
Qv 31 29 false 3,
Qv 32 29 false 5,
zg 33 29 false (.indexA 23 (.t 31) (.t 32)),
Qs 34 29 false 0 33,
Qs 35 29 false 10 34,
Qt 36 29 false 35,
Qv 37 29 false 7,
zg 38 29 false (.indexA 5 (.t 36) (.t 37)),
Qs 39 29 false 2 38,
Qt 40 29 false 39,
zg 41 29 false (.call 32 [(.t 30),(.t 40)]),
Qj 42 29 41,
Qa 6 42])))
 (.reg [Qa 26 7,
Qm 27 26 1,
Qa 7 27])))))))
 (.seq (.reg [Qa 43 6])
 (.cond (.t 43)
 (.reg [Qa 44 4,
Qa 45 3,
Qa 46 5,
Qp 47 23 45 46,
Qc 48 23 47,
sq 49 (.bslice 23 [(.t 48)]),
sq 50 (.app 23 352 (.t 44) (.t 49)),
Qa 4 50])
 .skip))))))
 (.reg [Qa 15 5,
Qm 16 15 1,
Qa 5 16])))))))
 (.seq (.seq (.reg [Qa 51 4,
Qh 52 51,
Qa 53 3,
Qh 54 53,
sq 55 (.bin .eql (.t 52) (.t 54))])
 (.cond (.t 55)
 (.seq (.reg [Qa 56 3,
Qh 57 56,
Qr 58 57 0,
Qa 2 58])
 .ret)
 .skip))
 (.reg [Qa 59 4,
Qa 3 59]))))))))))⟩
theorem F15_ok{x0 r}(h:F15 x0=some r):CallD Try.prog 15 [.c (dM (x0.map eObject))] [] (tupV [.c (dB r)]) []:=by
 rw[F15]at h
 refine zc a15 (by kernel_rfl) rfl (ww ?_)
 refine t_bslice (enc:=eObject) (ys:=([]:List Object)) rfl rfl (by simp[A1.cells]) (by first|rfl|(simp only[List.drop_zero,take_mapL];rfl)|(simp only[lit,List.map_cons,List.map_nil,List.drop_zero,take_mapL,EE.down];done)|(simp only[lit,List.map_cons,List.map_nil,List.drop_zero,take_mapL,EE.down];rfl)) (ww ?_)
 obtain⟨a1,ha1,h⟩:=bi h
 refine t_app (enc:=eObject) (xs:=([]:List Object)) rfl rfl (by first|rfl|simp only[List.length_set]|exact(clrL_len (slI_len (by assumption))).symm) rfl (rows_frz (enc:=eObject) (fun _=>rfl)) ha1 (ww ?_)
 obtain⟨o2,ho,h⟩:=bi h
 refine cutS (fun _=>False) ?_ (fun _ hf=>hf.elim)
 have h0o2:=h
 have h:=ho
 clear ho
 refine ww ?_
 refine bL (fun j s=>∃(o2_0:List Object),s=⟨[(3,oc (.own 0 0 0 (o2_0.length) none))],[some (.arr 0 23 (o2_0.map eObject))]⟩∧F15_l2 j o2_0=some o2) 1099511627776 [some 0] ⟨a1,rfl,h⟩ ?_
 rintro j _ ⟨o2_0,rfl,h⟩
 cases j with
 |zero=>cases(show(none:Option _)=some _ from h)
 |succ j=>
  rw[F15_l2]at h
  refine ww ?_
  obtain⟨o3,ho,h⟩:=bi h
  refine cutS (fun s=>s=⟨[(3,oc (.own 0 0 0 (o2_0.length) none)),(4,oc (.own 1 0 0 (o3.length) none))],[some (.arr 0 23 (o2_0.map eObject)),some (.arr 0 23 (o3.map eObject))]⟩) ?_ ?_
  ·have h:=ho
   clear ho
   obtain⟨_,hk,h⟩:=bi h
   have hk:=ck_some hk
   refine ww ?_
   refine bL (fun j s=>∃(o3_1:Nat) (o3_0:List Object),(o3_1≤o2_0.length∧j=o2_0.length-o3_1)∧s=⟨[(3,oc (.own 0 0 0 (o2_0.length) none)),(4,oc (.own 1 0 0 (o3_0.length) none)),(5,oc (dI ((o3_1:Int))))],[some (.arr 0 23 (o2_0.map eObject)),some (.arr 0 23 (o3_0.map eObject))]⟩∧F15_l3 o2_0 (o2_0.drop o3_1) o3_1 o3_0=some o3) (o2_0.length-0) [some 0,none] ⟨0,[],⟨hk.1,rfl⟩,rfl,h⟩ ?_
   rintro _ _ ⟨o3_1,o3_0,⟨hi,rfl⟩,rfl,h⟩
   refine ww ?_
   refine condS (fun c4=>?_) (fun c4=>?_)
   ·obtain⟨xo3,hxo3,hd⟩:=countY (show(o3_1:Int)<(o2_0.length:Int)from c4)
    rw[hd,F15_l3]at h
    refine ww ?_
    obtain⟨o5,ho,h⟩:=bi h
    refine cutS (fun s=>s=⟨[(3,oc (.own 0 0 0 (o2_0.length) none)),(4,oc (.own 1 0 0 (o5.length) none)),(5,oc (dI ((o3_1:Int))))],[some (.arr 0 23 (o2_0.map eObject)),some (.arr 0 23 (o5.map eObject))]⟩) ?_ ?_
    ·have h:=ho
     clear ho
     refine ww ?_
     obtain⟨o6,ho,h⟩:=bi h
     refine cutS (fun s=>s=⟨[(3,oc (.own 0 0 0 (o2_0.length) none)),(4,oc (.own 1 0 0 (o3_0.length) none)),(5,oc (dI ((o3_1:Int)))),(6,oc (dB o6))],[some (.arr 0 23 (o2_0.map eObject)),some (.arr 0 23 (o3_0.map eObject))]⟩) ?_ ?_
     ·have h:=ho
      clear ho
      refine ww ?_
      refine bL (fun j s=>∃(o6_0:Bool) (o6_1:Int),s=⟨[(3,oc (.own 0 0 0 (o2_0.length) none)),(4,oc (.own 1 0 0 (o3_0.length) none)),(5,oc (dI ((o3_1:Int)))),(6,oc (dB o6_0)),(7,oc (dI o6_1))],[some (.arr 0 23 (o2_0.map eObject)),some (.arr 0 23 (o3_0.map eObject))]⟩∧F15_l6 o2_0 o3_1 j o6_0 o6_1=some o6) 1099511627776 [some 0,some 1] ⟨false,0,rfl,h⟩ ?_
      rintro j _ ⟨o6_0,o6_1,rfl,h⟩
      cases j with
      |zero=>cases(show(none:Option _)=some _ from h)
      |succ j=>
       rw[F15_l6]at h
       refine ww ?_
       obtain⟨y7,hy7,h⟩:=bi h
       refine t_idxO (enc:=eObject) (xs:=o2_0) rfl rfl rfl (by first|rfl|simp only[List.length_set]|exact(clrL_len (slI_len (by assumption))).symm) hy7 (ww ?_)
       refine LdRow.rd (rdI_some hy7).2.1 (ww ?_)
       refine condSh h (fun c8 h=>ww ?_) (fun c8 h=>?_)
       ·obtain⟨o9,ho,h⟩:=bi h
        refine cutS (fun s=>s=⟨[(3,oc (.own 0 0 0 (o2_0.length) none)),(4,oc (.own 1 0 0 (o3_0.length) none)),(5,oc (dI ((o3_1:Int)))),(6,oc (dB o9)),(7,oc (dI o6_1))],[some (.arr 0 23 (o2_0.map eObject)),some (.arr 0 23 (o3_0.map eObject))]⟩) ?_ ?_
        ·have h:=ho
         clear ho
         refine ww ?_
         refine guardSBh h (fun g10 h=>ww ?_) (fun g10 h=>?_)
         ·cases h
          exact eM [some 0,some 1] rfl
         ·refine ww ?_
          obtain⟨y11,hy11,h⟩:=bi h
          refine t_idxO (enc:=eObject) (xs:=o2_0) rfl rfl rfl (by first|rfl|simp only[List.length_set]|exact(clrL_len (slI_len (by assumption))).symm) hy11 (ww ?_)
          refine LdRow.rd (rdI_some hy11).2.1 (ww ?_)
          obtain⟨y12,hy12,h⟩:=bi h
          refine t_idxF (enc:=eOwner) (xs:=y11.Meta.Owners) rfl rfl hy12 rfl (ww ?_)
          obtain⟨t13,ht13,h⟩:=bi h
          refine callX_bor (F32_ok ht13) (by simp only[borAs,bors,hp,List.getElem?_cons_zero,List.getElem?_cons_succ,Option.join_some,List.drop_zero,bor_full',true_and,Nat.zero_add,List.length_map,Nat.le_refl,nrm,List.length_cons,List.length_nil,Nat.reduceAdd,Nat.reduceLeDiff,List.take_succ_cons,List.take_zero,List.take_nil,List.map_cons,List.map_nil,List.length_set,EE.down]) rfl ?_
          refine ww ?_
          cases h
          exact eM [some 0,some 1] rfl
        ·rintro _ rfl
         clear ho
         refine ww ?_
         exact eL' j [some 0,some 1] ⟨o9,(IntKind.i64.wrap (o6_1+1)),rfl,h⟩ (Nat.lt_succ_self _)
       ·refine ww ?_
        cases h
        exact eM [some 0,some 1] rfl
     ·rintro _ rfl
      clear ho
      refine ww ?_
      refine condBh h (fun c14 h=>ww ?_) (fun c14 h=>?_)
      ·obtain⟨y15,hy15,h⟩:=bi h
       refine t_idxO (enc:=eObject) (xs:=o2_0) rfl rfl rfl (by first|rfl|simp only[List.length_set]|exact(clrL_len (slI_len (by assumption))).symm) hy15 (ww ?_)
       refine LdRow.rd (rdI_some hy15).2.1 (ww ?_)
       refine t_bslice (enc:=eObject) (ys:=[y15]) rfl rfl (by simp[A1.cells]) (by first|rfl|(simp only[List.drop_zero,take_mapL];rfl)|(simp only[lit,List.map_cons,List.map_nil,List.drop_zero,take_mapL,EE.down];done)|(simp only[lit,List.map_cons,List.map_nil,List.drop_zero,take_mapL,EE.down];rfl)) (ww ?_)
       obtain⟨a16,ha16,h⟩:=bi h
       refine t_app (enc:=eObject) (xs:=o3_0) rfl rfl (by first|rfl|simp only[List.length_set]|exact(clrL_len (slI_len (by assumption))).symm) rfl (rows_full (enc:=eObject) (by first|rfl|simp only[List.length_set]|exact(clrL_len (slI_len (by assumption))).symm) rfl) ha16 (ww ?_)
       cases h
       exact eM [some 0,some 1] rfl
      ·refine ww ?_
       cases h
       exact eM [some 0,some 1] rfl
    ·rintro _ rfl
     clear ho
     refine ww ?_
     rw[wrapN (by omega)]
     exact eL' (o2_0.length-(o3_1+1)) [some 0,some 1] ⟨o3_1+1,o5,⟨by omega,rfl⟩,rfl,h⟩ (by omega)
   ·rw[countN (show¬((o3_1:Int)<(o2_0.length:Int))from c4),F15_l3]at h
    refine ww ?_
    cases h
    exact eM [some 0,some 1] rfl
  ·rintro _ rfl
   clear ho
   refine ww ?_
   refine condSh h (fun c18 h=>ww ?_) (fun c18 h=>?_)
   ·obtain⟨fh0o2,hfh0o2,rfl⟩:=Option.map_eq_some_iff.1 h
    have h:=hfh0o2.trans h0o2
    cases h
    exact eF []
   ·refine ww ?_
    exact eL' j [some 1] ⟨o3,rfl,h⟩ (Nat.lt_succ_self _)
end Go.Proofs.Ytdejhahgpojnoaa
