/- Each Go function as a function over typed data, and its walk. -/
import Derived.Test.YtdejhahgpojnoaaW0
import Derived.Test.YtdejhahgpojnoaaW1
import Derived.Test.YtdejhahgpojnoaaW2
import Derived.Test.YtdejhahgpojnoaaW3
namespace Go.Proofs.Ytdejhahgpojnoaa
open Go Go.Fw Go.Shelf
set_option maxRecDepth 100000
set_option maxHeartbeats 4000000
set_option linter.unusedSimpArgs false
set_option linter.unusedVariables false
def F26(x0:Meta):Option (ByteArray):=(F49 x0.Kind x0.Namespace x0.Name).bind fun t1=>some t1
def a26:AFn:=⟨10,[(.tmp 2)],
 (.seq (.reg [Qg 1 0,
sq 2 (.mv (kS ⟨#[]⟩))])
 (.seq (.reg [Qb 3 0 1,
Qd 4 3,
Qb 5 1 1,
Qd 6 5,
Qb 7 2 1,
Qd 8 7,
sq 9 (.call 49 [(.t 4),(.t 6),(.t 8)]),
Qa 2 9])
 .ret))⟩
theorem F26_ok{x0 r}(h:F26 x0=some r):CallD Try.prog 26 [.agg (bMeta x0)] [] (tupV [.c (dS r)]) []:=by
 rw[F26]at h
 refine zc a26 (by kernel_rfl) rfl (ww ?_)
 obtain⟨t1,ht1,h⟩:=bi h
 refine cN [] (F49_ok ht1) trivial (ww ?_)
 cases h
 exact eF []
def F55v1_l1(b1:List (Int×TState)):List Owner→Nat→Option ((Int) ⊕ (Unit))
 |[],o1_0=>some (Sum.inr (()))
 |xo1::xs,o1_0=>(F38 xo1 b1).bind fun t3=>(if((((getM xo1.Uid b1).getD ((⟨false,false,false,false,false⟩:TState)))).exists_)=true then(some ((o1_0:Int))).map Sum.inl else F55v1_l1 b1 xs (o1_0+1))
def F55v1(x0:(List Owner))(b1:List (Int×TState)):Option (Int):=(((ck (0≤x0.length∧x0.length≤4294967290)).bind fun u5=>F55v1_l1 b1 x0 0:Option ((Int) ⊕ (Unit))).bind fun o1=>match o1 with|Sum.inl f=>some f|Sum.inr po1=>some ((-1)))
def a55v1:AFn:=⟨19,[(.tmp 4)],
 (.seq (.reg [Qe 4 0])
 (.seq (.seq (.reg [Qa 6 0,
Qh 7 6,
Qe 8 0])
 (.sem (.block 0 (.loop (.seq (.reg [Qn 9 8 7])
 (.seq (.cond (.t 9)
 .skip
 (.exit 0))
 (.seq (.block 1 (.seq (.reg [Qa 10 8,
Qa 5 10])
 (.seq (.reg [Qa 11 1,
Qa 12 0,
Qa 13 5,
Qp 14 5 12 13,
Qc 15 5 14,
zl 16 (.callv (.t 11) [(.t 15)]) [] [12,14]])
 (.cond (.t 16)
 (.seq (.reg [Qa 17 5,
Qa 4 17])
 .ret)
 .skip))))
 (.reg [Qm 18 8 1,
Qa 8 18]))))))))
 (.seq (.reg [sq 4 (.mv (kI (-1)))])
 .ret)))⟩
theorem a55v1_ok:afn Try.prog 55=some a55v1.er:=by kernel_rfl
theorem F55v1_ok{x0 b1 r}(h:F55v1 x0 b1=some r):CallD Try.prog 55 [.c (dM (x0.map eOwner)),.c (.fn 38 [(0,0)])] [xb [.mref 1],some (.map (eMs (Value.int .i64) eTState b1))] (tupV [.c (dI r)]) [xb [.mref 1],some (.map (eMs (Value.int .i64) eTState b1))]:=by
 refine callS a55v1_ok (by simp[a55v1]) ?_
 rw[F55v1]at h
 simp only[a55v1,VW.down,Nat.reduceEqDiff,reduceCtorEq,Nat.reduceAdd,Nat.reduceLeDiff,Nat.reduceLT,Nat.reduceBEq,Nat.reduceSub,EE.down]
 obtain⟨o1,ho,h⟩:=bi h
 refine cutS (fun s=>∃po1,o1=Sum.inr po1∧s=⟨[],[xb [.mref 1],some (.map (eMs (Value.int .i64) eTState b1))]⟩) ?_ ?_
 ·have h0o1:=h
  have h:=ho
  clear ho
  obtain⟨_,hk,h⟩:=bi h
  have hk:=ck_some hk
  refine ww ?_
  refine bL (fun j s=>∃(o1_0:Nat),(o1_0≤x0.length∧j=x0.length-o1_0)∧s=⟨[(0,oc (dM (x0.map eOwner))),(1,oc (.fn 38 [(0,0)])),(7,oc (dI ((x0.length:Int)))),(8,oc (dI ((o1_0:Int))))],[xb [.mref 1],some (.map (eMs (Value.int .i64) eTState b1))]⟩∧F55v1_l1 b1 (x0.drop o1_0) o1_0=some o1) (x0.length-0) [some 0,some 1] ⟨0,⟨hk.1,rfl⟩,rfl,h⟩ ?_
  rintro _ _ ⟨o1_0,⟨hi,rfl⟩,rfl,h⟩
  refine ww ?_
  refine condS (fun c2=>?_) (fun c2=>?_)
  ·obtain⟨xo1,hxo1,hd⟩:=countY (show(o1_0:Int)<(x0.length:Int)from c2)
   rw[hd,F55v1_l1]at h
   refine ww ?_
   refine t_idxF (enc:=eOwner) (xs:=x0) rfl rfl hxo1 rfl (ww ?_)
   obtain⟨t3,ht3,h⟩:=bi h
   refine cN [0,1] (F38_ok ht3) ⟨⟨rfl,by simp[Blk.live,C.live,hp]⟩,⟨⟨congrArg some (by first|exact ren_m1.symm|exact ren_ms.symm),(by first|exact entsD_live entsD_1 _|exact entsD_live entsD_s _)⟩,trivial⟩⟩ ?_
   refine ww ?_
   refine condBh h (fun c4 h=>ww ?_) (fun c4 h=>ww ?_)
   ·obtain⟨fh0o1,hfh0o1,rfl⟩:=Option.map_eq_some_iff.1 h
    have h:=hfh0o1.trans h0o1
    cases h
    exact eF [some 0,some 1]
   rw[wrapN (by omega)]
   exact eL' (x0.length-(o1_0+1)) [some 0,some 1] ⟨o1_0+1,⟨by omega,rfl⟩,rfl,h⟩ (by omega)
  rw[countN (show¬((o1_0:Int)<(x0.length:Int))from c2),F55v1_l1]at h
  refine ww ?_
  cases h
  exact eM [some 0,some 1] ⟨_,rfl,rfl⟩
 rintro _ ⟨po1,rfl,rfl⟩
 clear ho
 dsimp only at h
 refine ww ?_
 cases h
 exact eF [some 0,some 1]
def F55v3_l1(b1:List (Int×TState)):List Owner→Nat→Option ((Int) ⊕ (Unit))
 |[],o1_0=>some (Sum.inr (()))
 |xo1::xs,o1_0=>(F40 xo1 b1).bind fun t3=>(if t3=true then(some ((o1_0:Int))).map Sum.inl else F55v3_l1 b1 xs (o1_0+1))
def F55v3(x0:(List Owner))(b1:List (Int×TState)):Option (Int):=(((ck (0≤x0.length∧x0.length≤4294967290)).bind fun u5=>F55v3_l1 b1 x0 0:Option ((Int) ⊕ (Unit))).bind fun o1=>match o1 with|Sum.inl f=>some f|Sum.inr po1=>some ((-1)))
def a55v3:AFn:=⟨19,[(.tmp 4)],
 (.seq (.reg [Qe 4 0])
 (.seq (.seq (.reg [Qa 6 0,
Qh 7 6,
Qe 8 0])
 (.sem (.block 0 (.loop (.seq (.reg [Qn 9 8 7])
 (.seq (.cond (.t 9)
 .skip
 (.exit 0))
 (.seq (.block 1 (.seq (.reg [Qa 10 8,
Qa 5 10])
 (.seq (.reg [Qa 11 1,
Qa 12 0,
Qa 13 5,
Qp 14 5 12 13,
Qc 15 5 14,
zl 16 (.callv (.t 11) [(.t 15)]) [] [12,14]])
 (.cond (.t 16)
 (.seq (.reg [Qa 17 5,
Qa 4 17])
 .ret)
 .skip))))
 (.reg [Qm 18 8 1,
Qa 8 18]))))))))
 (.seq (.reg [sq 4 (.mv (kI (-1)))])
 .ret)))⟩
theorem a55v3_ok:afn Try.prog 55=some a55v3.er:=by kernel_rfl
theorem F55v3_ok{x0 b1 r}(h:F55v3 x0 b1=some r):CallD Try.prog 55 [.c (dM (x0.map eOwner)),.c (.fn 40 [(0,0)])] [xb [.mref 1],some (.map (eMs (Value.int .i64) eTState b1))] (tupV [.c (dI r)]) [xb [.mref 1],some (.map (eMs (Value.int .i64) eTState b1))]:=by
 refine callS a55v3_ok (by simp[a55v3]) ?_
 rw[F55v3]at h
 simp only[a55v3,VW.down,Nat.reduceEqDiff,reduceCtorEq,Nat.reduceAdd,Nat.reduceLeDiff,Nat.reduceLT,Nat.reduceBEq,Nat.reduceSub,EE.down]
 obtain⟨o1,ho,h⟩:=bi h
 refine cutS (fun s=>∃po1,o1=Sum.inr po1∧s=⟨[],[xb [.mref 1],some (.map (eMs (Value.int .i64) eTState b1))]⟩) ?_ ?_
 ·have h0o1:=h
  have h:=ho
  clear ho
  obtain⟨_,hk,h⟩:=bi h
  have hk:=ck_some hk
  refine ww ?_
  refine bL (fun j s=>∃(o1_0:Nat),(o1_0≤x0.length∧j=x0.length-o1_0)∧s=⟨[(0,oc (dM (x0.map eOwner))),(1,oc (.fn 40 [(0,0)])),(7,oc (dI ((x0.length:Int)))),(8,oc (dI ((o1_0:Int))))],[xb [.mref 1],some (.map (eMs (Value.int .i64) eTState b1))]⟩∧F55v3_l1 b1 (x0.drop o1_0) o1_0=some o1) (x0.length-0) [some 0,some 1] ⟨0,⟨hk.1,rfl⟩,rfl,h⟩ ?_
  rintro _ _ ⟨o1_0,⟨hi,rfl⟩,rfl,h⟩
  refine ww ?_
  refine condS (fun c2=>?_) (fun c2=>?_)
  ·obtain⟨xo1,hxo1,hd⟩:=countY (show(o1_0:Int)<(x0.length:Int)from c2)
   rw[hd,F55v3_l1]at h
   refine ww ?_
   refine t_idxF (enc:=eOwner) (xs:=x0) rfl rfl hxo1 rfl (ww ?_)
   obtain⟨t3,ht3,h⟩:=bi h
   refine cN [0,1] (F40_ok ht3) ⟨⟨rfl,by simp[Blk.live,C.live,hp]⟩,⟨⟨congrArg some (by first|exact ren_m1.symm|exact ren_ms.symm),(by first|exact entsD_live entsD_1 _|exact entsD_live entsD_s _)⟩,trivial⟩⟩ ?_
   refine ww ?_
   refine condBh h (fun c4 h=>ww ?_) (fun c4 h=>ww ?_)
   ·obtain⟨fh0o1,hfh0o1,rfl⟩:=Option.map_eq_some_iff.1 h
    have h:=hfh0o1.trans h0o1
    cases h
    exact eF [some 0,some 1]
   rw[wrapN (by omega)]
   exact eL' (x0.length-(o1_0+1)) [some 0,some 1] ⟨o1_0+1,⟨by omega,rfl⟩,rfl,h⟩ (by omega)
  rw[countN (show¬((o1_0:Int)<(x0.length:Int))from c2),F55v3_l1]at h
  refine ww ?_
  cases h
  exact eM [some 0,some 1] ⟨_,rfl,rfl⟩
 rintro _ ⟨po1,rfl,rfl⟩
 clear ho
 dsimp only at h
 refine ww ?_
 cases h
 exact eF [some 0,some 1]
def F43(x0:ByteArray)(x1:ByteArray):Option (Int):=(cmpS x0 x1).bind fun t1=>some t1
def a43:AFn:=⟨8,[(.tmp 4)],
 (.seq (.reg [Qe 4 0])
 (.seq (.reg [Qa 5 0,
Qa 6 1,
Ql 7 58 5 6,
Qa 4 7])
 .ret))⟩
theorem F43_ok{x0 x1 r}(h:F43 x0 x1=some r):CallD Try.prog 43 [.c (dS x0),.c (dS x1)] [] (tupV [.c (dI r)]) []:=by
 rw[F43]at h
 refine zc a43 (by kernel_rfl) rfl (ww ?_)
 obtain⟨t1,ht1,h⟩:=bi h
 refine cN [] (F58_ok ht1) trivial (ww ?_)
 cases h
 exact eF []
theorem F27_ok{x0 r:List ByteArray}{e0:Nat}(h:sortI x0=some r):CallD Try.prog 27 [.c (.own 0 e0 0 x0.length none)] [some (.arr e0 1 (x0.map eS))] (tupV []) [some (.arr e0 1 (r.map eS))]:=L_sort (ρ:=Try.laysSort_ren) Try.laysSort rfl (by kernel_rfl) h
def F31_l1:List ByteArray→Nat→(List ByteArray)→Option ((List ByteArray))
 |[],o1_1,o1_0=>some o1_0
 |xo1::xs,o1_1,o1_0=>(F53 o1_0 xo1).bind fun t3=>F31_l1 xs (o1_1+1) t3
def F31_l5:List ByteArray→Nat→(List ByteArray)→Option ((List ByteArray))
 |[],o5_1,o5_0=>some o5_0
 |xo5::xs,o5_1,o5_0=>(F53 o5_0 xo5).bind fun t7=>F31_l5 xs (o5_1+1) t7
def F31(x0:(List ByteArray))(x1:(List ByteArray)):Option ((List ByteArray)):=(((ck (0≤x0.length∧x0.length≤4294967290)).bind fun u4=>F31_l1 x0 0 ([])).bind fun o1=>(((ck (0≤x1.length∧x1.length≤4294967290)).bind fun u8=>F31_l5 x1 0 o1).bind fun o5=>some o5))
def a31:AFn:=⟨33,[(.tmp 4)],
 (.seq (.reg [sq 4 (.mv kN)])
 (.seq (.reg [sq 5 (.mv kN)])
 (.seq (.seq (.reg [Qe 6 0])
 (.sem (.block 0 (.loop (.seq (.seq (.reg [Qa 8 6,
Qa 9 0,
Qh 10 9,
Qn 11 8 10])
 (.cond (.t 11)
 .skip
 (.exit 0)))
 (.seq (.block 1 (.reg [Qa 14 5,
Qa 15 0,
Qa 16 6,
Qp 17 1 15 16,
Qd 18 17,
Ql 19 53 14 18,
Qa 5 19]))
 (.reg [Qa 12 6,
Qm 13 12 1,
Qa 6 13])))))))
 (.seq (.seq (.reg [Qe 7 0])
 (.sem (.block 2 (.loop (.seq (.seq (.reg [Qa 20 7,
Qa 21 1,
Qh 22 21,
Qn 23 20 22])
 (.cond (.t 23)
 .skip
 (.exit 2)))
 (.seq (.block 3 (.reg [Qa 26 5,
Qa 27 1,
Qa 28 7,
Qp 29 1 27 28,
Qd 30 29,
Ql 31 53 26 30,
Qa 5 31]))
 (.reg [Qa 24 7,
Qm 25 24 1,
Qa 7 25])))))))
 (.seq (.reg [Qa 32 5,
Qa 4 32])
 .ret)))))⟩
theorem F31_ok{x0 x1 r}(h:F31 x0 x1=some r):CallD Try.prog 31 [.c (dM (x0.map eS)),.c (dM (x1.map eS))] [] (tupV [.c (.own 0 0 0 (r.length) none)]) [some (.arr 0 1 (r.map eS))]:=by
 rw[F31]at h
 refine zc a31 (by kernel_rfl) rfl (ww ?_)
 obtain⟨o1,ho,h⟩:=bi h
 refine cutS (fun s=>s=⟨[(1,oc (dM (x1.map eS))),(5,oc (.own 0 0 0 (o1.length) none))],[some (.arr 0 1 (o1.map eS))]⟩) ?_ ?_
 ·have h:=ho
  clear ho
  obtain⟨_,hk,h⟩:=bi h
  have hk:=ck_some hk
  refine ww ?_
  refine bL (fun j s=>∃(o1_1:Nat) (o1_0:List ByteArray),(o1_1≤x0.length∧j=x0.length-o1_1)∧s=⟨[(0,oc (dM (x0.map eS))),(1,oc (dM (x1.map eS))),(5,oc (.own 0 0 0 (o1_0.length) none)),(6,oc (dI ((o1_1:Int))))],[some (.arr 0 1 (o1_0.map eS))]⟩∧F31_l1 (x0.drop o1_1) o1_1 o1_0=some o1) (x0.length-0) [none] ⟨0,[],⟨hk.1,rfl⟩,rfl,h⟩ ?_
  rintro _ _ ⟨o1_1,o1_0,⟨hi,rfl⟩,rfl,h⟩
  refine ww ?_
  refine condS (fun c2=>?_) (fun c2=>?_)
  ·obtain⟨xo1,hxo1,hd⟩:=countY (show(o1_1:Int)<(x0.length:Int)from c2)
   rw[hd,F31_l1]at h
   refine ww ?_
   refine t_idxF (enc:=eS) (xs:=x0) rfl rfl hxo1 rfl (ww ?_)
   obtain⟨t3,ht3,h⟩:=bi h
   refine callX_borF (F53_ok ht3) (by simp only[borAs,bors,hp,List.getElem?_cons_zero,List.getElem?_cons_succ,Option.join_some,List.drop_zero,bor_full',true_and,Nat.zero_add,List.length_map,Nat.le_refl,nrm,List.length_cons,List.length_nil,Nat.reduceAdd,Nat.reduceLeDiff,List.take_succ_cons,List.take_zero,List.take_nil,List.map_cons,List.map_nil,List.length_set,EE.down]) rfl ⟨flat_rows (enc:=eS) (fun _=>rfl) _,trivial⟩ ?_
   refine ww ?_
   rw[wrapN (by omega)]
   exact eL' (x0.length-(o1_1+1)) [some 1] ⟨o1_1+1,t3,⟨by omega,rfl⟩,rfl,h⟩ (by omega)
  rw[countN (show¬((o1_1:Int)<(x0.length:Int))from c2),F31_l1]at h
  refine ww ?_
  cases h
  exact eM [some 0] rfl
 rintro _ rfl
 clear ho
 refine ww ?_
 obtain⟨o5,ho,h⟩:=bi h
 refine cutS (fun s=>s=⟨[(5,oc (.own 0 0 0 (o5.length) none))],[some (.arr 0 1 (o5.map eS))]⟩) ?_ ?_
 ·have h:=ho
  clear ho
  obtain⟨_,hk,h⟩:=bi h
  have hk:=ck_some hk
  refine ww ?_
  refine bL (fun j s=>∃(o5_1:Nat) (o5_0:List ByteArray),(o5_1≤x1.length∧j=x1.length-o5_1)∧s=⟨[(1,oc (dM (x1.map eS))),(5,oc (.own 0 0 0 (o5_0.length) none)),(7,oc (dI ((o5_1:Int))))],[some (.arr 0 1 (o5_0.map eS))]⟩∧F31_l5 (x1.drop o5_1) o5_1 o5_0=some o5) (x1.length-0) [some 0] ⟨0,o1,⟨hk.1,rfl⟩,rfl,h⟩ ?_
  rintro _ _ ⟨o5_1,o5_0,⟨hi,rfl⟩,rfl,h⟩
  refine ww ?_
  refine condS (fun c6=>?_) (fun c6=>?_)
  ·obtain⟨xo5,hxo5,hd⟩:=countY (show(o5_1:Int)<(x1.length:Int)from c6)
   rw[hd,F31_l5]at h
   refine ww ?_
   refine t_idxF (enc:=eS) (xs:=x1) rfl rfl hxo5 rfl (ww ?_)
   obtain⟨t7,ht7,h⟩:=bi h
   refine callX_borF (F53_ok ht7) (by simp only[borAs,bors,hp,List.getElem?_cons_zero,List.getElem?_cons_succ,Option.join_some,List.drop_zero,bor_full',true_and,Nat.zero_add,List.length_map,Nat.le_refl,nrm,List.length_cons,List.length_nil,Nat.reduceAdd,Nat.reduceLeDiff,List.take_succ_cons,List.take_zero,List.take_nil,List.map_cons,List.map_nil,List.length_set,EE.down]) rfl ⟨flat_rows (enc:=eS) (fun _=>rfl) _,trivial⟩ ?_
   refine ww ?_
   rw[wrapN (by omega)]
   exact eL' (x1.length-(o5_1+1)) [some 1] ⟨o5_1+1,t7,⟨by omega,rfl⟩,rfl,h⟩ (by omega)
  rw[countN (show¬((o5_1:Int)<(x1.length:Int))from c6),F31_l5]at h
  refine ww ?_
  cases h
  exact eM [some 0] rfl
 rintro _ rfl
 clear ho
 refine ww ?_
 cases h
 exact eF [some 0]
end Go.Proofs.Ytdejhahgpojnoaa
