/- Each Go function as a function over typed data, and its walk. -/
import Derived.Test.YtdejhahgpojnoaaW0
import Derived.Test.YtdejhahgpojnoaaW1
import Derived.Test.YtdejhahgpojnoaaW2
import Derived.Test.YtdejhahgpojnoaaW3
namespace Go.Proofs.Ytdejhahgpojnoaa
open Go Go.Fw Go.Shelf
set_option maxRecDepth 100000
set_option maxHeartbeats 4000000
set_option linter.unusedSimpArgs false
set_option linter.unusedVariables false
def F26(x0:Meta):Option (ByteArray):=(F49 x0.Kind x0.Namespace x0.Name).bind fun t1=>some t1
def a26:AFn:=⟨10,[(.tmp 2)],
 (.seq (.reg [Qg 1 0,
sq 2 (.mv (kS ⟨#[]⟩))])
 (.seq (.reg [Qb 3 0 1,
Qd 4 3,
Qb 5 1 1,
Qd 6 5,
Qb 7 2 1,
Qd 8 7,
sq 9 (.call 49 [(.t 4),(.t 6),(.t 8)]),
Qa 2 9])
 .ret))⟩
theorem F26_ok{x0 r}(h:F26 x0=some r):CallD Try.prog 26 [.agg (bMeta x0)] [] (tupV [.c (dS r)]) []:=by
 rw[F26]at h
 refine zc a26 (by kernel_rfl) rfl (ww ?_)
 obtain⟨t1,ht1,h⟩:=bi h
 refine cN [] (F49_ok ht1) trivial (ww ?_)
 cases h
 exact eF []
def F55v1_l1(b1:List (Int×TState)):List Owner→Nat→Option ((Int) ⊕ (Unit))
 |[],o1_0=>some (Sum.inr (()))
 |xo1::xs,o1_0=>(F38 xo1 b1).bind fun t3=>(if((((getM xo1.Uid b1).getD ((⟨false,false,false,false,false⟩:TState)))).exists_)=true then(some ((o1_0:Int))).map Sum.inl else F55v1_l1 b1 xs (o1_0+1))
def F55v1(x0:(List Owner))(b1:List (Int×TState)):Option (Int):=(((ck (0≤x0.length∧x0.length≤4294967290)).bind fun u5=>F55v1_l1 b1 x0 0:Option ((Int) ⊕ (Unit))).bind fun o1=>match o1 with|Sum.inl f=>some f|Sum.inr po1=>some ((-1)))
def a55v1:AFn:=⟨19,[(.tmp 4)],
 (.seq (.reg [Qe 4 0])
 (.seq (.seq (.reg [Qa 6 0,
Qh 7 6,
Qe 8 0])
 (.sem (.block 0 (.loop (.seq (.reg [Qn 9 8 7])
 (.seq (.cond (.t 9)
 .skip
 (.exit 0))
 (.seq (.block 1 (.seq (.reg [Qa 10 8,
Qa 5 10])
 (.seq (.reg [Qa 11 1,
Qa 12 0,
Qa 13 5,
Qp 14 5 12 13,
Qc 15 5 14,
zl 16 (.callv (.t 11) [(.t 15)]) [] [12,14]])
 (.cond (.t 16)
 (.seq (.reg [Qa 17 5,
Qa 4 17])
 .ret)
 .skip))))
 (.reg [Qm 18 8 1,
Qa 8 18]))))))))
 (.seq (.reg [sq 4 (.mv (kI (-1)))])
 .ret)))⟩
theorem a55v1_ok:afn Try.prog 55=some a55v1.er:=by kernel_rfl
theorem F55v1_ok{x0 b1 r}(h:F55v1 x0 b1=some r):CallD Try.prog 55 [.c (dM (x0.map eOwner)),.c (.fn 38 [(0,0)])] [xb [.mref 1],some (.map (eMs (Value.int .i64) eTState b1))] (tupV [.c (dI r)]) [xb [.mref 1],some (.map (eMs (Value.int .i64) eTState b1))]:=by
 refine callS a55v1_ok (by simp[a55v1]) ?_
 rw[F55v1]at h
 simp only[a55v1,VW.down,Nat.reduceEqDiff,reduceCtorEq,Nat.reduceAdd,Nat.reduceLeDiff,Nat.reduceLT,Nat.reduceBEq,Nat.reduceSub,EE.down]
 obtain⟨o1,ho,h⟩:=bi h
 refine cutS (fun s=>∃po1,o1=Sum.inr po1∧s=⟨[],[xb [.mref 1],some (.map (eMs (Value.int .i64) eTState b1))]⟩) ?_ ?_
 ·have h0o1:=h
  have h:=ho
  clear ho
  obtain⟨_,hk,h⟩:=bi h
  have hk:=ck_some hk
  refine ww ?_
  refine bL (fun j s=>∃(o1_0:Nat),(o1_0≤x0.length∧j=x0.length-o1_0)∧s=⟨[(0,oc (dM (x0.map eOwner))),(1,oc (.fn 38 [(0,0)])),(7,oc (dI ((x0.length:Int)))),(8,oc (dI ((o1_0:Int))))],[xb [.mref 1],some (.map (eMs (Value.int .i64) eTState b1))]⟩∧F55v1_l1 b1 (x0.drop o1_0) o1_0=some o1) (x0.length-0) [some 0,some 1] ⟨0,⟨hk.1,rfl⟩,rfl,h⟩ ?_
  rintro _ _ ⟨o1_0,⟨hi,rfl⟩,rfl,h⟩
  refine ww ?_
  refine condS (fun c2=>?_) (fun c2=>?_)
  ·obtain⟨xo1,hxo1,hd⟩:=countY (show(o1_0:Int)<(x0.length:Int)from c2)
   rw[hd,F55v1_l1]at h
   refine ww ?_
   refine t_idxF (enc:=eOwner) (xs:=x0) rfl rfl hxo1 rfl (ww ?_)
   obtain⟨t3,ht3,h⟩:=bi h
   refine cN [0,1] (F38_ok ht3) ⟨⟨rfl,by simp[Blk.live,C.live,hp]⟩,⟨⟨congrArg some (by first|exact ren_m1.symm|exact ren_ms.symm),(by first|exact entsD_live entsD_1 _|exact entsD_live entsD_s _)⟩,trivial⟩⟩ ?_
   refine ww ?_
   refine condBh h (fun c4 h=>ww ?_) (fun c4 h=>ww ?_)
   ·obtain⟨fh0o1,hfh0o1,rfl⟩:=Option.map_eq_some_iff.1 h
    have h:=hfh0o1.trans h0o1
    cases h
    exact eF [some 0,some 1]
   rw[wrapN (by omega)]
   exact eL' (x0.length-(o1_0+1)) [some 0,some 1] ⟨o1_0+1,⟨by omega,rfl⟩,rfl,h⟩ (by omega)
  rw[countN (show¬((o1_0:Int)<(x0.length:Int))from c2),F55v1_l1]at h
  refine ww ?_
  cases h
  exact eM [some 0,some 1] ⟨_,rfl,rfl⟩
 rintro _ ⟨po1,rfl,rfl⟩
 clear ho
 dsimp only at h
 refine ww ?_
 cases h
 exact eF [some 0,some 1]
def F55v3_l1(b1:List (Int×TState)):List Owner→Nat→Option ((Int) ⊕ (Unit))
 |[],o1_0=>some (Sum.inr (()))
 |xo1::xs,o1_0=>(F40 xo1 b1).bind fun t3=>(if t3=true then(some ((o1_0:Int))).map Sum.inl else F55v3_l1 b1 xs (o1_0+1))
def F55v3(x0:(List Owner))(b1:List (Int×TState)):Option (Int):=(((ck (0≤x0.length∧x0.length≤4294967290)).bind fun u5=>F55v3_l1 b1 x0 0:Option ((Int) ⊕ (Unit))).bind fun o1=>match o1 with|Sum.inl f=>some f|Sum.inr po1=>some ((-1)))
def a55v3:AFn:=⟨19,[(.tmp 4)],
 (.seq (.reg [Qe 4 0])
 (.seq (.seq (.reg [Qa 6 0,
Qh 7 6,
Qe 8 0])
 (.sem (.block 0 (.loop (.seq (.reg [Qn 9 8 7])
 (.seq (.cond (.t 9)
 .skip
 (.exit 0))
 (.seq (.block 1 (.seq (.reg [Qa 10 8,
Qa 5 10])
 (.seq (.reg [Qa 11 1,
Qa 12 0,
Qa 13 5,
Qp 14 5 12 13,
Qc 15 5 14,
zl 16 (.callv (.t 11) [(.t 15)]) [] [12,14]])
 (.cond (.t 16)
 (.seq (.reg [Qa 17 5,
Qa 4 17])
 .ret)
 .skip))))
 (.reg [Qm 18 8 1,
Qa 8 18]))))))))
 (.seq (.reg [sq 4 (.mv (kI (-1)))])
 .ret)))⟩
theorem a55v3_ok:afn Try.prog 55=some a55v3.er:=by kernel_rfl
theorem F55v3_ok{x0 b1 r}(h:F55v3 x0 b1=some r):CallD Try.prog 55 [.c (dM (x0.map eOwner)),.c (.fn 40 [(0,0)])] [xb [.mref 1],some (.map (eMs (Value.int .i64) eTState b1))] (tupV [.c (dI r)]) [xb [.mref 1],some (.map (eMs (Value.int .i64) eTState b1))]:=by
 refine callS a55v3_ok (by simp[a55v3]) ?_
 rw[F55v3]at h
 simp only[a55v3,VW.down,Nat.reduceEqDiff,reduceCtorEq,Nat.reduceAdd,Nat.reduceLeDiff,Nat.reduceLT,Nat.reduceBEq,Nat.reduceSub,EE.down]
 obtain⟨o1,ho,h⟩:=bi h
 refine cutS (fun s=>∃po1,o1=Sum.inr po1∧s=⟨[],[xb [.mref 1],some (.map (eMs (Value.int .i64) eTState b1))]⟩) ?_ ?_
 ·have h0o1:=h
  have h:=ho
  clear ho
  obtain⟨_,hk,h⟩:=bi h
  have hk:=ck_some hk
  refine ww ?_
  refine bL (fun j s=>∃(o1_0:Nat),(o1_0≤x0.length∧j=x0.length-o1_0)∧s=⟨[(0,oc (dM (x0.map eOwner))),(1,oc (.fn 40 [(0,0)])),(7,oc (dI ((x0.length:Int)))),(8,oc (dI ((o1_0:Int))))],[xb [.mref 1],some (.map (eMs (Value.int .i64) eTState b1))]⟩∧F55v3_l1 b1 (x0.drop o1_0) o1_0=some o1) (x0.length-0) [some 0,some 1] ⟨0,⟨hk.1,rfl⟩,rfl,h⟩ ?_
  rintro _ _ ⟨o1_0,⟨hi,rfl⟩,rfl,h⟩
  refine ww ?_
  refine condS (fun c2=>?_) (fun c2=>?_)
  ·obtain⟨xo1,hxo1,hd⟩:=countY (show(o1_0:Int)<(x0.length:Int)from c2)
   rw[hd,F55v3_l1]at h
   refine ww ?_
   refine t_idxF (enc:=eOwner) (xs:=x0) rfl rfl hxo1 rfl (ww ?_)
   obtain⟨t3,ht3,h⟩:=bi h
   refine cN [0,1] (F40_ok ht3) ⟨⟨rfl,by simp[Blk.live,C.live,hp]⟩,⟨⟨congrArg some (by first|exact ren_m1.symm|exact ren_ms.symm),(by first|exact entsD_live entsD_1 _|exact entsD_live entsD_s _)⟩,trivial⟩⟩ ?_
   refine ww ?_
   refine condBh h (fun c4 h=>ww ?_) (fun c4 h=>ww ?_)
   ·obtain⟨fh0o1,hfh0o1,rfl⟩:=Option.map_eq_some_iff.1 h
    have h:=hfh0o1.trans h0o1
    cases h
    exact eF [some 0,some 1]
   rw[wrapN (by omega)]
   exact eL' (x0.length-(o1_0+1)) [some 0,some 1] ⟨o1_0+1,⟨by omega,rfl⟩,rfl,h⟩ (by omega)
  rw[countN (show¬((o1_0:Int)<(x0.length:Int))from c2),F55v3_l1]at h
  refine ww ?_
  cases h
  exact eM [some 0,some 1] ⟨_,rfl,rfl⟩
 rintro _ ⟨po1,rfl,rfl⟩
 clear ho
 dsimp only at h
 refine ww ?_
 cases h
 exact eF [some 0,some 1]
def F43(x0:ByteArray)(x1:ByteArray):Option (Int):=(cmpS x0 x1).bind fun t1=>some t1
def a43:AFn:=⟨8,[(.tmp 4)],
 (.seq (.reg [Qe 4 0])
 (.seq (.reg [Qa 5 0,
Qa 6 1,
Ql 7 58 5 6,
Qa 4 7])
 .ret))⟩
theorem F43_ok{x0 x1 r}(h:F43 x0 x1=some r):CallD Try.prog 43 [.c (dS x0),.c (dS x1)] [] (tupV [.c (dI r)]) []:=by
 rw[F43]at h
 refine zc a43 (by kernel_rfl) rfl (ww ?_)
 obtain⟨t1,ht1,h⟩:=bi h
 refine cN [] (F58_ok ht1) trivial (ww ?_)
 cases h
 exact eF []
end Go.Proofs.Ytdejhahgpojnoaa
