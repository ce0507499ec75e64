/- Each Go function as a function over typed data, and its walk. -/
import Derived.Test.YtedgocbpegllaaaW0
import Derived.Test.YtedgocbpegllaaaW1
import Derived.Test.YtedgocbpegllaaaW2
import Derived.Test.YtedgocbpegllaaaW3
namespace Go.Proofs.Ytedgocbpegllaaa
open Go Go.Fw Go.Shelf
set_option maxRecDepth 100000
set_option maxHeartbeats 4000000
set_option linter.unusedSimpArgs false
set_option linter.unusedVariables false
def F26(x0:Meta):Option (ByteArray):=(F59 x0.Kind x0.Namespace x0.Name).bind fun t1=>some t1
def a26:AFn:=⟨10,[(.tmp 2)],
 (.seq (.reg [Qg 1 0,
sq 2 (.mv (kS ⟨#[]⟩))])
 (.seq (.reg [Qb 3 0 1,
Qd 4 3,
Qb 5 1 1,
Qd 6 5,
Qb 7 2 1,
Qd 8 7,
sq 9 (.call 59 [(.t 4),(.t 6),(.t 8)]),
Qa 2 9])
 .ret))⟩
theorem F26_ok{x0 r}(h:F26 x0=some r):CallD Try.prog 26 [.agg (bMeta x0)] [] (tupV [.c (dS r)]) []:=by
 rw[F26]at h
 refine zc a26 (by kernel_rfl) rfl (ww ?_)
 obtain⟨t1,ht1,h⟩:=bi h
 refine cN [] (F59_ok ht1) trivial (ww ?_)
 cases h
 exact eF []
def F60_l1(b0:ByteArray):List WorkItem→Nat→Option ((Int) ⊕ (Unit))
 |[],o1_0=>some (Sum.inr (()))
 |xo1::xs,o1_0=>(F63 xo1 b0).bind fun t3=>(if xo1.Key=b0 then(some ((o1_0:Int))).map Sum.inl else F60_l1 b0 xs (o1_0+1))
def F60(x0:(List WorkItem))(b0:ByteArray):Option (Int):=(((ck (0≤x0.length∧x0.length≤4294967290)).bind fun u5=>F60_l1 b0 x0 0:Option ((Int) ⊕ (Unit))).bind fun o1=>match o1 with|Sum.inl f=>some f|Sum.inr po1=>some ((-1)))
def a60:AFn:=⟨19,[(.tmp 4)],
 (.seq (.reg [Qe 4 0])
 (.seq (.seq (.reg [Qa 6 0,
Qh 7 6,
Qe 8 0])
 (.sem (.block 0 (.loop (.seq (.reg [Qn 9 8 7])
 (.seq (.cond (.t 9)
 .skip
 (.exit 0))
 (.seq (.block 1 (.seq (.reg [Qa 10 8,
Qa 5 10])
 (.seq (.reg [Qa 11 1,
Qa 12 0,
Qa 13 5,
Qp 14 2 12 13,
Qc 15 2 14,
zl 16 (.callv (.t 11) [(.t 15)]) [] [12,14]])
 (.cond (.t 16)
 (.seq (.reg [Qa 17 5,
Qa 4 17])
 .ret)
 .skip))))
 (.reg [Qm 18 8 1,
Qa 8 18]))))))))
 (.seq (.reg [sq 4 (.mv (kI (-1)))])
 .ret)))⟩
theorem F60_ok{x0 b0 r}(h:F60 x0 b0=some r):CallD Try.prog 60 [.c (dM (x0.map eWorkItem)),.c (.fn 63 [(0,0)])] [xb [dS b0]] (tupV [.c (dI r)]) [xb [dS b0]]:=by
 rw[F60]at h
 refine zc a60 (by kernel_rfl) rfl (ww ?_)
 obtain⟨o1,ho,h⟩:=bi h
 refine cutS (fun s=>∃po1,o1=Sum.inr po1∧s=⟨[],[xb [dS b0]]⟩) ?_ ?_
 ·have h0o1:=h
  have h:=ho
  clear ho
  obtain⟨_,hk,h⟩:=bi h
  have hk:=ck_some hk
  refine ww ?_
  refine bL (fun j s=>∃(o1_0:Nat),(o1_0≤x0.length∧j=x0.length-o1_0)∧s=⟨[(0,oc (dM (x0.map eWorkItem))),(1,oc (.fn 63 [(0,0)])),(7,oc (dI ((x0.length:Int)))),(8,oc (dI ((o1_0:Int))))],[xb [dS b0]]⟩∧F60_l1 b0 (x0.drop o1_0) o1_0=some o1) (x0.length-0) [some 0] ⟨0,⟨hk.1,rfl⟩,rfl,h⟩ ?_
  rintro _ _ ⟨o1_0,⟨hi,rfl⟩,rfl,h⟩
  refine ww ?_
  refine condS (fun c2=>?_) (fun c2=>?_)
  ·obtain⟨xo1,hxo1,hd⟩:=countY (show(o1_0:Int)<(x0.length:Int)from c2)
   rw[hd,F60_l1]at h
   refine ww ?_
   refine t_idxF (enc:=eWorkItem) (xs:=x0) rfl rfl hxo1 rfl (ww ?_)
   obtain⟨t3,ht3,h⟩:=bi h
   refine cN [0] (F63_ok ht3) ⟨⟨rfl,by simp[Blk.live,C.live,hp]⟩,trivial⟩ ?_
   refine ww ?_
   refine condSh h (fun c4 h=>ww ?_) (fun c4 h=>ww ?_)
   ·obtain⟨fh0o1,hfh0o1,rfl⟩:=Option.map_eq_some_iff.1 h
    have h:=hfh0o1.trans h0o1
    cases h
    exact eF [some 0]
   rw[wrapN (by omega)]
   exact eL' (x0.length-(o1_0+1)) [some 0] ⟨o1_0+1,⟨by omega,rfl⟩,rfl,h⟩ (by omega)
  rw[countN (show¬((o1_0:Int)<(x0.length:Int))from c2),F60_l1]at h
  refine ww ?_
  cases h
  exact eM [some 0] ⟨_,rfl,rfl⟩
 rintro _ ⟨po1,rfl,rfl⟩
 clear ho
 dsimp only at h
 refine ww ?_
 cases h
 exact eF [some 0]
def F62(x0:(List WorkItem))(b0:ByteArray):Option (Bool):=(F60 x0 b0).bind fun t1=>some (decide (0≤t1))
def a62:AFn:=⟨9,[(.tmp 4)],
 (.seq (.reg [Qf 4 false])
 (.seq (.reg [Qa 5 0,
Qa 6 1,
Ql 7 60 5 6,
sq 8 (.bin .geq (.t 7) (kI 0)),
Qa 4 8])
 .ret))⟩
theorem F62_ok{x0 b0 r}(h:F62 x0 b0=some r):CallD Try.prog 62 [.c (dM (x0.map eWorkItem)),.c (.fn 63 [(0,0)])] [xb [dS b0]] (tupV [.c (dB r)]) [xb [dS b0]]:=by
 rw[F62]at h
 refine zc a62 (by kernel_rfl) rfl (ww ?_)
 obtain⟨t1,ht1,h⟩:=bi h
 refine cN [0] (F60_ok ht1) ⟨⟨rfl,by simp[Blk.live,C.live,hp]⟩,trivial⟩ ?_
 refine ww ?_
 cases h
 exact eF [some 0]
def F64(x0:Amount)(x1:Int)(x2:Bool):Option (Int):=(F71 x0.N).bind fun t1=>(F71 x1).bind fun t2=>(if(nb x0.Percent)=true then some ((if 1000000000000000<(if x0.N<0 then 0 else x0.N)then 1000000000000000 else(if x0.N<0 then 0 else x0.N)))else(((if 0<(IntKind.i64.wrap (((if 1000000000000000<(if x1<0 then 0 else x1)then 1000000000000000 else(if x1<0 then 0 else x1))).tdiv 100))then(ck ((IntKind.i64.wrap (((if 1000000000000000<(if x1<0 then 0 else x1)then 1000000000000000 else(if x1<0 then 0 else x1))).tdiv 100))≠0)).bind fun u6=>some (decide ((IntKind.i64.wrap ((1000000000000000:Int).tdiv ((IntKind.i64.wrap (((if 1000000000000000<(if x1<0 then 0 else x1)then 1000000000000000 else(if x1<0 then 0 else x1))).tdiv 100)))))<(if 1000000000000000<(if x0.N<0 then 0 else x0.N)then 1000000000000000 else(if x0.N<0 then 0 else x0.N))))else some false)).bind fun o4=>(if o4=true then some 1000000000000000 else(((if x2=true then some ((IntKind.i64.wrap (((IntKind.i64.wrap (((((if 1000000000000000<(if x1<0 then 0 else x1)then 1000000000000000 else(if x1<0 then 0 else x1))).tmod 100))*((if 1000000000000000<(if x0.N<0 then 0 else x0.N)then 1000000000000000 else(if x0.N<0 then 0 else x0.N))))))+99)))else some ((IntKind.i64.wrap (((((if 1000000000000000<(if x1<0 then 0 else x1)then 1000000000000000 else(if x1<0 then 0 else x1))).tmod 100))*((if 1000000000000000<(if x0.N<0 then 0 else x0.N)then 1000000000000000 else(if x0.N<0 then 0 else x0.N)))))))).bind fun o8=>some ((if 1000000000000000<(IntKind.i64.wrap (((IntKind.i64.wrap (((IntKind.i64.wrap (((if 1000000000000000<(if x1<0 then 0 else x1)then 1000000000000000 else(if x1<0 then 0 else x1))).tdiv 100)))*((if 1000000000000000<(if x0.N<0 then 0 else x0.N)then 1000000000000000 else(if x0.N<0 then 0 else x0.N))))))+((IntKind.i64.wrap (o8.tdiv 100)))))then 1000000000000000 else(IntKind.i64.wrap (((IntKind.i64.wrap (((IntKind.i64.wrap (((if 1000000000000000<(if x1<0 then 0 else x1)then 1000000000000000 else(if x1<0 then 0 else x1))).tdiv 100)))*((if 1000000000000000<(if x0.N<0 then 0 else x0.N)then 1000000000000000 else(if x0.N<0 then 0 else x0.N))))))+((IntKind.i64.wrap (o8.tdiv 100)))))))))))
def a64:AFn:=⟨46,[(.tmp 6)],
 (.seq (.reg [Qg 3 0,
Qe 6 0])
 (.seq (.reg [Qb 12 1 3,
Qd 13 12,
Qk 14 71 13,
Qa 15 1,
Qk 16 71 15,
Qa 7 14,
Qa 8 16])
 (.seq (.seq (.reg [Qb 17 0 3,
Qd 18 17,
Qq 19 18])
 (.cond (.t 19)
 (.seq (.reg [Qa 20 7,
Qa 6 20])
 .ret)
 .skip))
 (.seq (.reg [Qa 21 8,
sq 22 (.bin .quo (.t 21) (kI 100)),
Qa 23 8,
sq 24 (.bin .rem (.t 23) (kI 100)),
Qa 9 22,
Qa 10 24])
 (.seq (.seq (.sem (.reg [Qa 25 9,
sq 26 (.bin .gtr (.t 25) (kI 0)),
Qa 27 26,
Qv 28 27 true 7,
Qv 29 27 true 9,
zg 30 27 true (.bin .quo (kI 1000000000000000) (.t 29)),
zg 31 27 true (.bin .gtr (.t 28) (.t 30)),
zl 32 (.pick (.t 27) (.t 31) (kB false)) [] []]))
 (.cond (.t 32)
 (.seq (.reg [Qe 6 1000000000000000])
 .ret)
 .skip))
 (.seq (.reg [Qa 33 10,
Qa 34 7,
sq 35 (.bin .mul (.t 33) (.t 34)),
Qa 11 35])
 (.seq (.sem (.seq (.reg [Qa 36 2])
 (.cond (.t 36)
 (.reg [Qa 37 11,
Qm 38 37 99,
Qa 11 38])
 .skip)))
 (.seq (.reg [Qa 39 9,
Qa 40 7,
sq 41 (.bin .mul (.t 39) (.t 40)),
Qa 42 11,
sq 43 (.bin .quo (.t 42) (kI 100)),
sq 44 (.bin .add (.t 41) (.t 43)),
sq 45 (.min (.t 44) (kI 1000000000000000)),
Qa 6 45])
 .ret))))))))⟩
theorem F64_ok{x0 x1 x2 r}(h:F64 x0 x1 x2=some r):CallD Try.prog 64 [.agg [dB x0.Percent,dI x0.N],.c (dI x1),.c (dB x2)] [] (tupV [.c (dI r)]) []:=by
 rw[F64]at h
 refine zc a64 (by kernel_rfl) rfl (ww ?_)
 obtain⟨t1,ht1,h⟩:=bi h
 refine cN [] (F71_ok ht1) trivial (ww ?_)
 obtain⟨t2,ht2,h⟩:=bi h
 refine cN [] (F71_ok ht2) trivial (ww ?_)
 refine condBh h (fun c3 h=>ww ?_) (fun c3 h=>ww ?_)
 ·cases h
  exact eF []
 refine⟨by omega,?_⟩
 refine ww ?_
 refine⟨by omega,?_⟩
 refine ww ?_
 obtain⟨o4,ho,h⟩:=bi h
 refine cutS (fun s=>s=⟨[(2,oc (dB x2)),(7,oc (dI ((if 1000000000000000<(if x0.N<0 then 0 else x0.N)then 1000000000000000 else(if x0.N<0 then 0 else x0.N))))),(9,oc (dI ((IntKind.i64.wrap (((if 1000000000000000<(if x1<0 then 0 else x1)then 1000000000000000 else(if x1<0 then 0 else x1))).tdiv 100))))),(10,oc (dI ((((if 1000000000000000<(if x1<0 then 0 else x1)then 1000000000000000 else(if x1<0 then 0 else x1))).tmod 100)))),(32,oc (dB o4))],[]⟩) ?_ ?_
 ·have h:=ho
  clear ho
  refine ww ?_
  refine guardSh h (fun g5 h=>ww ?_) (fun g5 h=>ww ?_)
  ·obtain⟨u6,hu6,h⟩:=bi h
   refine⟨ck_some hu6,?_⟩
   refine ww ?_
   cases h
   exact eM [] rfl
  cases h
  exact eM [] rfl
 rintro _ rfl
 clear ho
 refine ww ?_
 refine condBh h (fun c7 h=>ww ?_) (fun c7 h=>ww ?_)
 ·cases h
  exact eF []
 obtain⟨o8,ho,h⟩:=bi h
 refine cutS (fun s=>s=⟨[(7,oc (dI ((if 1000000000000000<(if x0.N<0 then 0 else x0.N)then 1000000000000000 else(if x0.N<0 then 0 else x0.N))))),(9,oc (dI ((IntKind.i64.wrap (((if 1000000000000000<(if x1<0 then 0 else x1)then 1000000000000000 else(if x1<0 then 0 else x1))).tdiv 100))))),(11,oc (dI o8))],[]⟩) ?_ ?_
 ·have h:=ho
  clear ho
  refine ww ?_
  refine condBh h (fun c9 h=>ww ?_) (fun c9 h=>ww ?_)
  ·cases h
   exact eM [] rfl
  cases h
  exact eM [] rfl
 rintro _ rfl
 clear ho
 refine ww ?_
 refine⟨by omega,?_⟩
 refine ww ?_
 cases h
 exact eF []
def F32(x0:Budget):Option (Int):=(if 0<(x0.MinAvailable.length:Int)then(rdI x0.MinAvailable 0).bind fun y2=>(F64 y2 x0.Expected true).bind fun t3=>some t3 else(if 0<(x0.MaxUnavailable.length:Int)then(rdI x0.MaxUnavailable 0).bind fun y5=>(F64 y5 x0.Expected true).bind fun t6=>some ((if(IntKind.i64.wrap (x0.Expected-t6))<0 then 0 else(IntKind.i64.wrap (x0.Expected-t6))))else some 0))
def a32:AFn:=⟨31,[(.tmp 2)],
 (.seq (.reg [Qg 1 0,
Qe 2 0])
 (.seq (.block 0 (.seq (.reg [Qb 4 14 1,
Qd 5 4,
Qh 6 5,
sq 7 (.bin .gtr (.t 6) (kI 0)),
Qa 3 7])
 (.cond (.t 3)
 (.seq (.regd [Qb 8 14 1,
sd 9 (.load none (.t 8)) [0],
sd 10 (.indexA 2 (.t 9) (kI 0)) [0,1],
sd 11 (.load (some 2) (.t 10)) [0,1,2],
Qb 12 19 1,
sd 13 (.load none (.t 12)) [4],
zl 14 (.call 64 [(.t 11),(.t 13),(kB true)]) [0,1,2,3,4,5] [],
sd 2 (.mv (.t 14)) [0,1,2,3,4,5,6]])
 .ret)
 (.seq (.reg [Qb 16 15 1,
Qd 17 16,
Qh 18 17,
sq 19 (.bin .gtr (.t 18) (kI 0)),
Qa 15 19])
 (.cond (.t 15)
 (.seq (.regd [Qb 20 19 1,
sd 21 (.load none (.t 20)) [0],
Qb 22 15 1,
sd 23 (.load none (.t 22)) [2],
sd 24 (.indexA 2 (.t 23) (kI 0)) [2,3],
sd 25 (.load (some 2) (.t 24)) [2,3,4],
Qb 26 19 1,
sd 27 (.load none (.t 26)) [6],
zl 28 (.call 64 [(.t 25),(.t 27),(kB true)]) [2,3,4,5,6,7] [1,20],
sd 29 (.bin .sub (.t 21) (.t 28)) [0,1,2,3,4,5,6,7,8],
sd 30 (.max (.t 29) (kI 0)) [0,1,2,3,4,5,6,7,8,9],
sd 2 (.mv (.t 30)) [0,1,2,3,4,5,6,7,8,9,10]])
 .ret)
 .skip)))))
 (.seq (.reg [Qe 2 0])
 .ret)))⟩
theorem F32_ok{x0 r}(h:F32 x0=some r):CallD Try.prog 32 [.agg (bBudget x0)] [] (tupV [.c (dI r)]) []:=by
 rw[F32]at h
 refine zc a32 (by kernel_rfl) rfl (ww ?_)
 refine condSh h (fun c1 h=>ww ?_) (fun c1 h=>ww ?_)
 ·obtain⟨y2,hy2,h⟩:=bi h
  refine t_idxF (enc:=eAmount) (xs:=x0.MinAvailable) rfl rfl hy2 rfl (ww ?_)
  obtain⟨t3,ht3,h⟩:=bi h
  refine cN [] (F64_ok ht3) trivial (ww ?_)
  cases h
  exact eF []
 refine condSh h (fun c4 h=>ww ?_) (fun c4 h=>ww ?_)
 ·obtain⟨y5,hy5,h⟩:=bi h
  refine t_idxF (enc:=eAmount) (xs:=x0.MaxUnavailable) rfl rfl hy5 rfl (ww ?_)
  obtain⟨t6,ht6,h⟩:=bi h
  refine cN [] (F64_ok ht6) trivial (ww ?_)
  cases h
  exact eF []
 cases h
 exact eF []
def F60v1_l1(b2:Int)(b3:List (ByteArray×Bool))(x0:(List WorkItem)):List WorkItem→Nat→Option ((Int) ⊕ (Unit))
 |[],o1_0=>some (Sum.inr (()))
 |xo1::xs,o1_0=>(rdI x0 ((o1_0:Int))).bind fun y3=>(F28 y3 b2 b3).bind fun t4=>(if t4=true then(some ((o1_0:Int))).map Sum.inl else F60v1_l1 b2 b3 x0 xs (o1_0+1))
def F60v1(x0:(List WorkItem))(b2:Int)(b3:List (ByteArray×Bool)):Option (Int):=(((ck (0≤x0.length∧x0.length≤4294967290)).bind fun u6=>F60v1_l1 b2 b3 x0 x0 0:Option ((Int) ⊕ (Unit))).bind fun o1=>match o1 with|Sum.inl f=>some f|Sum.inr po1=>some ((-1)))
def a60v1:AFn:=⟨19,[(.tmp 4)],
 (.seq (.reg [Qe 4 0])
 (.seq (.seq (.reg [Qa 6 0,
Qh 7 6,
Qe 8 0])
 (.sem (.block 0 (.loop (.seq (.reg [Qn 9 8 7])
 (.seq (.cond (.t 9)
 .skip
 (.exit 0))
 (.seq (.block 1 (.seq (.reg [Qa 10 8,
Qa 5 10])
 (.seq (.reg [Qa 11 1,
Qa 12 0,
Qa 13 5,
Qp 14 2 12 13,
Qc 15 2 14,
zl 16 (.callv (.t 11) [(.t 15)]) [] [12,14]])
 (.cond (.t 16)
 (.seq (.reg [Qa 17 5,
Qa 4 17])
 .ret)
 .skip))))
 (.reg [Qm 18 8 1,
Qa 8 18]))))))))
 (.seq (.reg [sq 4 (.mv (kI (-1)))])
 .ret)))⟩
theorem a60v1_ok:afn Try.prog 60=some a60v1.er:=by kernel_rfl
theorem F60v1_ok{x0 b2 b3 r}{e0:Nat}(h:F60v1 x0 b2 b3=some r):CallD Try.prog 60 [.c (.own 0 e0 0 (x0.length) none),.c (.fn 28 [(1,0),(2,0)])] [some (.arr e0 2 (x0.map eWorkItem)),xb [.mref 3],xb [dI b2],some (.map (eM1 Value.string (fun x=> .v (.bool x)) b3))] (tupV [.c (dI r)]) [some (.arr e0 2 (x0.map eWorkItem)),xb [.mref 3],xb [dI b2],some (.map (eM1 Value.string (fun x=> .v (.bool x)) b3))]:=by
 refine callS a60v1_ok (by simp[a60v1]) ?_
 rw[F60v1]at h
 simp only[a60v1,VW.down,Nat.reduceEqDiff,reduceCtorEq,Nat.reduceAdd,Nat.reduceLeDiff,Nat.reduceLT,Nat.reduceBEq,Nat.reduceSub,EE.down]
 obtain⟨o1,ho,h⟩:=bi h
 refine cutS (fun s=>∃po1,o1=Sum.inr po1∧s=⟨[],[some (.arr e0 2 (x0.map eWorkItem)),xb [.mref 3],xb [dI b2],some (.map (eM1 Value.string (fun x=> .v (.bool x)) b3))]⟩) ?_ ?_
 ·have h0o1:=h
  have h:=ho
  clear ho
  obtain⟨_,hk,h⟩:=bi h
  have hk:=ck_some hk
  refine ww ?_
  refine bL (fun j s=>∃(o1_0:Nat),(o1_0≤x0.length∧j=x0.length-o1_0)∧s=⟨[(0,oc (.own 0 e0 0 (x0.length) none)),(1,oc (.fn 28 [(1,0),(2,0)])),(7,oc (dI ((x0.length:Int)))),(8,oc (dI ((o1_0:Int))))],[some (.arr e0 2 (x0.map eWorkItem)),xb [.mref 3],xb [dI b2],some (.map (eM1 Value.string (fun x=> .v (.bool x)) b3))]⟩∧F60v1_l1 b2 b3 x0 (x0.drop o1_0) o1_0=some o1) (x0.length-0) [some 0,some 1,some 2,some 3] ⟨0,⟨hk.1,rfl⟩,rfl,h⟩ ?_
  rintro _ _ ⟨o1_0,⟨hi,rfl⟩,rfl,h⟩
  refine ww ?_
  refine condS (fun c2=>?_) (fun c2=>?_)
  ·obtain⟨xo1,hxo1,hd⟩:=countY (show(o1_0:Int)<(x0.length:Int)from c2)
   rw[hd,F60v1_l1]at h
   refine ww ?_
   obtain⟨y3,hy3,h⟩:=bi h
   refine t_idxO (enc:=eWorkItem) (xs:=x0) rfl rfl rfl (by first|rfl|simp only[List.length_set]|exact(clrL_len (slI_len (by assumption))).symm) hy3 (ww ?_)
   refine LdRow.rd (rdI_some hy3).2.1 (ww ?_)
   obtain⟨t4,ht4,h⟩:=bi h
   refine cN [1,2,3] (F28_ok ht4) ⟨⟨rfl,by simp[Blk.live,C.live,hp]⟩,⟨⟨rfl,by simp[Blk.live,C.live,hp]⟩,⟨⟨congrArg some (by first|exact ren_m1.symm|exact ren_ms.symm),(by first|exact entsD_live entsD_1 _|exact entsD_live entsD_s _)⟩,trivial⟩⟩⟩ ?_
   refine ww ?_
   refine condBh h (fun c5 h=>ww ?_) (fun c5 h=>ww ?_)
   ·obtain⟨fh0o1,hfh0o1,rfl⟩:=Option.map_eq_some_iff.1 h
    have h:=hfh0o1.trans h0o1
    cases h
    exact eF [some 0,some 1,some 2,some 3]
   rw[wrapN (by omega)]
   exact eL' (x0.length-(o1_0+1)) [some 0,some 1,some 2,some 3] ⟨o1_0+1,⟨by omega,rfl⟩,rfl,h⟩ (by omega)
  rw[countN (show¬((o1_0:Int)<(x0.length:Int))from c2),F60v1_l1]at h
  refine ww ?_
  cases h
  exact eM [some 0,some 1,some 2,some 3] ⟨_,rfl,rfl⟩
 rintro _ ⟨po1,rfl,rfl⟩
 clear ho
 dsimp only at h
 refine ww ?_
 cases h
 exact eF [some 0,some 1,some 2,some 3]
def F27_l3(b2:Int)(b3:List (ByteArray×Bool)):Nat→(List WorkItem)→Int→Int→Option ((List WorkItem)×Int)
 |0,_,_,_=>none
 |k+1,o3_0,o3_1,o3_2=>(if o3_2<(o3_0.length:Int)then(((rdI o3_0 o3_2).bind fun y6=>(F28 y6 b2 b3).bind fun t7=>(if(nb t7)=true then(rdI o3_0 o3_1).bind fun y9=>some (((o3_0.set o3_1.toNat y6),(IntKind.i64.wrap (o3_1+1))))else some ((o3_0,o3_1)))).bind fun o5=>F27_l3 b2 b3 k o5.1 o5.2 ((IntKind.i64.wrap (o3_2+1))))else some ((o3_0,o3_1)))
def F27(x0:(List WorkItem))(b2:Int)(b3:List (ByteArray×Bool)):Option ((List WorkItem)):=(F60v1 x0 b2 b3).bind fun t1=>(if t1=(-1)then some x0 else((F27_l3 b2 b3 1099511627776 x0 t1 ((IntKind.i64.wrap (t1+1)))).bind fun o3=>(slI o3.1 o3.2 ((o3.1.length:Int))).bind fun s10=>(slI ((clrL o3.1 o3.2.toNat s10.length ((⟨(⟨#[]⟩:ByteArray),0⟩:WorkItem)))) 0 o3.2).bind fun s11=>some s11))
def a27:AFn:=⟨42,[(.tmp 4)],
 (.seq (.reg [sq 4 (.mv kN)])
 (.seq (.reg [Qa 8 0,
Qa 9 1,
Ql 10 60 8 9,
Qa 5 10])
 (.seq (.seq (.reg [Qa 11 5,
sq 12 (.bin .eql (.t 11) (kI (-1)))])
 (.cond (.t 12)
 (.seq (.reg [Qa 13 0,
Qa 4 13])
 .ret)
 .skip))
 (.seq (.seq (.reg [Qa 14 5,
Qm 15 14 1,
Qa 6 15])
 (.sem (.block 0 (.loop (.seq (.seq (.reg [Qa 16 6,
Qa 17 0,
Qh 18 17,
Qn 19 16 18])
 (.cond (.t 19)
 .skip
 (.exit 0)))
 (.seq (.sem (.block 1 (.seq (.reg [Qa 22 0,
Qa 23 6,
Qp 24 2 22 23,
Qc 25 2 24,
sq 7 (.zbox [dS ⟨#[]⟩,dI 0]),
su (.store 2 (.t 7) (.t 25))])
 (.seq (.reg [Qa 26 1,
Qc 27 2 7,
sq 28 (.callv (.t 26) [(.t 27)]),
Qq 29 28])
 (.cond (.t 29)
 (.seq (.reg [Qa 30 0,
Qa 31 5,
Qc 32 2 7,
Qp 33 2 30 31,
⟨none,none,.store 2 (.t 33) (.t 32),[],(.lone [7,30])⟩])
 (.reg [Qa 34 5,
Qm 35 34 1,
Qa 5 35]))
 .skip)))))
 (.reg [Qa 20 6,
Qm 21 20 1,
Qa 6 21])))))))
 (.seq (.reg [Qa 36 0,
Qa 37 5,
sq 38 (.slice 2 (.t 36) (some (.t 37)) none none),
⟨none,none,.clear 2 [.v (.string ⟨#[]⟩),.v (.int .i64 0)] (.t 38),[],(.lone [36])⟩])
 (.seq (.reg [Qa 39 0,
Qa 40 5,
sq 41 (.slice 2 (.t 39) none (some (.t 40)) none),
Qa 4 41])
 .ret))))))⟩
theorem F27_ok{x0 b2 b3 r}{e0:Nat}(h:F27 x0 b2 b3=some r):CallD Try.prog 27 [.c (.own 0 e0 0 (x0.length) none),.c (.fn 28 [(1,0),(2,0)])] [some (.arr e0 2 (x0.map eWorkItem)),xb [.mref 3],xb [dI b2],some (.map (eM1 Value.string (fun x=> .v (.bool x)) b3))] (tupV [.c (.own 0 (e0+1) 0 (r.length) none)]) [some (.arr (e0+1) 2 (r.map eWorkItem)),xb [.mref 3],xb [dI b2],some (.map (eM1 Value.string (fun x=> .v (.bool x)) b3))]:=by
 rw[F27]at h
 refine zc a27 (by kernel_rfl) rfl (ww ?_)
 obtain⟨t1,ht1,h⟩:=bi h
 refine cN [0,1,2,3] (F60v1_ok (e0:=e0) ht1) ⟨⟨rfl,trivial⟩,⟨⟨rfl,by simp[Blk.live,C.live,hp]⟩,⟨⟨rfl,by simp[Blk.live,C.live,hp]⟩,⟨⟨congrArg some (by first|exact ren_m1.symm|exact ren_ms.symm),(by first|exact entsD_live entsD_1 _|exact entsD_live entsD_s _)⟩,trivial⟩⟩⟩⟩ ?_
 refine ww ?_
 refine condSh h (fun c2 h=>ww ?_) (fun c2 h=>ww ?_)
 ·cases h
  exact eF [some 0,some 1,some 2,some 3]
 obtain⟨o3,ho,h⟩:=bi h
 refine cutS (fun s=>s=⟨[(0,oc (.own 0 e0 0 (o3.1.length) none)),(5,oc (dI o3.2))],[some (.arr e0 2 (o3.1.map eWorkItem)),xb [.mref 3],xb [dI b2],some (.map (eM1 Value.string (fun x=> .v (.bool x)) b3))]⟩) ?_ ?_
 ·have h:=ho
  clear ho
  refine ww ?_
  refine bL (fun j s=>∃(o3_0:List WorkItem) (o3_1:Int) (o3_2:Int),s=⟨[(0,oc (.own 0 e0 0 (o3_0.length) none)),(1,oc (.fn 28 [(1,0),(2,0)])),(5,oc (dI o3_1)),(6,oc (dI o3_2))],[some (.arr e0 2 (o3_0.map eWorkItem)),xb [.mref 3],xb [dI b2],some (.map (eM1 Value.string (fun x=> .v (.bool x)) b3))]⟩∧F27_l3 b2 b3 j o3_0 o3_1 o3_2=some o3) 1099511627776 [some 0,some 1,some 2,some 3] ⟨x0,t1,(IntKind.i64.wrap (t1+1)),rfl,h⟩ ?_
  rintro j _ ⟨o3_0,o3_1,o3_2,rfl,h⟩
  cases j with
  |zero=>cases(show(none:Option _)=some _ from h)
  |succ j=>
   rw[F27_l3]at h
   refine ww ?_
   refine condSh h (fun c4 h=>ww ?_) (fun c4 h=>?_)
   ·obtain⟨o5,ho,h⟩:=bi h
    refine cutS (fun s=>s=⟨[(0,oc (.own 0 e0 0 (o5.1.length) none)),(1,oc (.fn 28 [(1,0),(2,0)])),(5,oc (dI o5.2)),(6,oc (dI o3_2))],[some (.arr e0 2 (o5.1.map eWorkItem)),xb [.mref 3],xb [dI b2],some (.map (eM1 Value.string (fun x=> .v (.bool x)) b3))]⟩) ?_ ?_
    ·have h:=ho
     clear ho
     refine ww ?_
     obtain⟨y6,hy6,h⟩:=bi h
     refine t_idxO (enc:=eWorkItem) (xs:=o3_0) rfl rfl rfl (by first|rfl|simp only[List.length_set]|exact(clrL_len (slI_len (by assumption))).symm) hy6 (ww ?_)
     refine LdRow.rd (rdI_some hy6).2.1 (ww ?_)
     obtain⟨t7,ht7,h⟩:=bi h
     refine cN [1,2,3] (F28_ok ht7) ⟨⟨rfl,by simp[Blk.live,C.live,hp]⟩,⟨⟨rfl,by simp[Blk.live,C.live,hp]⟩,⟨⟨congrArg some (by first|exact ren_m1.symm|exact ren_ms.symm),(by first|exact entsD_live entsD_1 _|exact entsD_live entsD_s _)⟩,trivial⟩⟩⟩ ?_
     refine ww ?_
     refine condBh h (fun c8 h=>ww ?_) (fun c8 h=>?_)
     ·obtain⟨y9,hy9,h⟩:=bi h
      refine t_idxO (enc:=eWorkItem) (xs:=o3_0) rfl rfl rfl (by first|rfl|simp only[List.length_set]|exact(clrL_len (slI_len (by assumption))).symm) hy9 (ww ?_)
      refine StRow.rd (y':=y6) (rdI_some hy9).2.1 (by simp[EE.down]) (by first|rfl|(simp only[bor_full'];rfl)) (ww ?_)
      cases h
      exact eM [some 0,some 1,some 2,some 3] rfl
     ·refine ww ?_
      cases h
      exact eM [some 0,some 1,some 2,some 3] rfl
    ·rintro _ rfl
     clear ho
     refine ww ?_
     exact eL' j [some 0,some 1,some 2,some 3] ⟨o5.1,o5.2,(IntKind.i64.wrap (o3_2+1)),rfl,h⟩ (Nat.lt_succ_self _)
   ·refine ww ?_
    cases h
    exact eM [some 0,some 1,some 2,some 3] rfl
 rintro _ rfl
 clear ho
 refine ww ?_
 obtain⟨s10,hs10,h⟩:=bi h
 refine t_sliceO (enc:=eWorkItem) (xs:=o3.1) rfl rfl (by first|rfl|simp only[List.length_set]|exact(clrL_len (slI_len (by assumption))).symm) rfl (by first|rfl|simp only[intV,List.length_set]) hs10 (ww ?_)
 refine t_clear (enc:=eWorkItem) (xs:=o3.1) (z:=(⟨(⟨#[]⟩:ByteArray),0⟩:WorkItem)) rfl rfl rfl (Nat.le_trans (Nat.le_add_right _ _) (slI_len hs10)) (ww ?_)
 obtain⟨s11,hs11,h⟩:=bi h
 refine t_sliceO (enc:=eWorkItem) (xs:=((clrL o3.1 o3.2.toNat s10.length ((⟨(⟨#[]⟩:ByteArray),0⟩:WorkItem))))) rfl rfl (by first|rfl|simp only[List.length_set]|exact(clrL_len (slI_len (by assumption))).symm) rfl (by first|rfl|simp only[intV,List.length_set]) hs11 (ww ?_)
 cases h
 exact eF [some 0,some 1,some 2,some 3] (hB:=by simp only[ZZ.down,Nat.reduceEqDiff,reduceCtorEq,Nat.reduceAdd,Nat.reduceLeDiff,Nat.reduceLT,Nat.reduceBNe,EE.down,slI_pre hs11,slI_frz0 hs11,slI_le0 hs11]) (hs:=by simp only[ZZ.down,Nat.reduceEqDiff,reduceCtorEq,Nat.reduceAdd,Nat.reduceLeDiff,Nat.reduceLT,Nat.reduceBNe,EE.down,slI_pre hs11,slI_frz0 hs11,slI_le0 hs11])
def F41(x0:Pod)(b0:ByteArray):Option (Bool):=(F26 x0.Meta).bind fun t1=>some (decide (t1=b0))
def a41:AFn:=⟨9,[(.tmp 3)],
 (.seq (.reg [Qg 2 0,
Qf 3 false])
 (.seq (.regd [Qb 4 0 2,
sd 5 (.load (some 13) (.t 4)) [0],
zn 6 (.call 26 [(.t 5)]) [0,1] [0,1],
Qd 7 1,
sd 8 (.bin .eql (.t 6) (.t 7)) [0,1,2,3],
sd 3 (.mv (.t 8)) [0,1,2,3,4]])
 .ret))⟩
theorem F41_ok{x0 b0 r}(h:F41 x0 b0=some r):CallD Try.prog 41 [.agg (bPod x0),.c (.pt 0 0)] [xb [dS b0]] (tupV [.c (dB r)]) [xb [dS b0]]:=by
 rw[F41]at h
 refine zc a41 (by kernel_rfl) rfl (ww ?_)
 obtain⟨t1,ht1,h⟩:=bi h
 refine cN [] (F26_ok ht1) trivial (ww ?_)
 cases h
 exact eF [some 0]
def F66(x0:ByteArray)(x1:ByteArray):Option (Int):=(cmpS x0 x1).bind fun t1=>some t1
def a66:AFn:=⟨8,[(.tmp 4)],
 (.seq (.reg [Qe 4 0])
 (.seq (.reg [Qa 5 0,
Qa 6 1,
Ql 7 73 5 6,
Qa 4 7])
 .ret))⟩
theorem F66_ok{x0 x1 r}(h:F66 x0 x1=some r):CallD Try.prog 66 [.c (dS x0),.c (dS x1)] [] (tupV [.c (dI r)]) []:=by
 rw[F66]at h
 refine zc a66 (by kernel_rfl) rfl (ww ?_)
 obtain⟨t1,ht1,h⟩:=bi h
 refine cN [] (F73_ok ht1) trivial (ww ?_)
 cases h
 exact eF []
def F45(x0:ByteArray)(x1:ByteArray):Option (Int):=(F66 x0 x1).bind fun t1=>some t1
def a45:AFn:=⟨8,[(.tmp 4)],
 (.seq (.reg [Qe 4 0])
 (.seq (.reg [Qa 5 0,
Qa 6 1,
Ql 7 66 5 6,
Qa 4 7])
 .ret))⟩
theorem F45_ok{x0 x1 r}(h:F45 x0 x1=some r):CallD Try.prog 45 [.c (dS x0),.c (dS x1)] [] (tupV [.c (dI r)]) []:=by
 rw[F45]at h
 refine zc a45 (by kernel_rfl) rfl (ww ?_)
 obtain⟨t1,ht1,h⟩:=bi h
 refine cN [] (F66_ok ht1) trivial (ww ?_)
 cases h
 exact eF []
theorem a46_ok:afn Try.prog 46=some (insertA 2 24 [.v (.string ⟨#[]⟩),.v (.int .i64 0)] 67 68):=by kernel_rfl
theorem F46_ok{x0 r:List WorkItem}{i:Int}{x:WorkItem}{e0 e1:Nat}(h:insI x0 i x=some r):CallD Try.prog 46 [.c (.own 0 e0 0 x0.length none),aI i,.c (.own 1 e1 0 [x].length none)] [some (.arr e0 2 (x0.map eWorkItem)),some (.arr e1 2 ([x].map eWorkItem))] (tupV [.c (.own 0 (e0+1) 0 r.length none)]) [some (.arr (e0+1) 2 (r.map eWorkItem)),some (.arr e1 2 ([x].map eWorkItem))]:=L_insert a46_ok ov67 (fun _=>rfl) h
def F72(x0:Requirement)(x1:(List Label)):Option (Bool):=(F77 x1 x0.Key).bind fun t1=>(if x0.Op=1 then(((if t1.2=true then(F78 x0.Values t1.1).bind fun t5=>some t5 else some false)).bind fun o3=>some o3)else(if x0.Op=2 then(((if(nb t1.2)=true then some true else(F78 x0.Values t1.1).bind fun t9=>some (nb t9))).bind fun o7=>some o7)else(((if x0.Op=3 then(if t1.2=true then some true else(if x0.Op=4 then some (nb t1.2)else some false))else(if x0.Op=4 then some (nb t1.2)else some false))).bind fun o10=>some o10)))
def a72:AFn:=⟨51,[(.tmp 4)],
 (.seq (.reg [Qg 2 0,
Qf 4 false])
 (.seq (.reg [Qa 8 1,
Qb 9 0 2,
Qd 10 9,
Ql 11 77 8 10,
Qa 7 11,
Qo 12 7 0,
Qo 13 7 1,
Qa 5 12,
Qa 6 13])
 (.seq (.seq (.reg [Qb 14 1 2,
Qd 15 14,
Qr 16 15 1])
 (.cond (.t 16)
 (.seq (.sem (.reg [Qa 17 6,
Qa 18 17,
Qs 19 18 true 2 2,
Qt 20 18 true 19,
Qv 21 18 true 5,
zg 22 18 true (.call 78 [(.t 20),(.t 21)]),
Qi 23 18 22,
Qa 4 23]))
 .ret)
 .skip))
 (.seq (.seq (.reg [Qb 24 1 2,
Qd 25 24,
Qr 26 25 2])
 (.cond (.t 26)
 (.seq (.sem (.reg [Qa 27 6,
Qq 28 27,
Qa 29 28,
Qs 30 29 false 2 2,
Qt 31 29 false 30,
Qv 32 29 false 5,
zg 33 29 false (.call 78 [(.t 31),(.t 32)]),
zg 34 29 false (.not (.t 33)),
Qj 35 29 34,
Qa 4 35]))
 .ret)
 .skip))
 (.seq (.sem (.reg [Qb 36 1 2,
Qd 37 36,
Qr 38 37 3,
Qa 39 38,
Qv 40 39 true 6,
Qi 41 39 40,
Qa 42 41,
Qs 43 42 false 1 2,
Qt 44 42 false 43,
zg 45 42 false (.bin .eql (.t 44) (kI 4)),
Qv 46 42 false 45,
Qv 47 46 true 6,
zg 48 46 true (.not (.t 47)),
zg 49 42 false (.pick (.t 46) (.t 48) (kB false)),
Qj 50 42 49,
Qa 4 50]))
 .ret)))))⟩
theorem F72_ok{x0 x1 r}(h:F72 x0 x1=some r):CallD Try.prog 72 [.agg (bRequirement x0),.c (dM (x1.map eLabel))] [] (tupV [.c (dB r)]) []:=by
 rw[F72]at h
 refine zc a72 (by kernel_rfl) rfl (ww ?_)
 obtain⟨t1,ht1,h⟩:=bi h
 refine cN [] (F77_ok ht1) trivial (ww ?_)
 refine condSh h (fun c2 h=>ww ?_) (fun c2 h=>ww ?_)
 ·obtain⟨o3,ho,h⟩:=bi h
  refine cutS (fun s=>s=⟨[(4,oc (dB o3))],[]⟩) ?_ ?_
  ·have h:=ho
   clear ho
   refine ww ?_
   refine guardSBh h (fun g4 h=>ww ?_) (fun g4 h=>ww ?_)
   ·obtain⟨t5,ht5,h⟩:=bi h
    refine cN [] (F78_ok ht5) trivial (ww ?_)
    cases h
    exact eM [] rfl
   cases h
   exact eM [] rfl
  rintro _ rfl
  clear ho
  refine ww ?_
  cases h
  exact eF []
 refine condSh h (fun c6 h=>ww ?_) (fun c6 h=>ww ?_)
 ·obtain⟨o7,ho,h⟩:=bi h
  refine cutS (fun s=>s=⟨[(4,oc (dB o7))],[]⟩) ?_ ?_
  ·have h:=ho
   clear ho
   refine ww ?_
   refine guardSBh h (fun g8 h=>ww ?_) (fun g8 h=>ww ?_)
   ·cases h
    exact eM [] rfl
   obtain⟨t9,ht9,h⟩:=bi h
   refine cN [] (F78_ok ht9) trivial (ww ?_)
   cases h
   exact eM [] rfl
  rintro _ rfl
  clear ho
  refine ww ?_
  cases h
  exact eF []
 obtain⟨o10,ho,h⟩:=bi h
 refine cutS (fun s=>s=⟨[(4,oc (dB o10))],[]⟩) ?_ ?_
 ·have h:=ho
  clear ho
  refine ww ?_
  refine guardSh h (fun g11 h=>ww ?_) (fun g11 h=>ww ?_)
  ·refine guardSBh h (fun g12 h=>ww ?_) (fun g12 h=>ww ?_)
   ·cases h
    exact eM [] rfl
   refine guardSh h (fun g13 h=>ww ?_) (fun g13 h=>ww ?_)
   ·cases h
    exact eM [] rfl
   cases h
   exact eM [] rfl
  refine guardSh h (fun g14 h=>ww ?_) (fun g14 h=>ww ?_)
  ·cases h
   exact eM [] rfl
  cases h
  exact eM [] rfl
 rintro _ rfl
 clear ho
 refine ww ?_
 cases h
 exact eF []
def F65_l1(x1:(List Label)):List Requirement→Nat→Option ((Bool) ⊕ (Unit))
 |[],o1_0=>some (Sum.inr (()))
 |xo1::xs,o1_0=>(F72 xo1 x1).bind fun t3=>(if(nb t3)=true then(some false).map Sum.inl else F65_l1 x1 xs (o1_0+1))
def F65(x0:(List Requirement))(x1:(List Label)):Option (Bool):=(((ck (0≤x0.length∧x0.length≤4294967290)).bind fun u5=>F65_l1 x1 x0 0:Option ((Bool) ⊕ (Unit))).bind fun o1=>match o1 with|Sum.inl f=>some f|Sum.inr po1=>some true)
def a65:AFn:=⟨19,[(.tmp 4)],
 (.seq (.reg [Qf 4 false])
 (.seq (.seq (.reg [Qe 5 0])
 (.sem (.block 0 (.loop (.seq (.seq (.reg [Qa 6 5,
Qa 7 0,
Qh 8 7,
Qn 9 6 8])
 (.cond (.t 9)
 .skip
 (.exit 0)))
 (.seq (.block 1 (.seq (.reg [Qa 12 0,
Qa 13 5,
Qp 14 3 12 13,
Qc 15 3 14,
Qa 16 1,
Ql 17 72 15 16,
Qq 18 17])
 (.cond (.t 18)
 (.seq (.reg [Qf 4 false])
 .ret)
 .skip)))
 (.reg [Qa 10 5,
Qm 11 10 1,
Qa 5 11])))))))
 (.seq (.reg [Qf 4 true])
 .ret)))⟩
theorem F65_ok{x0 x1 r}(h:F65 x0 x1=some r):CallD Try.prog 65 [.c (dM (x0.map eRequirement)),.c (dM (x1.map eLabel))] [] (tupV [.c (dB r)]) []:=by
 rw[F65]at h
 refine zc a65 (by kernel_rfl) rfl (ww ?_)
 obtain⟨o1,ho,h⟩:=bi h
 refine cutS (fun s=>∃po1,o1=Sum.inr po1∧s=⟨[],[]⟩) ?_ ?_
 ·have h0o1:=h
  have h:=ho
  clear ho
  obtain⟨_,hk,h⟩:=bi h
  have hk:=ck_some hk
  refine ww ?_
  refine bL (fun j s=>∃(o1_0:Nat),(o1_0≤x0.length∧j=x0.length-o1_0)∧s=⟨[(0,oc (dM (x0.map eRequirement))),(1,oc (dM (x1.map eLabel))),(5,oc (dI ((o1_0:Int))))],[]⟩∧F65_l1 x1 (x0.drop o1_0) o1_0=some o1) (x0.length-0) [] ⟨0,⟨hk.1,rfl⟩,rfl,h⟩ ?_
  rintro _ _ ⟨o1_0,⟨hi,rfl⟩,rfl,h⟩
  refine ww ?_
  refine condS (fun c2=>?_) (fun c2=>?_)
  ·obtain⟨xo1,hxo1,hd⟩:=countY (show(o1_0:Int)<(x0.length:Int)from c2)
   rw[hd,F65_l1]at h
   refine ww ?_
   refine t_idxF (enc:=eRequirement) (xs:=x0) rfl rfl hxo1 rfl (ww ?_)
   obtain⟨t3,ht3,h⟩:=bi h
   refine cN [] (F72_ok ht3) trivial (ww ?_)
   refine condBh h (fun c4 h=>ww ?_) (fun c4 h=>ww ?_)
   ·obtain⟨fh0o1,hfh0o1,rfl⟩:=Option.map_eq_some_iff.1 h
    have h:=hfh0o1.trans h0o1
    cases h
    exact eF []
   rw[wrapN (by omega)]
   exact eL' (x0.length-(o1_0+1)) [] ⟨o1_0+1,⟨by omega,rfl⟩,rfl,h⟩ (by omega)
  rw[countN (show¬((o1_0:Int)<(x0.length:Int))from c2),F65_l1]at h
  refine ww ?_
  cases h
  exact eM [] ⟨_,rfl,rfl⟩
 rintro _ ⟨po1,rfl,rfl⟩
 clear ho
 dsimp only at h
 refine ww ?_
 cases h
 exact eF []
def F36(x0:Pod):Option (Bool):=(((F47 x0).bind fun t2=>(if t2=true then some x0.Status.Ready else some false)).bind fun o1=>some o1)
def a36:AFn:=⟨10,[(.tmp 2)],
 (.seq (.reg [Qg 1 0,
Qf 2 false])
 (.seq (.sem (.reg [Qc 3 32 1,
Qk 4 47 3,
Qa 5 4,
Qs 6 5 true 23 1,
Qs 7 5 true 1 6,
Qt 8 5 true 7,
Qi 9 5 8,
Qa 2 9]))
 .ret))⟩
theorem F36_ok{x0 r}(h:F36 x0=some r):CallD Try.prog 36 [.agg (bPod x0)] [] (tupV [.c (dB r)]) []:=by
 rw[F36]at h
 refine zc a36 (by kernel_rfl) rfl (ww ?_)
 obtain⟨o1,ho,h⟩:=bi h
 refine cutS (fun s=>s=⟨[(2,oc (dB o1))],[]⟩) ?_ ?_
 ·have h:=ho
  clear ho
  refine ww ?_
  obtain⟨t2,ht2,h⟩:=bi h
  refine cN [] (F47_ok ht2) trivial (ww ?_)
  refine guardSBh h (fun g3 h=>ww ?_) (fun g3 h=>ww ?_)
  ·cases h
   exact eM [] rfl
  cases h
  exact eM [] rfl
 rintro _ rfl
 clear ho
 refine ww ?_
 cases h
 exact eF []
end Go.Proofs.Ytedgocbpegllaaa
