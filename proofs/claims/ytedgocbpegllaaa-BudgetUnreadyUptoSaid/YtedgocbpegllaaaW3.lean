/- Each Go function as a function over typed data, and its walk. -/
import Derived.Test.YtedgocbpegllaaaW0
namespace Go.Proofs.Ytedgocbpegllaaa
open Go Go.Fw Go.Shelf
set_option maxRecDepth 100000
set_option maxHeartbeats 4000000
set_option linter.unusedSimpArgs false
set_option linter.unusedVariables false
def F59(x0:ByteArray)(x1:ByteArray)(x2:ByteArray):Option (ByteArray):=(catI x0 ((⟨#[47]⟩:ByteArray))).bind fun s1=>(catI s1 x1).bind fun s2=>(catI s2 ((⟨#[47]⟩:ByteArray))).bind fun s3=>(catI s3 x2).bind fun s4=>some s4
def a59:AFn:=⟨14,[(.tmp 6)],
 (.seq (.reg [sq 6 (.mv (kS ⟨#[]⟩))])
 (.seq (.reg [Qa 7 0,
sq 8 (.bin .add (.t 7) (kS ⟨#[47]⟩)),
Qa 9 1,
sq 10 (.bin .add (.t 8) (.t 9)),
sq 11 (.bin .add (.t 10) (kS ⟨#[47]⟩)),
Qa 12 2,
sq 13 (.bin .add (.t 11) (.t 12)),
Qa 6 13])
 .ret))⟩
theorem F59_ok{x0 x1 x2 r}(h:F59 x0 x1 x2=some r):CallD Try.prog 59 [.c (dS x0),.c (dS x1),.c (dS x2)] [] (tupV [.c (dS r)]) []:=by
 rw[F59]at h
 refine zc a59 (by kernel_rfl) rfl (ww ?_)
 obtain⟨s1,hs1,h⟩:=bi h
 obtain⟨hle,es1⟩:=cat_some hs1
 refine⟨hle,?_⟩
 first|rw[←es1]|subst es1
 refine ww ?_
 obtain⟨s2,hs2,h⟩:=bi h
 obtain⟨hle,es2⟩:=cat_some hs2
 refine⟨hle,?_⟩
 first|rw[←es2]|subst es2
 refine ww ?_
 obtain⟨s3,hs3,h⟩:=bi h
 obtain⟨hle,es3⟩:=cat_some hs3
 refine⟨hle,?_⟩
 first|rw[←es3]|subst es3
 refine ww ?_
 obtain⟨s4,hs4,h⟩:=bi h
 obtain⟨hle,es4⟩:=cat_some hs4
 refine⟨hle,?_⟩
 first|rw[←es4]|subst es4
 refine ww ?_
 cases h
 exact eF []
def F26(x0:Meta):Option (ByteArray):=(F59 x0.Kind x0.Namespace x0.Name).bind fun t1=>some t1
def a26:AFn:=⟨10,[(.tmp 2)],
 (.seq (.reg [Qg 1 0,
sq 2 (.mv (kS ⟨#[]⟩))])
 (.seq (.reg [Qb 3 0 1,
Qd 4 3,
Qb 5 1 1,
Qd 6 5,
Qb 7 2 1,
Qd 8 7,
sq 9 (.call 59 [(.t 4),(.t 6),(.t 8)]),
Qa 2 9])
 .ret))⟩
theorem F26_ok{x0 r}(h:F26 x0=some r):CallD Try.prog 26 [.agg (bMeta x0)] [] (tupV [.c (dS r)]) []:=by
 rw[F26]at h
 refine zc a26 (by kernel_rfl) rfl (ww ?_)
 obtain⟨t1,ht1,h⟩:=bi h
 refine cN [] (F59_ok ht1) trivial (ww ?_)
 cases h
 exact eF []
def F80_l1(x1:ByteArray):List ByteArray→Nat→Option ((Int) ⊕ (Unit))
 |[],o1_0=>some (Sum.inr (()))
 |xo1::xs,o1_0=>(if x1=xo1 then(some ((o1_0:Int))).map Sum.inl else F80_l1 x1 xs (o1_0+1))
def F80(x0:(List ByteArray))(x1:ByteArray):Option (Int):=(((ck (0≤x0.length∧x0.length≤4294967290)).bind fun u4=>F80_l1 x1 x0 0:Option ((Int) ⊕ (Unit))).bind fun o1=>match o1 with|Sum.inl f=>some f|Sum.inr po1=>some ((-1)))
def a80:AFn:=⟨19,[(.tmp 4)],
 (.seq (.reg [Qe 4 0])
 (.seq (.seq (.reg [Qa 6 0,
Qh 7 6,
Qe 8 0])
 (.sem (.block 0 (.loop (.seq (.reg [Qn 9 8 7])
 (.seq (.cond (.t 9)
 .skip
 (.exit 0))
 (.seq (.block 1 (.seq (.reg [Qa 10 8,
Qa 5 10])
 (.seq (.reg [Qa 11 1,
Qa 12 0,
Qa 13 5,
Qp 14 1 12 13,
Qd 15 14,
sq 16 (.bin .eql (.t 11) (.t 15))])
 (.cond (.t 16)
 (.seq (.reg [Qa 17 5,
Qa 4 17])
 .ret)
 .skip))))
 (.reg [Qm 18 8 1,
Qa 8 18]))))))))
 (.seq (.reg [sq 4 (.mv (kI (-1)))])
 .ret)))⟩
theorem F80_ok{x0 x1 r}(h:F80 x0 x1=some r):CallD Try.prog 80 [.c (dM (x0.map eS)),.c (dS x1)] [] (tupV [.c (dI r)]) []:=by
 rw[F80]at h
 refine zc a80 (by kernel_rfl) rfl (ww ?_)
 obtain⟨o1,ho,h⟩:=bi h
 refine cutS (fun s=>∃po1,o1=Sum.inr po1∧s=⟨[],[]⟩) ?_ ?_
 ·have h0o1:=h
  have h:=ho
  clear ho
  obtain⟨_,hk,h⟩:=bi h
  have hk:=ck_some hk
  refine ww ?_
  refine bL (fun j s=>∃(o1_0:Nat),(o1_0≤x0.length∧j=x0.length-o1_0)∧s=⟨[(0,oc (dM (x0.map eS))),(1,oc (dS x1)),(7,oc (dI ((x0.length:Int)))),(8,oc (dI ((o1_0:Int))))],[]⟩∧F80_l1 x1 (x0.drop o1_0) o1_0=some o1) (x0.length-0) [] ⟨0,⟨hk.1,rfl⟩,rfl,h⟩ ?_
  rintro _ _ ⟨o1_0,⟨hi,rfl⟩,rfl,h⟩
  refine ww ?_
  refine condS (fun c2=>?_) (fun c2=>?_)
  ·obtain⟨xo1,hxo1,hd⟩:=countY (show(o1_0:Int)<(x0.length:Int)from c2)
   rw[hd,F80_l1]at h
   refine ww ?_
   refine t_idxF (enc:=eS) (xs:=x0) rfl rfl hxo1 rfl (ww ?_)
   refine condSh h (fun c3 h=>ww ?_) (fun c3 h=>ww ?_)
   ·obtain⟨fh0o1,hfh0o1,rfl⟩:=Option.map_eq_some_iff.1 h
    have h:=hfh0o1.trans h0o1
    cases h
    exact eF []
   rw[wrapN (by omega)]
   exact eL' (x0.length-(o1_0+1)) [] ⟨o1_0+1,⟨by omega,rfl⟩,rfl,h⟩ (by omega)
  rw[countN (show¬((o1_0:Int)<(x0.length:Int))from c2),F80_l1]at h
  refine ww ?_
  cases h
  exact eM [] ⟨_,rfl,rfl⟩
 rintro _ ⟨po1,rfl,rfl⟩
 clear ho
 dsimp only at h
 refine ww ?_
 cases h
 exact eF []
def F76(x0:(List ByteArray))(x1:ByteArray):Option (Bool):=(F80 x0 x1).bind fun t1=>some (decide (0≤t1))
def a76:AFn:=⟨9,[(.tmp 4)],
 (.seq (.reg [Qf 4 false])
 (.seq (.reg [Qa 5 0,
Qa 6 1,
Ql 7 80 5 6,
sq 8 (.bin .geq (.t 7) (kI 0)),
Qa 4 8])
 .ret))⟩
theorem F76_ok{x0 x1 r}(h:F76 x0 x1=some r):CallD Try.prog 76 [.c (dM (x0.map eS)),.c (dS x1)] [] (tupV [.c (dB r)]) []:=by
 rw[F76]at h
 refine zc a76 (by kernel_rfl) rfl (ww ?_)
 obtain⟨t1,ht1,h⟩:=bi h
 refine cN [] (F80_ok ht1) trivial (ww ?_)
 cases h
 exact eF []
def F42(x0:Pod):Option (Bool):=(((if x0.Status.Phase=0 then some (nb x0.Meta.Deleting)else(if x0.Status.Phase=1 then some (nb x0.Meta.Deleting)else some false))).bind fun o1=>some o1)
def a42:AFn:=⟨19,[(.tmp 2)],
 (.seq (.reg [Qg 1 0,
Qf 2 false])
 (.seq (.sem (.reg [Qb 3 23 1,
Qb 4 0 3,
Qd 5 4,
Qr 6 5 0,
Qa 7 6,
Qs 8 7 false 23 1,
Qs 9 7 false 0 8,
Qt 10 7 false 9,
zg 11 7 false (.bin .eql (.t 10) (kI 1)),
Qj 12 7 11,
Qa 13 12,
Qs 14 13 true 0 1,
Qs 15 13 true 7 14,
Qt 16 13 true 15,
zg 17 13 true (.not (.t 16)),
Qi 18 13 17,
Qa 2 18]))
 .ret))⟩
theorem F42_ok{x0 r}(h:F42 x0=some r):CallD Try.prog 42 [.agg (bPod x0)] [] (tupV [.c (dB r)]) []:=by
 rw[F42]at h
 refine zc a42 (by kernel_rfl) rfl (ww ?_)
 obtain⟨o1,ho,h⟩:=bi h
 refine cutS (fun s=>s=⟨[(2,oc (dB o1))],[]⟩) ?_ ?_
 ·have h:=ho
  clear ho
  refine ww ?_
  refine guardSh h (fun g2 h=>ww ?_) (fun g2 h=>ww ?_)
  ·cases h
   exact eM [] rfl
  refine guardSh h (fun g3 h=>ww ?_) (fun g3 h=>ww ?_)
  ·cases h
   exact eM [] rfl
  cases h
  exact eM [] rfl
 rintro _ rfl
 clear ho
 refine ww ?_
 cases h
 exact eF []
def F30(x0:Pod):Option (Bool):=(((if x0.Status.Ready=true then(F42 x0).bind fun t3=>some t3 else some false)).bind fun o1=>some o1)
def a30:AFn:=⟨10,[(.tmp 2)],
 (.seq (.reg [Qg 1 0,
Qf 2 false])
 (.seq (.sem (.reg [Qb 3 23 1,
Qb 4 1 3,
Qd 5 4,
Qa 6 5,
Qu 7 6 true 32 1,
zg 8 6 true (.call 42 [(.t 7)]),
Qi 9 6 8,
Qa 2 9]))
 .ret))⟩
theorem F30_ok{x0 r}(h:F30 x0=some r):CallD Try.prog 30 [.agg (bPod x0)] [] (tupV [.c (dB r)]) []:=by
 rw[F30]at h
 refine zc a30 (by kernel_rfl) rfl (ww ?_)
 obtain⟨o1,ho,h⟩:=bi h
 refine cutS (fun s=>s=⟨[(2,oc (dB o1))],[]⟩) ?_ ?_
 ·have h:=ho
  clear ho
  refine ww ?_
  refine guardSBh h (fun g2 h=>ww ?_) (fun g2 h=>ww ?_)
  ·obtain⟨t3,ht3,h⟩:=bi h
   refine cN [] (F42_ok ht3) trivial (ww ?_)
   cases h
   exact eM [] rfl
  cases h
  exact eM [] rfl
 rintro _ rfl
 clear ho
 refine ww ?_
 cases h
 exact eF []
def F71(x0:Int):Option (Unit):=some (())
def a71:AFn:=⟨6,[(.tmp 2)],
 (.seq (.reg [Qe 2 0])
 (.seq (.reg [Qa 3 0,
sq 4 (.max (.t 3) (kI 0)),
sq 5 (.min (.t 4) (kI 1000000000000000)),
Qa 2 5])
 .ret))⟩
theorem F71_ok{x0 r}(h:F71 x0=some r):CallD Try.prog 71 [.c (dI x0)] [] (tupV [.c (dI ((if 1000000000000000<(if x0<0 then 0 else x0)then 1000000000000000 else(if x0<0 then 0 else x0))))]) []:=by
 rw[F71]at h
 refine zc a71 (by kernel_rfl) rfl (ww ?_)
 cases h
 exact eF []
def F64(x0:Amount)(x1:Int)(x2:Bool):Option (Int):=(F71 x0.N).bind fun t1=>(F71 x1).bind fun t2=>(if(nb x0.Percent)=true then some ((if 1000000000000000<(if x0.N<0 then 0 else x0.N)then 1000000000000000 else(if x0.N<0 then 0 else x0.N)))else(((if 0<(IntKind.i64.wrap (((if 1000000000000000<(if x1<0 then 0 else x1)then 1000000000000000 else(if x1<0 then 0 else x1))).tdiv 100))then(ck ((IntKind.i64.wrap (((if 1000000000000000<(if x1<0 then 0 else x1)then 1000000000000000 else(if x1<0 then 0 else x1))).tdiv 100))≠0)).bind fun u6=>some (decide ((IntKind.i64.wrap ((1000000000000000:Int).tdiv ((IntKind.i64.wrap (((if 1000000000000000<(if x1<0 then 0 else x1)then 1000000000000000 else(if x1<0 then 0 else x1))).tdiv 100)))))<(if 1000000000000000<(if x0.N<0 then 0 else x0.N)then 1000000000000000 else(if x0.N<0 then 0 else x0.N))))else some false)).bind fun o4=>(if o4=true then some 1000000000000000 else(((if x2=true then some ((IntKind.i64.wrap (((IntKind.i64.wrap (((((if 1000000000000000<(if x1<0 then 0 else x1)then 1000000000000000 else(if x1<0 then 0 else x1))).tmod 100))*((if 1000000000000000<(if x0.N<0 then 0 else x0.N)then 1000000000000000 else(if x0.N<0 then 0 else x0.N))))))+99)))else some ((IntKind.i64.wrap (((((if 1000000000000000<(if x1<0 then 0 else x1)then 1000000000000000 else(if x1<0 then 0 else x1))).tmod 100))*((if 1000000000000000<(if x0.N<0 then 0 else x0.N)then 1000000000000000 else(if x0.N<0 then 0 else x0.N)))))))).bind fun o8=>some ((if 1000000000000000<(IntKind.i64.wrap (((IntKind.i64.wrap (((IntKind.i64.wrap (((if 1000000000000000<(if x1<0 then 0 else x1)then 1000000000000000 else(if x1<0 then 0 else x1))).tdiv 100)))*((if 1000000000000000<(if x0.N<0 then 0 else x0.N)then 1000000000000000 else(if x0.N<0 then 0 else x0.N))))))+((IntKind.i64.wrap (o8.tdiv 100)))))then 1000000000000000 else(IntKind.i64.wrap (((IntKind.i64.wrap (((IntKind.i64.wrap (((if 1000000000000000<(if x1<0 then 0 else x1)then 1000000000000000 else(if x1<0 then 0 else x1))).tdiv 100)))*((if 1000000000000000<(if x0.N<0 then 0 else x0.N)then 1000000000000000 else(if x0.N<0 then 0 else x0.N))))))+((IntKind.i64.wrap (o8.tdiv 100)))))))))))
def a64:AFn:=⟨46,[(.tmp 6)],
 (.seq (.reg [Qg 3 0,
Qe 6 0])
 (.seq (.reg [Qb 12 1 3,
Qd 13 12,
Qk 14 71 13,
Qa 15 1,
Qk 16 71 15,
Qa 7 14,
Qa 8 16])
 (.seq (.seq (.reg [Qb 17 0 3,
Qd 18 17,
Qq 19 18])
 (.cond (.t 19)
 (.seq (.reg [Qa 20 7,
Qa 6 20])
 .ret)
 .skip))
 (.seq (.reg [Qa 21 8,
sq 22 (.bin .quo (.t 21) (kI 100)),
Qa 23 8,
sq 24 (.bin .rem (.t 23) (kI 100)),
Qa 9 22,
Qa 10 24])
 (.seq (.seq (.sem (.reg [Qa 25 9,
sq 26 (.bin .gtr (.t 25) (kI 0)),
Qa 27 26,
Qv 28 27 true 7,
Qv 29 27 true 9,
zg 30 27 true (.bin .quo (kI 1000000000000000) (.t 29)),
zg 31 27 true (.bin .gtr (.t 28) (.t 30)),
zl 32 (.pick (.t 27) (.t 31) (kB false)) [] []]))
 (.cond (.t 32)
 (.seq (.reg [Qe 6 1000000000000000])
 .ret)
 .skip))
 (.seq (.reg [Qa 33 10,
Qa 34 7,
sq 35 (.bin .mul (.t 33) (.t 34)),
Qa 11 35])
 (.seq (.sem (.seq (.reg [Qa 36 2])
 (.cond (.t 36)
 (.reg [Qa 37 11,
Qm 38 37 99,
Qa 11 38])
 .skip)))
 (.seq (.reg [Qa 39 9,
Qa 40 7,
sq 41 (.bin .mul (.t 39) (.t 40)),
Qa 42 11,
sq 43 (.bin .quo (.t 42) (kI 100)),
sq 44 (.bin .add (.t 41) (.t 43)),
sq 45 (.min (.t 44) (kI 1000000000000000)),
Qa 6 45])
 .ret))))))))⟩
theorem F64_ok{x0 x1 x2 r}(h:F64 x0 x1 x2=some r):CallD Try.prog 64 [.agg [dB x0.Percent,dI x0.N],.c (dI x1),.c (dB x2)] [] (tupV [.c (dI r)]) []:=by
 rw[F64]at h
 refine zc a64 (by kernel_rfl) rfl (ww ?_)
 obtain⟨t1,ht1,h⟩:=bi h
 refine cN [] (F71_ok ht1) trivial (ww ?_)
 obtain⟨t2,ht2,h⟩:=bi h
 refine cN [] (F71_ok ht2) trivial (ww ?_)
 refine condBh h (fun c3 h=>ww ?_) (fun c3 h=>ww ?_)
 ·cases h
  exact eF []
 refine⟨by omega,?_⟩
 refine ww ?_
 refine⟨by omega,?_⟩
 refine ww ?_
 obtain⟨o4,ho,h⟩:=bi h
 refine cutS (fun s=>s=⟨[(2,oc (dB x2)),(7,oc (dI ((if 1000000000000000<(if x0.N<0 then 0 else x0.N)then 1000000000000000 else(if x0.N<0 then 0 else x0.N))))),(9,oc (dI ((IntKind.i64.wrap (((if 1000000000000000<(if x1<0 then 0 else x1)then 1000000000000000 else(if x1<0 then 0 else x1))).tdiv 100))))),(10,oc (dI ((((if 1000000000000000<(if x1<0 then 0 else x1)then 1000000000000000 else(if x1<0 then 0 else x1))).tmod 100)))),(32,oc (dB o4))],[]⟩) ?_ ?_
 ·have h:=ho
  clear ho
  refine ww ?_
  refine guardSh h (fun g5 h=>ww ?_) (fun g5 h=>ww ?_)
  ·obtain⟨u6,hu6,h⟩:=bi h
   refine⟨ck_some hu6,?_⟩
   refine ww ?_
   cases h
   exact eM [] rfl
  cases h
  exact eM [] rfl
 rintro _ rfl
 clear ho
 refine ww ?_
 refine condBh h (fun c7 h=>ww ?_) (fun c7 h=>ww ?_)
 ·cases h
  exact eF []
 obtain⟨o8,ho,h⟩:=bi h
 refine cutS (fun s=>s=⟨[(7,oc (dI ((if 1000000000000000<(if x0.N<0 then 0 else x0.N)then 1000000000000000 else(if x0.N<0 then 0 else x0.N))))),(9,oc (dI ((IntKind.i64.wrap (((if 1000000000000000<(if x1<0 then 0 else x1)then 1000000000000000 else(if x1<0 then 0 else x1))).tdiv 100))))),(11,oc (dI o8))],[]⟩) ?_ ?_
 ·have h:=ho
  clear ho
  refine ww ?_
  refine condBh h (fun c9 h=>ww ?_) (fun c9 h=>ww ?_)
  ·cases h
   exact eM [] rfl
  cases h
  exact eM [] rfl
 rintro _ rfl
 clear ho
 refine ww ?_
 refine⟨by omega,?_⟩
 refine ww ?_
 cases h
 exact eF []
def F28(x0:WorkItem)(b1:Int)(b2:List (ByteArray×Bool)):Option (Bool):=(((if(nb (((getM x0.Key b2).getD false)))=true then some true else some (decide (x0.At<(IntKind.i64.wrap (b1-120)))))).bind fun o1=>some o1)
def a28:AFn:=⟨17,[(.tmp 4)],
 (.seq (.reg [Qg 3 0,
Qf 4 false])
 (.seq (.sem (.reg [Qd 5 1,
Qb 6 0 3,
Qd 7 6,
sq 8 (.mget 1 false (.c (dB false)) (.t 5) (.t 7)),
Qq 9 8,
Qa 10 9,
Qs 11 10 false 1 3,
Qt 12 10 false 11,
Qt 13 10 false 2,
zg 14 10 false (.bin .sub (.t 13) (kI 120)),
zg 15 10 false (.bin .lss (.t 12) (.t 14)),
Qj 16 10 15,
Qa 4 16]))
 .ret))⟩
theorem F28_ok{x0 b1 b2 r}(h:F28 x0 b1 b2=some r):CallD Try.prog 28 [.agg [dS x0.Key,dI x0.At],.c (.pt 0 0),.c (.pt 1 0)] [xb [.mref 2],xb [dI b1],some (.map (eM1 Value.string (fun x=> .v (.bool x)) b2))] (tupV [.c (dB r)]) [xb [.mref 2],xb [dI b1],some (.map (eM1 Value.string (fun x=> .v (.bool x)) b2))]:=by
 rw[F28]at h
 refine zc a28 (by kernel_rfl) rfl (ww ?_)
 obtain⟨o1,ho,h⟩:=bi h
 refine cutS (fun s=>s=⟨[(4,oc (dB o1))],[xb [.mref 2],xb [dI b1],some (.map (eM1 Value.string (fun x=> .v (.bool x)) b2))]⟩) ?_ ?_
 ·have h:=ho
  clear ho
  refine ww ?_
  refine t_mget1 (enc:=(fun x=> .v (.bool x))) (l:=b2) (z:=false) kkS rfl rfl rfl rfl (ww ?_)
  refine guardSBh h (fun g2 h=>ww ?_) (fun g2 h=>ww ?_)
  ·cases h
   exact eM [some 0,some 1,some 2] rfl
  cases h
  exact eM [some 0,some 1,some 2] rfl
 rintro _ rfl
 clear ho
 refine ww ?_
 cases h
 exact eF [some 0,some 1,some 2]
def F60v1_l1(b2:Int)(b3:List (ByteArray×Bool))(x0:(List WorkItem)):List WorkItem→Nat→Option ((Int) ⊕ (Unit))
 |[],o1_0=>some (Sum.inr (()))
 |xo1::xs,o1_0=>(rdI x0 ((o1_0:Int))).bind fun y3=>(F28 y3 b2 b3).bind fun t4=>(if t4=true then(some ((o1_0:Int))).map Sum.inl else F60v1_l1 b2 b3 x0 xs (o1_0+1))
def F60v1(x0:(List WorkItem))(b2:Int)(b3:List (ByteArray×Bool)):Option (Int):=(((ck (0≤x0.length∧x0.length≤4294967290)).bind fun u6=>F60v1_l1 b2 b3 x0 x0 0:Option ((Int) ⊕ (Unit))).bind fun o1=>match o1 with|Sum.inl f=>some f|Sum.inr po1=>some ((-1)))
def a60v1:AFn:=⟨19,[(.tmp 4)],
 (.seq (.reg [Qe 4 0])
 (.seq (.seq (.reg [Qa 6 0,
Qh 7 6,
Qe 8 0])
 (.sem (.block 0 (.loop (.seq (.reg [Qn 9 8 7])
 (.seq (.cond (.t 9)
 .skip
 (.exit 0))
 (.seq (.block 1 (.seq (.reg [Qa 10 8,
Qa 5 10])
 (.seq (.reg [Qa 11 1,
Qa 12 0,
Qa 13 5,
Qp 14 2 12 13,
Qc 15 2 14,
zl 16 (.callv (.t 11) [(.t 15)]) [] [12,14]])
 (.cond (.t 16)
 (.seq (.reg [Qa 17 5,
Qa 4 17])
 .ret)
 .skip))))
 (.reg [Qm 18 8 1,
Qa 8 18]))))))))
 (.seq (.reg [sq 4 (.mv (kI (-1)))])
 .ret)))⟩
theorem a60v1_ok:afn Try.prog 60=some a60v1.er:=by kernel_rfl
theorem F60v1_ok{x0 b2 b3 r}{e0:Nat}(h:F60v1 x0 b2 b3=some r):CallD Try.prog 60 [.c (.own 0 e0 0 (x0.length) none),.c (.fn 28 [(1,0),(2,0)])] [some (.arr e0 2 (x0.map eWorkItem)),xb [.mref 3],xb [dI b2],some (.map (eM1 Value.string (fun x=> .v (.bool x)) b3))] (tupV [.c (dI r)]) [some (.arr e0 2 (x0.map eWorkItem)),xb [.mref 3],xb [dI b2],some (.map (eM1 Value.string (fun x=> .v (.bool x)) b3))]:=by
 refine callS a60v1_ok (by simp[a60v1]) ?_
 rw[F60v1]at h
 simp only[a60v1,VW.down,Nat.reduceEqDiff,reduceCtorEq,Nat.reduceAdd,Nat.reduceLeDiff,Nat.reduceLT,Nat.reduceBEq,Nat.reduceSub,EE.down]
 obtain⟨o1,ho,h⟩:=bi h
 refine cutS (fun s=>∃po1,o1=Sum.inr po1∧s=⟨[],[some (.arr e0 2 (x0.map eWorkItem)),xb [.mref 3],xb [dI b2],some (.map (eM1 Value.string (fun x=> .v (.bool x)) b3))]⟩) ?_ ?_
 ·have h0o1:=h
  have h:=ho
  clear ho
  obtain⟨_,hk,h⟩:=bi h
  have hk:=ck_some hk
  refine ww ?_
  refine bL (fun j s=>∃(o1_0:Nat),(o1_0≤x0.length∧j=x0.length-o1_0)∧s=⟨[(0,oc (.own 0 e0 0 (x0.length) none)),(1,oc (.fn 28 [(1,0),(2,0)])),(7,oc (dI ((x0.length:Int)))),(8,oc (dI ((o1_0:Int))))],[some (.arr e0 2 (x0.map eWorkItem)),xb [.mref 3],xb [dI b2],some (.map (eM1 Value.string (fun x=> .v (.bool x)) b3))]⟩∧F60v1_l1 b2 b3 x0 (x0.drop o1_0) o1_0=some o1) (x0.length-0) [some 0,some 1,some 2,some 3] ⟨0,⟨hk.1,rfl⟩,rfl,h⟩ ?_
  rintro _ _ ⟨o1_0,⟨hi,rfl⟩,rfl,h⟩
  refine ww ?_
  refine condS (fun c2=>?_) (fun c2=>?_)
  ·obtain⟨xo1,hxo1,hd⟩:=countY (show(o1_0:Int)<(x0.length:Int)from c2)
   rw[hd,F60v1_l1]at h
   refine ww ?_
   obtain⟨y3,hy3,h⟩:=bi h
   refine t_idxO (enc:=eWorkItem) (xs:=x0) rfl rfl rfl (by first|rfl|simp only[List.length_set]|exact(clrL_len (slI_len (by assumption))).symm) hy3 (ww ?_)
   refine LdRow.rd (rdI_some hy3).2.1 (ww ?_)
   obtain⟨t4,ht4,h⟩:=bi h
   refine cN [1,2,3] (F28_ok ht4) ⟨⟨rfl,by simp[Blk.live,C.live,hp]⟩,⟨⟨rfl,by simp[Blk.live,C.live,hp]⟩,⟨⟨congrArg some (by first|exact ren_m1.symm|exact ren_ms.symm),(by first|exact entsD_live entsD_1 _|exact entsD_live entsD_s _)⟩,trivial⟩⟩⟩ ?_
   refine ww ?_
   refine condBh h (fun c5 h=>ww ?_) (fun c5 h=>ww ?_)
   ·obtain⟨fh0o1,hfh0o1,rfl⟩:=Option.map_eq_some_iff.1 h
    have h:=hfh0o1.trans h0o1
    cases h
    exact eF [some 0,some 1,some 2,some 3]
   rw[wrapN (by omega)]
   exact eL' (x0.length-(o1_0+1)) [some 0,some 1,some 2,some 3] ⟨o1_0+1,⟨by omega,rfl⟩,rfl,h⟩ (by omega)
  rw[countN (show¬((o1_0:Int)<(x0.length:Int))from c2),F60v1_l1]at h
  refine ww ?_
  cases h
  exact eM [some 0,some 1,some 2,some 3] ⟨_,rfl,rfl⟩
 rintro _ ⟨po1,rfl,rfl⟩
 clear ho
 dsimp only at h
 refine ww ?_
 cases h
 exact eF [some 0,some 1,some 2,some 3]
def cF14a1:AC:=(.reg [Qg 6 2,
sq 8 (.mv kN),
Qe 9 0])
def F14a1(l:List Budget)(pods:List Pod)(key:ByteArray)(now:Int):Option (Unit):=some (())
theorem F14a1_ok{l pods key now r}(h:F14a1 l pods key now=some r):sK Try.prog 118 0 cF14a1 [] (sM 118 0 (fun s=>s=⟨[(0,oc (dM (l.map eBudget))),(1,oc (dM (pods.map ePod))),(3,oc (dI now)),(6,Pz 0)],[xb [dS key]]⟩) (xQ 118 0 (fun _ _=>False) (fun _=>False)))
 ⟨[(0,oc (dM (l.map eBudget))),(1,oc (dM (pods.map ePod))),(2,oc (dS key)),(3,oc (dI now))],[]⟩:=by
 rw[F14a1]at h
 simp only[cF14a1,VW.down,Nat.reduceEqDiff,reduceCtorEq,Nat.reduceAdd,Nat.reduceLeDiff,Nat.reduceLT,Nat.reduceBEq,Nat.reduceSub,EE.down]
 cases h
 exact eM [some 0] rfl
def cF14a3:AC:=(.reg [Qa 21 10,
Qh 22 21,
Qe 23 0])
def F14a3(l:List Budget)(pods:List Pod)(key:ByteArray)(now:Int)(cs:List RBud):Option (Unit):=some (())
theorem F14a3_ok{l pods key now cs r}(h:F14a3 l pods key now cs=some r):sK Try.prog 118 0 cF14a3 [] (sM 118 0 (fun s=>s=⟨[(0,oc (dM (l.map eBudget))),(1,oc (dM (pods.map ePod))),(3,oc (dI now)),(6,Pz 0),(10,oc (.own 1 0 0 (cs.length) none)),(21,oc (.own 1 0 0 (cs.length) none)),(22,oc (dI ((cs.length:Int)))),(23,oc (dI 0))],[xb [dS key],some (.arr 0 22 (cs.map eRBud))]⟩) (xQ 118 0 (fun _ _=>False) (fun _=>False)))
 ⟨[(0,oc (dM (l.map eBudget))),(1,oc (dM (pods.map ePod))),(3,oc (dI now)),(6,Pz 0),(10,oc (.own 1 0 0 (cs.length) none))],[xb [dS key],some (.arr 0 22 (cs.map eRBud))]⟩:=by
 rw[F14a3]at h
 simp only[cF14a3,VW.down,Nat.reduceEqDiff,reduceCtorEq,Nat.reduceAdd,Nat.reduceLeDiff,Nat.reduceLT,Nat.reduceBEq,Nat.reduceSub,EE.down]
 cases h
 exact eM [some 0,some 1] rfl
def cF14b1:AC:=(.reg [Qa 25 23,
Qp 26 22 21 23,
Qc 27 22 26,
sq 12 (.zbox [dS ⟨#[]⟩,dS ⟨#[]⟩,dS ⟨#[]⟩,dI 0,dI 0,dI 0,dI 0,dB false,dI 0,dN,dN,dN,dN,dN,dN,dN,dI 0,dI 0,dI 0,dI 0,dI 0,dN]),
Qa 11 25,
su (.store 22 (.t 12) (.t 27))])
def F14b1(l:List Budget)(pods:List Pod)(key:ByteArray)(now:Int)(cs:List RBud)(n:Int)(i:Int)(c:Bool):Option (RBud):=(rdI cs i).bind fun y1=>some ((⟨y1.Meta,y1.Selector,y1.MinAvailable,y1.MaxUnavailable,y1.Observed,y1.Healthy,y1.Desired,y1.Expected,y1.Allowed,y1.Disrupted⟩:RBud))
theorem F14b1_ok{l pods key now cs n i c r}(h:F14b1 l pods key now cs n i c=some r):sK Try.prog 118 0 cF14b1 [] (sM 118 0 (fun s=>s=⟨[(0,oc (dM (l.map eBudget))),(1,oc (dM (pods.map ePod))),(3,oc (dI now)),(6,Pz 0),(10,oc (.own 1 0 0 (cs.length) none)),(11,oc (dI i)),(12,Pz 2),(21,oc (.own 1 0 0 (cs.length) none)),(22,oc (dI n)),(23,oc (dI i))],[xb [dS key],some (.arr 0 22 (cs.map eRBud)),xb [dS ((r).Meta.Kind),dS ((r).Meta.Namespace),dS ((r).Meta.Name),dI ((r).Meta.Uid),dI ((r).Meta.Version),dI ((r).Meta.Generation),dI ((r).Meta.Created),dB ((r).Meta.Deleting),dI ((r).Meta.DeleteAt),dM (((r).Meta.Labels).map eLabel),dM (((r).Meta.Owners).map eOwner),dM (((r).Meta.Finalizers).map eS),dM (((r).Meta.Managers).map eManager),dM (((r).Selector).map eRequirement),dM (((r).MinAvailable).map eAmount),dM (((r).MaxUnavailable).map eAmount),dI ((r).Observed),dI ((r).Healthy),dI ((r).Desired),dI ((r).Expected),dI ((r).Allowed),.d ((r).Disrupted)]]⟩) (xQ 118 0 (fun _ _=>False) (fun _=>False)))
 ⟨[(0,oc (dM (l.map eBudget))),(1,oc (dM (pods.map ePod))),(3,oc (dI now)),(6,Pz 0),(10,oc (.own 1 0 0 (cs.length) none)),(21,oc (.own 1 0 0 (cs.length) none)),(22,oc (dI n)),(23,oc (dI i)),(24,oc (dB c))],[xb [dS key],some (.arr 0 22 (cs.map eRBud))]⟩:=by
 rw[F14b1]at h
 simp only[cF14b1,VW.down,Nat.reduceEqDiff,reduceCtorEq,Nat.reduceAdd,Nat.reduceLeDiff,Nat.reduceLT,Nat.reduceBEq,Nat.reduceSub,EE.down]
 obtain⟨y1,hy1,h⟩:=bi h
 refine t_idxO (enc:=eRBud) (xs:=cs) rfl rfl rfl (by first|rfl|simp only[List.length_set]|exact(clrL_len (slI_len (by assumption))).symm) hy1 (ww ?_)
 refine LdRow.rd (rdI_some hy1).2.1 (ww ?_)
 cases h
 exact eM [some 0,some 1,some 2] rfl
def cF14b5:AC:=(.reg [Qm 33 23 1,
Qa 23 33])
def F14b5(l:List Budget)(pods:List Pod)(key:ByteArray)(now:Int)(cs:List RBud)(n:Int)(i:Int):Option (Unit):=some (())
theorem F14b5_ok{l pods key now cs n i r}(h:F14b5 l pods key now cs n i=some r):sK Try.prog 118 0 cF14b5 [] (sM 118 0 (fun s=>s=⟨[(0,oc (dM (l.map eBudget))),(1,oc (dM (pods.map ePod))),(3,oc (dI now)),(6,Pz 0),(10,oc (.own 1 0 0 (cs.length) none)),(21,oc (.own 1 0 0 (cs.length) none)),(22,oc (dI n)),(23,oc (dI ((IntKind.i64.wrap (i+1)))))],[xb [dS key],some (.arr 0 22 (cs.map eRBud))]⟩) (xQ 118 0 (fun _ _=>False) (fun _=>False)))
 ⟨[(0,oc (dM (l.map eBudget))),(1,oc (dM (pods.map ePod))),(3,oc (dI now)),(6,Pz 0),(10,oc (.own 1 0 0 (cs.length) none)),(21,oc (.own 1 0 0 (cs.length) none)),(22,oc (dI n)),(23,oc (dI i))],[xb [dS key],some (.arr 0 22 (cs.map eRBud))]⟩:=by
 rw[F14b5]at h
 simp only[cF14b5,VW.down,Nat.reduceEqDiff,reduceCtorEq,Nat.reduceAdd,Nat.reduceLeDiff,Nat.reduceLT,Nat.reduceBEq,Nat.reduceSub,EE.down]
 cases h
 exact eM [some 0,some 1] rfl
end Go.Proofs.Ytedgocbpegllaaa
