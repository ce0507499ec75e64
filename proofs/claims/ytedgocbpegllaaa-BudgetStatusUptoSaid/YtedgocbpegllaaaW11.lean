/- Each Go function as a function over typed data, and its walk. -/
import Derived.Test.YtedgocbpegllaaaW0
import Derived.Test.YtedgocbpegllaaaW2
import Derived.Test.YtedgocbpegllaaaW4
import Derived.Test.YtedgocbpegllaaaW6
import Derived.Test.YtedgocbpegllaaaW7
import Derived.Test.YtedgocbpegllaaaW8
import Derived.Test.YtedgocbpegllaaaW9
namespace Go.Proofs.Ytedgocbpegllaaa
open Go Go.Fw Go.Shelf
set_option maxRecDepth 100000
set_option maxHeartbeats 4000000
set_option linter.unusedSimpArgs false
set_option linter.unusedVariables false
def F34_l1(x1:ByteArray):List Pod→Nat→Option ((Bool) ⊕ (Unit))
 |[],o1_0=>some (Sum.inr (()))
 |xo1::xs,o1_0=>(((F20 xo1.Meta).bind fun t4=>(if t4=x1 then some (nb xo1.Meta.Deleting)else some false)).bind fun o3=>(if o3=true then(some true).map Sum.inl else F34_l1 x1 xs (o1_0+1)))
def F34(x0:(List Pod))(x1:ByteArray):Option (Bool):=(((ck (0≤x0.length∧x0.length≤4294967290)).bind fun u7=>F34_l1 x1 x0 0:Option ((Bool) ⊕ (Unit))).bind fun o1=>match o1 with|Sum.inl f=>some f|Sum.inr po1=>some false)
def a34:AFn:=⟨29,[(.tmp 4)],
 (.seq (.reg [Qf 4 false])
 (.seq (.seq (.reg [Qe 5 0])
 (.sem (.block 0 (.loop (.seq (.seq (.reg [Qa 6 5,
Qa 7 0,
Qh 8 7,
Qn 9 6 8])
 (.cond (.t 9)
 .skip
 (.exit 0)))
 (.seq (.block 1 (.seq (.sem (.reg [Qa 12 0,
Qa 13 5,
Qp 14 32 12 13,
Qb 15 0 14,
Qc 16 13 15,
Qk 17 20 16,
Qa 18 1,
sq 19 (.bin .eql (.t 17) (.t 18)),
Qa 20 19,
Qv 21 20 true 0,
Qv 22 20 true 5,
zg 23 20 true (.indexA 32 (.t 21) (.t 22)),
Qs 24 20 true 0 23,
Qs 25 20 true 7 24,
Qt 26 20 true 25,
zg 27 20 true (.not (.t 26)),
Qi 28 20 27]))
 (.cond (.t 28)
 (.seq (.reg [Qf 4 true])
 .ret)
 .skip)))
 (.reg [Qa 10 5,
Qm 11 10 1,
Qa 5 11])))))))
 (.seq (.reg [Qf 4 false])
 .ret)))⟩
theorem F34_ok{x0 x1 r}(h:F34 x0 x1=some r):CallD Try.prog 34 [.c (dM (x0.map ePod)),.c (dS x1)] [] (tupV [.c (dB r)]) []:=by
 rw[F34]at h
 refine zc a34 (by kernel_rfl) rfl (ww ?_)
 obtain⟨o1,ho,h⟩:=bi h
 refine cutS (fun s=>∃po1,o1=Sum.inr po1∧s=⟨[],[]⟩) ?_ ?_
 ·have h0o1:=h
  have h:=ho
  clear ho
  obtain⟨_,hk,h⟩:=bi h
  have hk:=ck_some hk
  refine ww ?_
  refine bL (fun j s=>∃(o1_0:Nat),(o1_0≤x0.length∧j=x0.length-o1_0)∧s=⟨[(0,oc (dM (x0.map ePod))),(1,oc (dS x1)),(5,oc (dI ((o1_0:Int))))],[]⟩∧F34_l1 x1 (x0.drop o1_0) o1_0=some o1) (x0.length-0) [] ⟨0,⟨hk.1,rfl⟩,rfl,h⟩ ?_
  rintro _ _ ⟨o1_0,⟨hi,rfl⟩,rfl,h⟩
  refine ww ?_
  refine condS (fun c2=>?_) (fun c2=>?_)
  ·obtain⟨xo1,hxo1,hd⟩:=countY (show(o1_0:Int)<(x0.length:Int)from c2)
   rw[hd,F34_l1]at h
   refine ww ?_
   obtain⟨o3,ho,h⟩:=bi h
   refine cutS (fun s=>s=⟨[(0,oc (dM (x0.map ePod))),(1,oc (dS x1)),(5,oc (dI ((o1_0:Int)))),(28,oc (dB o3))],[]⟩) ?_ ?_
   ·have h:=ho
    clear ho
    refine ww ?_
    refine t_idxF (enc:=ePod) (xs:=x0) rfl rfl hxo1 rfl (ww ?_)
    obtain⟨t4,ht4,h⟩:=bi h
    refine cN [] (F20_ok ht4) trivial (ww ?_)
    refine guardSh h (fun g5 h=>ww ?_) (fun g5 h=>ww ?_)
    ·refine t_idxF (enc:=ePod) (xs:=x0) rfl rfl hxo1 rfl (ww ?_)
     cases h
     exact eM [] rfl
    cases h
    exact eM [] rfl
   rintro _ rfl
   clear ho
   refine ww ?_
   refine condBh h (fun c6 h=>ww ?_) (fun c6 h=>ww ?_)
   ·obtain⟨fh0o1,hfh0o1,rfl⟩:=Option.map_eq_some_iff.1 h
    have h:=hfh0o1.trans h0o1
    cases h
    exact eF []
   rw[wrapN (by omega)]
   exact eL' (x0.length-(o1_0+1)) [] ⟨o1_0+1,⟨by omega,rfl⟩,rfl,h⟩ (by omega)
  rw[countN (show¬((o1_0:Int)<(x0.length:Int))from c2),F34_l1]at h
  refine ww ?_
  cases h
  exact eM [] ⟨_,rfl,rfl⟩
 rintro _ ⟨po1,rfl,rfl⟩
 clear ho
 dsimp only at h
 refine ww ?_
 cases h
 exact eF []
def F38(x0:Amount)(x1:Int)(x2:Bool):Option (Int):=(F22 x0.N 0 1000000000000000).bind fun t1=>(F22 x1 0 1000000000000000).bind fun t2=>(if(nb x0.Percent)=true then some ((if(1000000000000000:Int)<(if x0.N<(0:Int)then(0:Int)else x0.N)then(1000000000000000:Int)else(if x0.N<(0:Int)then(0:Int)else x0.N)))else(((if 0<(IntKind.i64.wrap (((if(1000000000000000:Int)<(if x1<(0:Int)then(0:Int)else x1)then(1000000000000000:Int)else(if x1<(0:Int)then(0:Int)else x1))).tdiv 100))then(ck ((IntKind.i64.wrap (((if(1000000000000000:Int)<(if x1<(0:Int)then(0:Int)else x1)then(1000000000000000:Int)else(if x1<(0:Int)then(0:Int)else x1))).tdiv 100))≠0)).bind fun u6=>some (decide ((IntKind.i64.wrap ((1000000000000000:Int).tdiv ((IntKind.i64.wrap (((if(1000000000000000:Int)<(if x1<(0:Int)then(0:Int)else x1)then(1000000000000000:Int)else(if x1<(0:Int)then(0:Int)else x1))).tdiv 100)))))<(if(1000000000000000:Int)<(if x0.N<(0:Int)then(0:Int)else x0.N)then(1000000000000000:Int)else(if x0.N<(0:Int)then(0:Int)else x0.N))))else some false)).bind fun o4=>(if o4=true then some 1000000000000000 else(((if x2=true then some ((IntKind.i64.wrap (((IntKind.i64.wrap (((((if(1000000000000000:Int)<(if x1<(0:Int)then(0:Int)else x1)then(1000000000000000:Int)else(if x1<(0:Int)then(0:Int)else x1))).tmod 100))*((if(1000000000000000:Int)<(if x0.N<(0:Int)then(0:Int)else x0.N)then(1000000000000000:Int)else(if x0.N<(0:Int)then(0:Int)else x0.N))))))+99)))else some ((IntKind.i64.wrap (((((if(1000000000000000:Int)<(if x1<(0:Int)then(0:Int)else x1)then(1000000000000000:Int)else(if x1<(0:Int)then(0:Int)else x1))).tmod 100))*((if(1000000000000000:Int)<(if x0.N<(0:Int)then(0:Int)else x0.N)then(1000000000000000:Int)else(if x0.N<(0:Int)then(0:Int)else x0.N)))))))).bind fun o8=>some ((if 1000000000000000<(IntKind.i64.wrap (((IntKind.i64.wrap (((IntKind.i64.wrap (((if(1000000000000000:Int)<(if x1<(0:Int)then(0:Int)else x1)then(1000000000000000:Int)else(if x1<(0:Int)then(0:Int)else x1))).tdiv 100)))*((if(1000000000000000:Int)<(if x0.N<(0:Int)then(0:Int)else x0.N)then(1000000000000000:Int)else(if x0.N<(0:Int)then(0:Int)else x0.N))))))+((IntKind.i64.wrap (o8.tdiv 100)))))then 1000000000000000 else(IntKind.i64.wrap (((IntKind.i64.wrap (((IntKind.i64.wrap (((if(1000000000000000:Int)<(if x1<(0:Int)then(0:Int)else x1)then(1000000000000000:Int)else(if x1<(0:Int)then(0:Int)else x1))).tdiv 100)))*((if(1000000000000000:Int)<(if x0.N<(0:Int)then(0:Int)else x0.N)then(1000000000000000:Int)else(if x0.N<(0:Int)then(0:Int)else x0.N))))))+((IntKind.i64.wrap (o8.tdiv 100)))))))))))
def a38:AFn:=⟨46,[(.tmp 6)],
 (.seq (.reg [Qg 3 0,
Qe 6 0])
 (.seq (.reg [Qb 12 1 3,
Qd 13 12,
sq 14 (.call 22 [(.t 13),(kI 0),(kI 1000000000000000)]),
Qa 15 1,
sq 16 (.call 22 [(.t 15),(kI 0),(kI 1000000000000000)]),
Qa 7 14,
Qa 8 16])
 (.seq (.seq (.reg [Qb 17 0 3,
Qd 18 17,
Qq 19 18])
 (.cond (.t 19)
 (.seq (.reg [Qa 20 7,
Qa 6 20])
 .ret)
 .skip))
 (.seq (.reg [Qa 21 8,
sq 22 (.bin .quo (.t 21) (kI 100)),
Qa 23 8,
sq 24 (.bin .rem (.t 23) (kI 100)),
Qa 9 22,
Qa 10 24])
 (.seq (.seq (.sem (.reg [Qa 25 9,
sq 26 (.bin .gtr (.t 25) (kI 0)),
Qa 27 26,
Qv 28 27 true 7,
Qv 29 27 true 9,
zg 30 27 true (.bin .quo (kI 1000000000000000) (.t 29)),
zg 31 27 true (.bin .gtr (.t 28) (.t 30)),
zl 32 (.pick (.t 27) (.t 31) (kB false)) [] []]))
 (.cond (.t 32)
 (.seq (.reg [Qe 6 1000000000000000])
 .ret)
 .skip))
 (.seq (.reg [Qa 33 10,
Qa 34 7,
sq 35 (.bin .mul (.t 33) (.t 34)),
Qa 11 35])
 (.seq (.sem (.seq (.reg [Qa 36 2])
 (.cond (.t 36)
 (.reg [Qa 37 11,
Qm 38 37 99,
Qa 11 38])
 .skip)))
 (.seq (.reg [Qa 39 9,
Qa 40 7,
sq 41 (.bin .mul (.t 39) (.t 40)),
Qa 42 11,
sq 43 (.bin .quo (.t 42) (kI 100)),
sq 44 (.bin .add (.t 41) (.t 43)),
sq 45 (.min (.t 44) (kI 1000000000000000)),
Qa 6 45])
 .ret))))))))⟩
theorem F38_ok{x0 x1 x2 r}(h:F38 x0 x1 x2=some r):CallD Try.prog 38 [.agg [dB x0.Percent,dI x0.N],.c (dI x1),.c (dB x2)] [] (tupV [.c (dI r)]) []:=by
 rw[F38]at h
 refine zc a38 (by kernel_rfl) rfl (ww ?_)
 obtain⟨t1,ht1,h⟩:=bi h
 refine cN [] (F22_ok ht1) trivial (ww ?_)
 obtain⟨t2,ht2,h⟩:=bi h
 refine cN [] (F22_ok ht2) trivial (ww ?_)
 refine condBh h (fun c3 h=>ww ?_) (fun c3 h=>ww ?_)
 ·cases h
  exact eF []
 refine⟨by omega,?_⟩
 refine ww ?_
 refine⟨by omega,?_⟩
 refine ww ?_
 obtain⟨o4,ho,h⟩:=bi h
 refine cutS (fun s=>s=⟨[(2,oc (dB x2)),(7,oc (dI ((if(1000000000000000:Int)<(if x0.N<(0:Int)then(0:Int)else x0.N)then(1000000000000000:Int)else(if x0.N<(0:Int)then(0:Int)else x0.N))))),(9,oc (dI ((IntKind.i64.wrap (((if(1000000000000000:Int)<(if x1<(0:Int)then(0:Int)else x1)then(1000000000000000:Int)else(if x1<(0:Int)then(0:Int)else x1))).tdiv 100))))),(10,oc (dI ((((if(1000000000000000:Int)<(if x1<(0:Int)then(0:Int)else x1)then(1000000000000000:Int)else(if x1<(0:Int)then(0:Int)else x1))).tmod 100)))),(32,oc (dB o4))],[]⟩) ?_ ?_
 ·have h:=ho
  clear ho
  refine ww ?_
  refine guardSh h (fun g5 h=>ww ?_) (fun g5 h=>ww ?_)
  ·obtain⟨u6,hu6,h⟩:=bi h
   refine⟨ck_some hu6,?_⟩
   refine ww ?_
   cases h
   exact eM [] rfl
  cases h
  exact eM [] rfl
 rintro _ rfl
 clear ho
 refine ww ?_
 refine condBh h (fun c7 h=>ww ?_) (fun c7 h=>ww ?_)
 ·cases h
  exact eF []
 obtain⟨o8,ho,h⟩:=bi h
 refine cutS (fun s=>s=⟨[(7,oc (dI ((if(1000000000000000:Int)<(if x0.N<(0:Int)then(0:Int)else x0.N)then(1000000000000000:Int)else(if x0.N<(0:Int)then(0:Int)else x0.N))))),(9,oc (dI ((IntKind.i64.wrap (((if(1000000000000000:Int)<(if x1<(0:Int)then(0:Int)else x1)then(1000000000000000:Int)else(if x1<(0:Int)then(0:Int)else x1))).tdiv 100))))),(11,oc (dI o8))],[]⟩) ?_ ?_
 ·have h:=ho
  clear ho
  refine ww ?_
  refine condBh h (fun c9 h=>ww ?_) (fun c9 h=>ww ?_)
  ·cases h
   exact eM [] rfl
  cases h
  exact eM [] rfl
 rintro _ rfl
 clear ho
 refine ww ?_
 refine⟨by omega,?_⟩
 refine ww ?_
 cases h
 exact eF []
def F12_l3(x1:(List Pod))(x3:Int):List WorkItem→Nat→(List WorkItem)→Option ((List WorkItem))
 |[],o3_1,o3_0=>some o3_0
 |xo3::xs,o3_1,o3_0=>(((((F34 x1 xo3.Key).bind fun t7=>(if t7=true then some (decide ((IntKind.i64.wrap (((if(1000000000000:Int)<(if x3<(0:Int)then(0:Int)else x3)then(1000000000000:Int)else(if x3<(0:Int)then(0:Int)else x3)))-120))≤xo3.At))else some false)).bind fun o6=>(if o6=true then(apI o3_0 ([xo3])).bind fun a10=>some a10 else some o3_0))).bind fun o5=>F12_l3 x1 x3 xs (o3_1+1) o5)
def F12_l12(o3:(List WorkItem))(x0:Budget):List Pod→Nat→Int→Option (Int)
 |[],o12_1,o12_0=>some o12_0
 |xo12::xs,o12_1,o12_0=>(((((F35 x0 xo12).bind fun t16=>(if t16=true then(F36 xo12).bind fun t18=>(if t18=true then(F20 xo12.Meta).bind fun t20=>(F37 o3 t20).bind fun t21=>some (nb t21)else some false)else some false)).bind fun o15=>(if o15=true then some ((IntKind.i64.wrap (o12_0+1)))else some o12_0))).bind fun o14=>F12_l12 o3 x0 xs (o12_1+1) o14)
def F12(x0:Budget)(x1:(List Pod))(x2:Int)(x3:Int):Option (Int×Int×Int×(List WorkItem)):=(F33 x0).bind fun t1=>(F22 x3 0 1000000000000).bind fun t2=>(((ck (0≤x0.Disrupted.length∧x0.Disrupted.length≤4294967290)).bind fun u11=>F12_l3 x1 x3 x0.Disrupted 0 ([])).bind fun o3=>(((ck (0≤x1.length∧x1.length≤4294967290)).bind fun u23=>F12_l12 o3 x0 x1 0 0).bind fun o12=>(F22 x2 0 1000000000000000).bind fun t24=>(((if 0<(x0.MinAvailable.length:Int)then(rdI x0.MinAvailable 0).bind fun y27=>(F38 y27 ((if(1000000000000000:Int)<(if x2<(0:Int)then(0:Int)else x2)then(1000000000000000:Int)else(if x2<(0:Int)then(0:Int)else x2))) true).bind fun t28=>some t28 else(if 0<(x0.MaxUnavailable.length:Int)then(rdI x0.MaxUnavailable 0).bind fun y30=>(F38 y30 ((if(1000000000000000:Int)<(if x2<(0:Int)then(0:Int)else x2)then(1000000000000000:Int)else(if x2<(0:Int)then(0:Int)else x2))) true).bind fun t31=>some ((if(IntKind.i64.wrap (((if(1000000000000000:Int)<(if x2<(0:Int)then(0:Int)else x2)then(1000000000000000:Int)else(if x2<(0:Int)then(0:Int)else x2)))-t31))<0 then 0 else(IntKind.i64.wrap (((if(1000000000000000:Int)<(if x2<(0:Int)then(0:Int)else x2)then(1000000000000000:Int)else(if x2<(0:Int)then(0:Int)else x2)))-t31))))else some 0))).bind fun o25=>some ((o12,o25,(if(IntKind.i64.wrap (o12-o25))<0 then 0 else(IntKind.i64.wrap (o12-o25))),o3)))))
def a12:AFn:=⟨128,[(.cell 8 (some 22))],
 (.seq (.reg [Qg 4 0,
sq 8 (.zbox [dS ⟨#[]⟩,dS ⟨#[]⟩,dS ⟨#[]⟩,dI 0,dI 0,dI 0,dI 0,dB false,dI 0,dN,dN,dN,dN,dN,dN,dN,dI 0,dI 0,dI 0,dI 0,dI 0,dN])])
 (.seq (.reg [Qc 14 22 4,
Qk 15 33 14,
sq 9 (.zbox [dS ⟨#[]⟩,dS ⟨#[]⟩,dS ⟨#[]⟩,dI 0,dI 0,dI 0,dI 0,dB false,dI 0,dN,dN,dN,dN,dN,dN,dN,dI 0,dI 0,dI 0,dI 0,dI 0,dN]),
su (.store 22 (.t 9) (.t 15))])
 (.seq (.reg [Qa 16 3,
sq 17 (.call 22 [(.t 16),(kI 0),(kI 1000000000000)]),
Qa 10 17])
 (.seq (.reg [Qb 18 0 4,
Qb 19 5 18,
Qd 20 19,
Qb 21 16 9,
⟨none,none,.store 1 (.t 21) (.t 20),[],(.lone [4,18,19,9])⟩])
 (.seq (.reg [Qb 22 21 9,
⟨none,none,.store 1 (.t 22) kN,[],(.lone [9])⟩])
 (.seq (.seq (.reg [Qe 11 0])
 (.sem (.block 0 (.loop (.seq (.seq (.reg [Qa 23 11,
Qb 24 21 4,
Qd 25 24,
Qh 26 25,
Qn 27 23 26])
 (.cond (.t 27)
 .skip
 (.exit 0)))
 (.seq (.sem (.block 1 (.seq (.reg [Qb 30 21 4,
Qd 31 30,
Qa 32 11,
Qp 33 2 31 32,
Qc 34 2 33,
sq 12 (.zbox [dS ⟨#[]⟩,dI 0]),
su (.store 2 (.t 12) (.t 34))])
 (.seq (.sem (.reg [Qa 35 1,
Qb 36 0 12,
Qd 37 36,
Ql 38 34 35 37,
Qa 39 38,
Qs 40 39 true 1 12,
Qt 41 39 true 40,
Qv 42 39 true 10,
zg 43 39 true (.bin .sub (.t 42) (kI 120)),
zg 44 39 true (.bin .geq (.t 41) (.t 43)),
Qi 45 39 44]))
 (.cond (.t 45)
 (.reg [Qb 46 21 9,
Qd 47 46,
Qc 48 2 12,
sq 49 (.bslice 2 [(.t 48)]),
sq 50 (.app 2 24 (.t 47) (.t 49)),
Qb 51 21 9,
su (.store 1 (.t 51) (.t 50))])
 .skip)))))
 (.reg [Qa 28 11,
Qm 29 28 1,
Qa 11 29])))))))
 (.seq (.reg [Qb 52 17 9,
⟨none,none,.store 1 (.t 52) (kI 0),[],(.lone [9])⟩])
 (.seq (.seq (.reg [Qe 13 0])
 (.sem (.block 2 (.loop (.seq (.seq (.reg [Qa 53 13,
Qa 54 1,
Qh 55 54,
Qn 56 53 55])
 (.cond (.t 56)
 .skip
 (.exit 2)))
 (.seq (.sem (.block 3 (.seq (.sem (.regd [Qc 59 22 4,
Qa 60 1,
Qa 61 13,
sd 62 (.indexA 32 (.t 60) (.t 61)) [1,2],
sd 63 (.load (some 32) (.t 62)) [1,2,3],
zl 64 (.call 35 [(.t 59),(.t 63)]) [0,1,2,3,4] [],
sd 65 (.mv (.t 64)) [0,1,2,3,4,5],
⟨(some 66),(some (65,true)),.mv (.t 1),[0,1,2,3,4,5,6],(.new [])⟩,
⟨(some 67),(some (65,true)),.mv (.t 13),[0,1,2,3,4,5,6],(.new [])⟩,
⟨(some 68),(some (65,true)),.indexA 32 (.t 66) (.t 67),[0,1,2,3,4,5,6,7,8],(.new [])⟩,
⟨(some 69),(some (65,true)),.load (some 32) (.t 68),[0,1,2,3,4,5,6,7,8,9],(.new [])⟩,
⟨(some 70),(some (65,true)),.call 36 [(.t 69)],[0,1,2,3,4,5,6,7,8,9,10],(.lone [])⟩,
zl 71 (.pick (.t 65) (.t 70) (kB false)) [0,1,2,3,4,5,6,7,8,9,10,11] [],
sd 72 (.mv (.t 71)) [0,1,2,3,4,5,6,7,8,9,10,11,12],
⟨(some 73),(some (72,true)),.fieldA 21 (.t 9),[0,1,2,3,4,5,6,7,8,9,10,11,12,13],(.new [])⟩,
⟨(some 74),(some (72,true)),.load none (.t 73),[0,1,2,3,4,5,6,7,8,9,10,11,12,13,14],(.new [])⟩,
⟨(some 75),(some (72,true)),.mv (.t 1),[0,1,2,3,4,5,6,7,8,9,10,11,12,13],(.new [])⟩,
⟨(some 76),(some (72,true)),.mv (.t 13),[0,1,2,3,4,5,6,7,8,9,10,11,12,13],(.new [])⟩,
⟨(some 77),(some (72,true)),.indexA 32 (.t 75) (.t 76),[0,1,2,3,4,5,6,7,8,9,10,11,12,13,16,17],(.new [])⟩,
⟨(some 78),(some (72,true)),.fieldA 0 (.t 77),[0,1,2,3,4,5,6,7,8,9,10,11,12,13,16,17,18],(.new [])⟩,
⟨(some 79),(some (72,true)),.load (some 13) (.t 78),[0,1,2,3,4,5,6,7,8,9,10,11,12,13,16,17,18,19],(.new [])⟩,
⟨(some 80),(some (72,true)),.call 20 [(.t 79)],[0,1,2,3,4,5,6,7,8,9,10,11,12,13,16,17,18,19,20],(.lone [9,73])⟩,
⟨(some 81),(some (72,true)),.call 37 [(.t 74),(.t 80)],[0,1,2,3,4,5,6,7,8,9,10,11,12,13,14,15,16,17,18,19,20,21],(.lone [])⟩,
⟨(some 82),(some (72,true)),.not (.t 81),[0,1,2,3,4,5,6,7,8,9,10,11,12,13,14,15,16,17,18,19,20,21,22],(.new [])⟩,
zl 83 (.pick (.t 72) (.t 82) (kB false)) [0,1,2,3,4,5,6,7,8,9,10,11,12,13,14,15,16,17,18,19,20,21,22,23] []]))
 (.cond (.t 83)
 (.reg [Qb 84 17 9,
Qd 85 84,
Qm 86 85 1,
Qb 87 17 9,
⟨none,none,.store 1 (.t 87) (.t 86),[],(.lone [9,84,9])⟩])
 .skip))))
 (.reg [Qa 57 13,
Qm 58 57 1,
Qa 13 58])))))))
 (.seq (.reg [Qa 88 2,
sq 89 (.call 22 [(.t 88),(kI 0),(kI 1000000000000000)]),
Qb 90 19 9,
su (.store 1 (.t 90) (.t 89))])
 (.seq (.reg [Qb 91 18 9,
⟨none,none,.store 1 (.t 91) (kI 0),[],(.lone [9])⟩])
 (.seq (.sem (.seq (.reg [Qb 92 14 4,
Qd 93 92,
Qh 94 93,
sq 95 (.bin .gtr (.t 94) (kI 0))])
 (.cond (.t 95)
 (.regd [Qb 96 14 4,
sd 97 (.load none (.t 96)) [0],
sd 98 (.indexA 2 (.t 97) (kI 0)) [0,1],
sd 99 (.load (some 2) (.t 98)) [0,1,2],
Qb 100 19 9,
sd 101 (.load none (.t 100)) [4],
zl 102 (.call 38 [(.t 99),(.t 101),(kB true)]) [0,1,2,3,4,5] [],
sd 103 (.fieldA 18 (.t 9)) [0,1,2,3,4,5,6],
⟨none,none,.store 1 (.t 103) (.t 102),[0,1,2,3,4,5,6,7],(.lone [])⟩])
 (.seq (.reg [Qb 104 15 4,
Qd 105 104,
Qh 106 105,
sq 107 (.bin .gtr (.t 106) (kI 0))])
 (.cond (.t 107)
 (.regd [Qb 108 19 9,
sd 109 (.load none (.t 108)) [0],
Qb 110 15 4,
sd 111 (.load none (.t 110)) [2],
sd 112 (.indexA 2 (.t 111) (kI 0)) [2,3],
sd 113 (.load (some 2) (.t 112)) [2,3,4],
Qb 114 19 9,
sd 115 (.load none (.t 114)) [6],
zl 116 (.call 38 [(.t 113),(.t 115),(kB true)]) [2,3,4,5,6,7] [9,108],
sd 117 (.bin .sub (.t 109) (.t 116)) [0,1,2,3,4,5,6,7,8],
sd 118 (.max (.t 117) (kI 0)) [0,1,2,3,4,5,6,7,8,9],
sd 119 (.fieldA 18 (.t 9)) [0,1,2,3,4,5,6,7,8,9,10],
⟨none,none,.store 1 (.t 119) (.t 118),[0,1,2,3,4,5,6,7,8,9,10,11],(.lone [])⟩])
 .skip)))))
 (.seq (.reg [Qb 120 17 9,
Qd 121 120,
Qb 122 18 9,
Qd 123 122,
sq 124 (.bin .sub (.t 121) (.t 123)),
sq 125 (.max (.t 124) (kI 0)),
Qb 126 20 9,
⟨none,none,.store 1 (.t 126) (.t 125),[],(.lone [9,120,9,122,9])⟩])
 (.seq (.reg [Qc 127 22 9,
⟨none,none,.store 22 (.t 8) (.t 127),[],(.lone [9])⟩])
 .ret)))))))))))))⟩
theorem F12_ok{x0 x1 x2 x3 r}(h:F12 x0 x1 x2 x3=some r):CallD Try.prog 12 [.agg (bBudget x0),.c (dM (x1.map ePod)),.c (dI x2),.c (dI x3)] [] (tupV [.agg [dS x0.Meta.Kind,dS x0.Meta.Namespace,dS x0.Meta.Name,dI x0.Meta.Uid,dI x0.Meta.Version,dI x0.Meta.Generation,dI x0.Meta.Created,dB x0.Meta.Deleting,dI x0.Meta.DeleteAt,dM (x0.Meta.Labels.map eLabel),dM (x0.Meta.Owners.map eOwner),dM (x0.Meta.Finalizers.map eS),dM (x0.Meta.Managers.map eManager),dM (x0.Selector.map eRequirement),dM (x0.MinAvailable.map eAmount),dM (x0.MaxUnavailable.map eAmount),dI x0.Meta.Generation,dI r.1,dI r.2.1,dI ((if(1000000000000000:Int)<(if x2<(0:Int)then(0:Int)else x2)then(1000000000000000:Int)else(if x2<(0:Int)then(0:Int)else x2))),dI r.2.2.1,.own 0 0 0 (r.2.2.2.length) none]]) [some (.arr 0 2 (r.2.2.2.map eWorkItem))]:=by
 rw[F12]at h
 refine zc a12 (by kernel_rfl) rfl (ww ?_)
 obtain⟨t1,ht1,h⟩:=bi h
 refine cN [] (F33_ok ht1) trivial (ww ?_)
 obtain⟨t2,ht2,h⟩:=bi h
 refine cN [] (F22_ok ht2) trivial (ww ?_)
 obtain⟨o3,ho,h⟩:=bi h
 refine cutS (fun s=>s=⟨[(1,oc (dM (x1.map ePod))),(2,oc (dI x2)),(4,Pz 0),(8,Pz 1),(9,Pz 2)],[xb (bBudget x0),xb [dS ((⟨#[]⟩:ByteArray)),dS ((⟨#[]⟩:ByteArray)),dS ((⟨#[]⟩:ByteArray)),dI 0,dI 0,dI 0,dI 0,dB false,dI 0,dN,dN,dN,dN,dN,dN,dN,dI 0,dI 0,dI 0,dI 0,dI 0,dN],xb [dS x0.Meta.Kind,dS x0.Meta.Namespace,dS x0.Meta.Name,dI x0.Meta.Uid,dI x0.Meta.Version,dI x0.Meta.Generation,dI x0.Meta.Created,dB x0.Meta.Deleting,dI x0.Meta.DeleteAt,dM (x0.Meta.Labels.map eLabel),dM (x0.Meta.Owners.map eOwner),dM (x0.Meta.Finalizers.map eS),dM (x0.Meta.Managers.map eManager),dM (x0.Selector.map eRequirement),dM (x0.MinAvailable.map eAmount),dM (x0.MaxUnavailable.map eAmount),dI x0.Meta.Generation,dI x0.Healthy,dI x0.Desired,dI x0.Expected,dI x0.Allowed,.own 3 0 0 (o3.length) none],some (.arr 0 2 (o3.map eWorkItem))]⟩) ?_ ?_
 ·have h:=ho
  clear ho
  obtain⟨_,hk,h⟩:=bi h
  have hk:=ck_some hk
  refine ww ?_
  refine bL (fun j s=>∃(o3_1:Nat) (o3_0:List WorkItem),(o3_1≤x0.Disrupted.length∧j=x0.Disrupted.length-o3_1)∧s=⟨[(1,oc (dM (x1.map ePod))),(2,oc (dI x2)),(4,Pz 0),(8,Pz 1),(9,Pz 2),(10,oc (dI ((if(1000000000000:Int)<(if x3<(0:Int)then(0:Int)else x3)then(1000000000000:Int)else(if x3<(0:Int)then(0:Int)else x3))))),(11,oc (dI ((o3_1:Int))))],[xb (bBudget x0),xb [dS ((⟨#[]⟩:ByteArray)),dS ((⟨#[]⟩:ByteArray)),dS ((⟨#[]⟩:ByteArray)),dI 0,dI 0,dI 0,dI 0,dB false,dI 0,dN,dN,dN,dN,dN,dN,dN,dI 0,dI 0,dI 0,dI 0,dI 0,dN],xb [dS x0.Meta.Kind,dS x0.Meta.Namespace,dS x0.Meta.Name,dI x0.Meta.Uid,dI x0.Meta.Version,dI x0.Meta.Generation,dI x0.Meta.Created,dB x0.Meta.Deleting,dI x0.Meta.DeleteAt,dM (x0.Meta.Labels.map eLabel),dM (x0.Meta.Owners.map eOwner),dM (x0.Meta.Finalizers.map eS),dM (x0.Meta.Managers.map eManager),dM (x0.Selector.map eRequirement),dM (x0.MinAvailable.map eAmount),dM (x0.MaxUnavailable.map eAmount),dI x0.Meta.Generation,dI x0.Healthy,dI x0.Desired,dI x0.Expected,dI x0.Allowed,.own 3 0 0 (o3_0.length) none],some (.arr 0 2 (o3_0.map eWorkItem))]⟩∧F12_l3 x1 x3 (x0.Disrupted.drop o3_1) o3_1 o3_0=some o3) (x0.Disrupted.length-0) [some 0,some 1,some 3,none] ⟨0,[],⟨hk.1,rfl⟩,rfl,h⟩ ?_
  rintro _ _ ⟨o3_1,o3_0,⟨hi,rfl⟩,rfl,h⟩
  refine ww ?_
  refine condS (fun c4=>?_) (fun c4=>?_)
  ·obtain⟨xo3,hxo3,hd⟩:=countY (show(o3_1:Int)<(x0.Disrupted.length:Int)from c4)
   rw[hd,F12_l3]at h
   refine ww ?_
   obtain⟨o5,ho,h⟩:=bi h
   refine cutS (fun s=>s=⟨[(1,oc (dM (x1.map ePod))),(2,oc (dI x2)),(4,Pz 0),(8,Pz 1),(9,Pz 2),(10,oc (dI ((if(1000000000000:Int)<(if x3<(0:Int)then(0:Int)else x3)then(1000000000000:Int)else(if x3<(0:Int)then(0:Int)else x3))))),(11,oc (dI ((o3_1:Int))))],[xb (bBudget x0),xb [dS ((⟨#[]⟩:ByteArray)),dS ((⟨#[]⟩:ByteArray)),dS ((⟨#[]⟩:ByteArray)),dI 0,dI 0,dI 0,dI 0,dB false,dI 0,dN,dN,dN,dN,dN,dN,dN,dI 0,dI 0,dI 0,dI 0,dI 0,dN],xb [dS x0.Meta.Kind,dS x0.Meta.Namespace,dS x0.Meta.Name,dI x0.Meta.Uid,dI x0.Meta.Version,dI x0.Meta.Generation,dI x0.Meta.Created,dB x0.Meta.Deleting,dI x0.Meta.DeleteAt,dM (x0.Meta.Labels.map eLabel),dM (x0.Meta.Owners.map eOwner),dM (x0.Meta.Finalizers.map eS),dM (x0.Meta.Managers.map eManager),dM (x0.Selector.map eRequirement),dM (x0.MinAvailable.map eAmount),dM (x0.MaxUnavailable.map eAmount),dI x0.Meta.Generation,dI x0.Healthy,dI x0.Desired,dI x0.Expected,dI x0.Allowed,.own 3 0 0 (o5.length) none],some (.arr 0 2 (o5.map eWorkItem))]⟩) ?_ ?_
   ·have h:=ho
    clear ho
    refine ww ?_
    refine t_idxF (enc:=eWorkItem) (xs:=x0.Disrupted) rfl rfl hxo3 rfl (ww ?_)
    obtain⟨o6,ho,h⟩:=bi h
    refine cutS (fun s=>s=⟨[(1,oc (dM (x1.map ePod))),(2,oc (dI x2)),(4,Pz 0),(8,Pz 1),(9,Pz 2),(10,oc (dI ((if(1000000000000:Int)<(if x3<(0:Int)then(0:Int)else x3)then(1000000000000:Int)else(if x3<(0:Int)then(0:Int)else x3))))),(11,oc (dI ((o3_1:Int)))),(12,Pz 4),(45,oc (dB o6))],[xb (bBudget x0),xb [dS ((⟨#[]⟩:ByteArray)),dS ((⟨#[]⟩:ByteArray)),dS ((⟨#[]⟩:ByteArray)),dI 0,dI 0,dI 0,dI 0,dB false,dI 0,dN,dN,dN,dN,dN,dN,dN,dI 0,dI 0,dI 0,dI 0,dI 0,dN],xb [dS x0.Meta.Kind,dS x0.Meta.Namespace,dS x0.Meta.Name,dI x0.Meta.Uid,dI x0.Meta.Version,dI x0.Meta.Generation,dI x0.Meta.Created,dB x0.Meta.Deleting,dI x0.Meta.DeleteAt,dM (x0.Meta.Labels.map eLabel),dM (x0.Meta.Owners.map eOwner),dM (x0.Meta.Finalizers.map eS),dM (x0.Meta.Managers.map eManager),dM (x0.Selector.map eRequirement),dM (x0.MinAvailable.map eAmount),dM (x0.MaxUnavailable.map eAmount),dI x0.Meta.Generation,dI x0.Healthy,dI x0.Desired,dI x0.Expected,dI x0.Allowed,.own 3 0 0 (o3_0.length) none],some (.arr 0 2 (o3_0.map eWorkItem)),xb [dS xo3.Key,dI xo3.At]]⟩) ?_ ?_
    ·have h:=ho
     clear ho
     refine ww ?_
     obtain⟨t7,ht7,h⟩:=bi h
     refine cN [] (F34_ok ht7) trivial (ww ?_)
     refine guardSBh h (fun g8 h=>ww ?_) (fun g8 h=>ww ?_)
     ·cases h
      exact eM [some 0,some 1,some 2,some 3,some 4] rfl
     cases h
     exact eM [some 0,some 1,some 2,some 3,some 4] rfl
    rintro _ rfl
    clear ho
    refine ww ?_
    refine condBh h (fun c9 h=>ww ?_) (fun c9 h=>ww ?_)
    ·refine t_bslice (enc:=eWorkItem) (ys:=[xo3]) rfl rfl (by simp[A1.cells]) (by first|rfl|(simp only[List.drop_zero,take_mapL];rfl)|(simp only[lit,List.map_cons,List.map_nil,List.drop_zero,take_mapL,EE.down];done)|(simp only[lit,List.map_cons,List.map_nil,List.drop_zero,take_mapL,EE.down];rfl)) (ww ?_)
     obtain⟨a10,ha10,h⟩:=bi h
     refine t_app (enc:=eWorkItem) (xs:=o3_0) rfl rfl (by first|rfl|simp only[List.length_set]|exact(clrL_len (slI_len (by assumption))).symm) rfl (rows_full (enc:=eWorkItem) (by first|rfl|simp only[List.length_set]|exact(clrL_len (slI_len (by assumption))).symm) rfl) ha10 (ww ?_)
     cases h
     exact eM [some 0,some 1,some 2,some 3] rfl
    cases h
    exact eM [some 0,some 1,some 2,some 3] rfl
   rintro _ rfl
   clear ho
   refine ww ?_
   rw[wrapN (by omega)]
   exact eL' (x0.Disrupted.length-(o3_1+1)) [some 0,some 1,some 2,some 3] ⟨o3_1+1,o5,⟨by omega,rfl⟩,rfl,h⟩ (by omega)
  rw[countN (show¬((o3_1:Int)<(x0.Disrupted.length:Int))from c4),F12_l3]at h
  refine ww ?_
  cases h
  exact eM [some 0,some 1,some 2,some 3] rfl
 rintro _ rfl
 clear ho
 refine ww ?_
 obtain⟨o12,ho,h⟩:=bi h
 refine cutS (fun s=>s=⟨[(2,oc (dI x2)),(4,Pz 0),(8,Pz 1),(9,Pz 2)],[xb (bBudget x0),xb [dS ((⟨#[]⟩:ByteArray)),dS ((⟨#[]⟩:ByteArray)),dS ((⟨#[]⟩:ByteArray)),dI 0,dI 0,dI 0,dI 0,dB false,dI 0,dN,dN,dN,dN,dN,dN,dN,dI 0,dI 0,dI 0,dI 0,dI 0,dN],xb [dS x0.Meta.Kind,dS x0.Meta.Namespace,dS x0.Meta.Name,dI x0.Meta.Uid,dI x0.Meta.Version,dI x0.Meta.Generation,dI x0.Meta.Created,dB x0.Meta.Deleting,dI x0.Meta.DeleteAt,dM (x0.Meta.Labels.map eLabel),dM (x0.Meta.Owners.map eOwner),dM (x0.Meta.Finalizers.map eS),dM (x0.Meta.Managers.map eManager),dM (x0.Selector.map eRequirement),dM (x0.MinAvailable.map eAmount),dM (x0.MaxUnavailable.map eAmount),dI x0.Meta.Generation,dI o12,dI x0.Desired,dI x0.Expected,dI x0.Allowed,.own 3 0 0 (o3.length) none],some (.arr 0 2 (o3.map eWorkItem))]⟩) ?_ ?_
 ·have h:=ho
  clear ho
  obtain⟨_,hk,h⟩:=bi h
  have hk:=ck_some hk
  refine ww ?_
  refine bL (fun j s=>∃(o12_1:Nat) (o12_0:Int),(o12_1≤x1.length∧j=x1.length-o12_1)∧s=⟨[(1,oc (dM (x1.map ePod))),(2,oc (dI x2)),(4,Pz 0),(8,Pz 1),(9,Pz 2),(13,oc (dI ((o12_1:Int))))],[xb (bBudget x0),xb [dS ((⟨#[]⟩:ByteArray)),dS ((⟨#[]⟩:ByteArray)),dS ((⟨#[]⟩:ByteArray)),dI 0,dI 0,dI 0,dI 0,dB false,dI 0,dN,dN,dN,dN,dN,dN,dN,dI 0,dI 0,dI 0,dI 0,dI 0,dN],xb [dS x0.Meta.Kind,dS x0.Meta.Namespace,dS x0.Meta.Name,dI x0.Meta.Uid,dI x0.Meta.Version,dI x0.Meta.Generation,dI x0.Meta.Created,dB x0.Meta.Deleting,dI x0.Meta.DeleteAt,dM (x0.Meta.Labels.map eLabel),dM (x0.Meta.Owners.map eOwner),dM (x0.Meta.Finalizers.map eS),dM (x0.Meta.Managers.map eManager),dM (x0.Selector.map eRequirement),dM (x0.MinAvailable.map eAmount),dM (x0.MaxUnavailable.map eAmount),dI x0.Meta.Generation,dI o12_0,dI x0.Desired,dI x0.Expected,dI x0.Allowed,.own 3 0 0 (o3.length) none],some (.arr 0 2 (o3.map eWorkItem))]⟩∧F12_l12 o3 x0 (x1.drop o12_1) o12_1 o12_0=some o12) (x1.length-0) [some 0,some 1,some 2,some 3] ⟨0,0,⟨hk.1,rfl⟩,rfl,h⟩ ?_
  rintro _ _ ⟨o12_1,o12_0,⟨hi,rfl⟩,rfl,h⟩
  refine ww ?_
  refine condS (fun c13=>?_) (fun c13=>?_)
  ·obtain⟨xo12,hxo12,hd⟩:=countY (show(o12_1:Int)<(x1.length:Int)from c13)
   rw[hd,F12_l12]at h
   refine ww ?_
   obtain⟨o14,ho,h⟩:=bi h
   refine cutS (fun s=>s=⟨[(1,oc (dM (x1.map ePod))),(2,oc (dI x2)),(4,Pz 0),(8,Pz 1),(9,Pz 2),(13,oc (dI ((o12_1:Int))))],[xb (bBudget x0),xb [dS ((⟨#[]⟩:ByteArray)),dS ((⟨#[]⟩:ByteArray)),dS ((⟨#[]⟩:ByteArray)),dI 0,dI 0,dI 0,dI 0,dB false,dI 0,dN,dN,dN,dN,dN,dN,dN,dI 0,dI 0,dI 0,dI 0,dI 0,dN],xb [dS x0.Meta.Kind,dS x0.Meta.Namespace,dS x0.Meta.Name,dI x0.Meta.Uid,dI x0.Meta.Version,dI x0.Meta.Generation,dI x0.Meta.Created,dB x0.Meta.Deleting,dI x0.Meta.DeleteAt,dM (x0.Meta.Labels.map eLabel),dM (x0.Meta.Owners.map eOwner),dM (x0.Meta.Finalizers.map eS),dM (x0.Meta.Managers.map eManager),dM (x0.Selector.map eRequirement),dM (x0.MinAvailable.map eAmount),dM (x0.MaxUnavailable.map eAmount),dI x0.Meta.Generation,dI o14,dI x0.Desired,dI x0.Expected,dI x0.Allowed,.own 3 0 0 (o3.length) none],some (.arr 0 2 (o3.map eWorkItem))]⟩) ?_ ?_
   ·have h:=ho
    clear ho
    refine ww ?_
    obtain⟨o15,ho,h⟩:=bi h
    refine cutS (fun s=>s=⟨[(1,oc (dM (x1.map ePod))),(2,oc (dI x2)),(4,Pz 0),(8,Pz 1),(9,Pz 2),(13,oc (dI ((o12_1:Int)))),(83,oc (dB o15))],[xb (bBudget x0),xb [dS ((⟨#[]⟩:ByteArray)),dS ((⟨#[]⟩:ByteArray)),dS ((⟨#[]⟩:ByteArray)),dI 0,dI 0,dI 0,dI 0,dB false,dI 0,dN,dN,dN,dN,dN,dN,dN,dI 0,dI 0,dI 0,dI 0,dI 0,dN],xb [dS x0.Meta.Kind,dS x0.Meta.Namespace,dS x0.Meta.Name,dI x0.Meta.Uid,dI x0.Meta.Version,dI x0.Meta.Generation,dI x0.Meta.Created,dB x0.Meta.Deleting,dI x0.Meta.DeleteAt,dM (x0.Meta.Labels.map eLabel),dM (x0.Meta.Owners.map eOwner),dM (x0.Meta.Finalizers.map eS),dM (x0.Meta.Managers.map eManager),dM (x0.Selector.map eRequirement),dM (x0.MinAvailable.map eAmount),dM (x0.MaxUnavailable.map eAmount),dI x0.Meta.Generation,dI o12_0,dI x0.Desired,dI x0.Expected,dI x0.Allowed,.own 3 0 0 (o3.length) none],some (.arr 0 2 (o3.map eWorkItem))]⟩) ?_ ?_
    ·have h:=ho
     clear ho
     refine ww ?_
     refine t_idxF (enc:=ePod) (xs:=x1) rfl rfl hxo12 rfl (ww ?_)
     obtain⟨t16,ht16,h⟩:=bi h
     refine cN [] (F35_ok ht16) trivial (ww ?_)
     refine guardDBh h (fun g17 h=>ww ?_) (fun g17 h=>ww ?_)
     ·refine t_idxF (enc:=ePod) (xs:=x1) rfl rfl hxo12 rfl (ww ?_)
      obtain⟨t18,ht18,h⟩:=bi h
      refine cN [] (F36_ok ht18) trivial (ww ?_)
      refine guardDBh h (fun g19 h=>ww ?_) (fun g19 h=>ww ?_)
      ·refine t_idxF (enc:=ePod) (xs:=x1) rfl rfl hxo12 rfl (ww ?_)
       obtain⟨t20,ht20,h⟩:=bi h
       refine cN [] (F20_ok ht20) trivial (ww ?_)
       obtain⟨t21,ht21,h⟩:=bi h
       refine callX_bor (F37_ok ht21) (by simp only[borAs,bors,hp,List.getElem?_cons_zero,List.getElem?_cons_succ,Option.join_some,List.drop_zero,bor_full',true_and,Nat.zero_add,List.length_map,Nat.le_refl,nrm,List.length_cons,List.length_nil,Nat.reduceAdd,Nat.reduceLeDiff,List.take_succ_cons,List.take_zero,List.take_nil,List.map_cons,List.map_nil,List.length_set,EE.down]) rfl ?_
       refine ww ?_
       cases h
       exact eM [some 0,some 1,some 2,some 3] rfl
      cases h
      exact eM [some 0,some 1,some 2,some 3] rfl
     cases h
     exact eM [some 0,some 1,some 2,some 3] rfl
    rintro _ rfl
    clear ho
    refine ww ?_
    refine condBh h (fun c22 h=>ww ?_) (fun c22 h=>ww ?_)
    ·cases h
     exact eM [some 0,some 1,some 2,some 3] rfl
    cases h
    exact eM [some 0,some 1,some 2,some 3] rfl
   rintro _ rfl
   clear ho
   refine ww ?_
   rw[wrapN (by omega)]
   exact eL' (x1.length-(o12_1+1)) [some 0,some 1,some 2,some 3] ⟨o12_1+1,o14,⟨by omega,rfl⟩,rfl,h⟩ (by omega)
  rw[countN (show¬((o12_1:Int)<(x1.length:Int))from c13),F12_l12]at h
  refine ww ?_
  cases h
  exact eM [some 0,some 1,some 2,some 3] rfl
 rintro _ rfl
 clear ho
 refine ww ?_
 obtain⟨t24,ht24,h⟩:=bi h
 refine cN [] (F22_ok ht24) trivial (ww ?_)
 obtain⟨o25,ho,h⟩:=bi h
 refine cutS (fun s=>s=⟨[(8,Pz 0),(9,Pz 1)],[xb [dS ((⟨#[]⟩:ByteArray)),dS ((⟨#[]⟩:ByteArray)),dS ((⟨#[]⟩:ByteArray)),dI 0,dI 0,dI 0,dI 0,dB false,dI 0,dN,dN,dN,dN,dN,dN,dN,dI 0,dI 0,dI 0,dI 0,dI 0,dN],xb [dS x0.Meta.Kind,dS x0.Meta.Namespace,dS x0.Meta.Name,dI x0.Meta.Uid,dI x0.Meta.Version,dI x0.Meta.Generation,dI x0.Meta.Created,dB x0.Meta.Deleting,dI x0.Meta.DeleteAt,dM (x0.Meta.Labels.map eLabel),dM (x0.Meta.Owners.map eOwner),dM (x0.Meta.Finalizers.map eS),dM (x0.Meta.Managers.map eManager),dM (x0.Selector.map eRequirement),dM (x0.MinAvailable.map eAmount),dM (x0.MaxUnavailable.map eAmount),dI x0.Meta.Generation,dI o12,dI o25,dI ((if(1000000000000000:Int)<(if x2<(0:Int)then(0:Int)else x2)then(1000000000000000:Int)else(if x2<(0:Int)then(0:Int)else x2))),dI x0.Allowed,.own 2 0 0 (o3.length) none],some (.arr 0 2 (o3.map eWorkItem))]⟩) ?_ ?_
 ·have h:=ho
  clear ho
  refine ww ?_
  refine condSh h (fun c26 h=>ww ?_) (fun c26 h=>ww ?_)
  ·obtain⟨y27,hy27,h⟩:=bi h
   refine t_idxF (enc:=eAmount) (xs:=x0.MinAvailable) rfl rfl hy27 rfl (ww ?_)
   obtain⟨t28,ht28,h⟩:=bi h
   refine cN [] (F38_ok ht28) trivial (ww ?_)
   cases h
   exact eM [some 1,some 2,some 3] rfl
  refine condSh h (fun c29 h=>ww ?_) (fun c29 h=>ww ?_)
  ·obtain⟨y30,hy30,h⟩:=bi h
   refine t_idxF (enc:=eAmount) (xs:=x0.MaxUnavailable) rfl rfl hy30 rfl (ww ?_)
   obtain⟨t31,ht31,h⟩:=bi h
   refine cN [] (F38_ok ht31) trivial (ww ?_)
   cases h
   exact eM [some 1,some 2,some 3] rfl
  cases h
  exact eM [some 1,some 2,some 3] rfl
 rintro _ rfl
 clear ho
 refine ww ?_
 cases h
 exact eF [some 2]
def F3(x0:Budget)(x1:(List Pod))(x2:Int)(x3:Int):Option (Bool):=(F8 ([x0]) x1).bind fun t1=>(if t1=true then(F9).bind fun t3=>some t3 else(((F11 x0 x1 x2 x3).bind fun t5=>(F12 x0 x1 x2 x3).bind fun t6=>(F10 ((⟨(⟨x0.Meta.Kind,x0.Meta.Namespace,x0.Meta.Name,x0.Meta.Uid,x0.Meta.Version,x0.Meta.Generation,x0.Meta.Created,x0.Meta.Deleting,x0.Meta.DeleteAt,t5.1,t5.2.1,t5.2.2.1,t5.2.2.2.1⟩:Meta),t5.2.2.2.2.1,t5.2.2.2.2.2.1,t5.2.2.2.2.2.2.1,x0.Meta.Generation,t5.2.2.2.2.2.2.2.1,t5.2.2.2.2.2.2.2.2.1,(if(1000000000000000:Int)<(if x2<0 then 0 else x2)then(1000000000000000:Int)else(if x2<0 then 0 else x2)),t5.2.2.2.2.2.2.2.2.2.1,t5.2.2.2.2.2.2.2.2.2.2⟩:Budget)) ((⟨x0.Meta,x0.Selector,x0.MinAvailable,x0.MaxUnavailable,x0.Meta.Generation,t6.1,t6.2.1,(if(1000000000000000:Int)<(if x2<(0:Int)then(0:Int)else x2)then(1000000000000000:Int)else(if x2<(0:Int)then(0:Int)else x2)),t6.2.2.1,t6.2.2.2⟩:Budget))).bind fun t7=>(if t7=true then(F9).bind fun t9=>some t9 else some false)).bind fun o4=>some o4))
def a3:AFn:=⟨28,[(.tmp 8)],
 (.seq (.reg [Qg 4 0,
Qf 8 false])
 (.seq (.seq (.reg [Qc 9 22 4,
sq 10 (.bslice 22 [(.t 9)]),
Qa 11 1,
Ql 12 8 10 11])
 (.cond (.t 12)
 (.seq (.reg [sq 13 (.call 9 []),
Qa 8 13])
 .ret)
 .skip))
 (.seq (.sem (.regd [Qc 14 22 4,
Qa 15 1,
Qa 16 2,
Qa 17 3,
zn 18 (.call 11 [(.t 14),(.t 15),(.t 16),(.t 17)]) [0,1,2,3] [0,1,2,3],
Qc 19 22 4,
Qa 20 1,
Qa 21 2,
Qa 22 3,
zl 23 (.call 12 [(.t 19),(.t 20),(.t 21),(.t 22)]) [0,1,2,3,4,5,6,7,8] [],
zl 24 (.call 10 [(.t 18),(.t 23)]) [0,1,2,3,4,5,6,7,8,9] [],
sd 25 (.mv (.t 24)) [0,1,2,3,4,5,6,7,8,9,10],
⟨(some 26),(some (25,true)),.call 9 [],[0,1,2,3,4,5,6,7,8,9,10,11],(.lone [])⟩,
zl 27 (.pick (.t 25) (.t 26) (kB false)) [0,1,2,3,4,5,6,7,8,9,10,11,12] [],
sd 8 (.mv (.t 27)) [0,1,2,3,4,5,6,7,8,9,10,11,12,13]]))
 .ret)))⟩
theorem F3_ok{x0 x1 x2 x3 r}(h:F3 x0 x1 x2 x3=some r):CallD Try.prog 3 [.agg (bBudget x0),.c (dM (x1.map ePod)),.c (dI x2),.c (dI x3)] [] (tupV [.c (dB r)]) []:=by
 rw[F3]at h
 refine zc a3 (by kernel_rfl) rfl (ww ?_)
 refine t_bslice (enc:=eBudget) (ys:=[x0]) rfl rfl (by simp[A1.cells]) (by first|rfl|(simp only[List.drop_zero,take_mapL];rfl)|(simp only[lit,List.map_cons,List.map_nil,List.drop_zero,take_mapL,EE.down];done)|(simp only[lit,List.map_cons,List.map_nil,List.drop_zero,take_mapL,EE.down];rfl)) (ww ?_)
 obtain⟨t1,ht1,h⟩:=bi h
 refine callX_bor (F8_ok ht1) (by simp only[borAs,bors,hp,List.getElem?_cons_zero,List.getElem?_cons_succ,Option.join_some,List.drop_zero,bor_full',true_and,Nat.zero_add,List.length_map,Nat.le_refl,nrm,List.length_cons,List.length_nil,Nat.reduceAdd,Nat.reduceLeDiff,List.take_succ_cons,List.take_zero,List.take_nil,List.map_cons,List.map_nil,List.length_set,EE.down]) rfl ?_
 refine ww ?_
 refine condBh h (fun c2 h=>ww ?_) (fun c2 h=>ww ?_)
 ·obtain⟨t3,ht3,h⟩:=bi h
  refine cN [] (F9_ok ht3) trivial (ww ?_)
  cases h
  exact eF []
 obtain⟨o4,ho,h⟩:=bi h
 refine cutS (fun s=>s=⟨[(8,oc (dB o4))],[]⟩) ?_ ?_
 ·have h:=ho
  clear ho
  refine ww ?_
  obtain⟨t5,ht5,h⟩:=bi h
  refine cN [] (F11_ok ht5) trivial (ww ?_)
  refine kD_new (by simp[wrs,allW,hset]) (ww ?_)
  obtain⟨t6,ht6,h⟩:=bi h
  refine cN [] (F12_ok ht6) trivial (ww ?_)
  obtain⟨t7,ht7,h⟩:=bi h
  refine callX_bor (F10_ok ht7) (by simp only[borAs,bors,hp,List.getElem?_cons_zero,List.getElem?_cons_succ,Option.join_some,List.drop_zero,bor_full',true_and,Nat.zero_add,List.length_map,Nat.le_refl,nrm,List.length_cons,List.length_nil,Nat.reduceAdd,Nat.reduceLeDiff,List.take_succ_cons,List.take_zero,List.take_nil,List.map_cons,List.map_nil,List.length_set,EE.down]) rfl ?_
  refine ww ?_
  refine guardDBh h (fun g8 h=>ww ?_) (fun g8 h=>ww ?_)
  ·obtain⟨t9,ht9,h⟩:=bi h
   refine cN [] (F9_ok ht9) trivial (ww ?_)
   cases h
   exact eM [] rfl
  cases h
  exact eM [] rfl
 rintro _ rfl
 clear ho
 refine ww ?_
 cases h
 exact eF []
end Go.Proofs.Ytedgocbpegllaaa
