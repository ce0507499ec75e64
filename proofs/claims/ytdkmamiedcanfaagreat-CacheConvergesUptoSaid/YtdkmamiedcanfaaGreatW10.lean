/- Each Go function as a function over typed data, and its walk. -/
import Derived.Test.YtdkmamiedcanfaaGreatW0
import Derived.Test.YtdkmamiedcanfaaGreatW1
import Derived.Test.YtdkmamiedcanfaaGreatW2
import Derived.Test.YtdkmamiedcanfaaGreatW3
import Derived.Test.YtdkmamiedcanfaaGreatW5
import Derived.Test.YtdkmamiedcanfaaGreatW7
import Derived.Test.YtdkmamiedcanfaaGreatW8
namespace Go.Proofs.YtdkmamiedcanfaaGreat
open Go Go.Fw Go.Shelf
set_option maxRecDepth 100000
set_option maxHeartbeats 4000000
set_option linter.unusedSimpArgs false
set_option linter.unusedVariables false
def F102(x0:(List Object))(x1:ByteArray):Option (Int×Bool):=(F140 x0 x1).bind fun t1=>some ((t1.1,t1.2))
def a102:AFn:=⟨11,[(.tmp 4),(.tmp 5)],
 (.seq (.reg [Qe 4 0,
Qf 5 false])
 (.seq (.reg [Qa 6 0,
Qa 7 1,
sq 8 (.call 140 [(.t 6),(.t 7),(.f 141)]),
Qo 9 8 0,
Qo 10 8 1,
Qa 4 9,
Qa 5 10])
 .ret))⟩
theorem F102_ok{x0 x1 r}(h:F102 x0 x1=some r):An Tryz.prog 102 [.c (dM (x0.map Ad)),.c (dS x1)] [] (AL [.c (dI r.1),.c (dB r.2)]) []:=by
 rw[F102]at h
 refine zc a102 (by kernel_rfl) rfl (ww ?_)
 obtain⟨t1,ht1,h⟩:=bi h
 refine cN [] (F140_ok ht1) trivial (ww ?_)
 cases h
 exact eF []
def F147(x0:(List Object))(x1:Change):Option ((List Object)×Bool):=(F33 x1.Object.Meta).bind fun t1=>(F102 x0 t1).bind fun t2=>(((if x1.Kind=2 then some (nb t2.2)else some false)).bind fun o3=>(if o3=true then some ((x0,false))else(if x1.Kind=2 then(Tv x0 t2.1 ((IntKind.i64.wrap (t2.1+1)))).bind fun t7=>some ((t7,true))else(if t2.2=true then(rdI x0 t2.1).bind fun y9=>some (((x0.set t2.1.toNat x1.Object),true))else(Tq x0 t2.1 x1.Object).bind fun t10=>some ((t10,true))))))
def a147:AFn:=⟨49,[(.tmp 4),(.tmp 5)],
 (.seq (.reg [Qg 3 1,
sq 4 (.mv kN),
Qf 5 false])
 (.seq (.reg [Qa 9 0,
Qb 10 2 3,
Qb 11 0 10,
Qc 12 13 11,
Qk 13 33 12,
Ql 14 102 9 13,
Qa 8 14,
Qo 15 8 0,
Qo 16 8 1,
Qa 6 15,
Qa 7 16])
 (.seq (.block 0 (.seq (.sem (.reg [Qb 24 1 3,
Qd 25 24,
Qr 26 25 2,
Qa 27 26,
Qv 28 27 true 7,
zg 29 27 true (.not (.t 28)),
Qi 30 27 29,
Qa 23 30]))
 (.cond (.t 23)
 (.seq (.reg [Qa 31 0,
Qa 4 31,
Qf 5 false])
 .ret)
 (.seq (.reg [Qb 33 1 3,
Qd 34 33,
Qr 35 34 2,
Qa 32 35])
 (.cond (.t 32)
 (.seq (.reg [Qa 36 0,
Qa 37 6,
Qa 38 6,
Qm 39 38 1,
sq 40 (.call 183 [(.t 36),(.t 37),(.t 39)]),
Qa 4 40,
Qf 5 true])
 .ret)
 (.seq (.reg [Qa 42 7,
Qa 41 42])
 (.cond (.t 41)
 (.reg [Qa 43 0,
Qa 44 6,
Qb 45 2 3,
Qc 46 23 45,
Qp 47 23 43 44,
⟨none,none,.store 23 (.t 47) (.t 46),[],(.lone [3,45,43])⟩])
 (.reg [Qa 17 0,
Qa 18 6,
Qb 19 2 3,
Qc 20 23 19,
sq 21 (.bslice 23 [(.t 20)]),
sq 22 (.call 184 [(.t 17),(.t 18),(.t 21)]),
Qa 0 22]))))))))
 (.seq (.reg [Qa 48 0,
Qa 4 48,
Qf 5 true])
 .ret))))⟩
theorem F147_ok{x0 x1 r}{e0:Nat}(h:F147 x0 x1=some r):An Tryz.prog 147 [.c (.own 0 e0 0 (x0.length) none),.agg (EY x1)] [some (.arr e0 23 (x0.map Ad))] (AL [.c (.own 0 (e0+2) 0 (r.1.length) none),.c (dB r.2)]) [some (.arr (e0+2) 23 (r.1.map Ad))]:=by
 rw[F147]at h
 refine zc a147 (by kernel_rfl) rfl (ww ?_)
 obtain⟨t1,ht1,h⟩:=bi h
 refine cN [] (F33_ok ht1) trivial (ww ?_)
 obtain⟨t2,ht2,h⟩:=bi h
 refine D8 (F102_ok ht2) (by simp only[Fm,Fs,hp,List.getElem?_cons_zero,List.getElem?_cons_succ,Option.join_some,List.drop_zero,BB,true_and,Nat.zero_add,List.length_map,Nat.le_refl,nrm,List.length_cons,List.length_nil,Nat.reduceAdd,Nat.reduceLeDiff,List.take_succ_cons,List.take_zero,List.take_nil,List.map_cons,List.map_nil,List.length_set,EE.down]) rfl ?_
 refine ww ?_
 obtain⟨o3,ho,h⟩:=bi h
 refine AB (fun s=>s=⟨[(0,oc (.own 0 e0 0 (x0.length) none)),(3,Pz 1),(6,oc (dI t2.1)),(7,oc (dB t2.2)),(23,oc (dB o3))],[some (.arr e0 23 (x0.map Ad)),xb (EY x1)]⟩) ?_ ?_
 ·have h:=ho
  clear ho
  refine ww ?_
  refine Af h (fun g4 h=>ww ?_) (fun g4 h=>ww ?_)
  ·cases h
   exact eM [some 0,some 1] rfl
  cases h
  exact eM [some 0,some 1] rfl
 rintro _ rfl
 clear ho
 refine ww ?_
 refine AE h (fun c5 h=>ww ?_) (fun c5 h=>ww ?_)
 ·cases h
  exact eF [some 0]
 refine AH h (fun c6 h=>ww ?_) (fun c6 h=>ww ?_)
 ·obtain⟨t7,ht7,h⟩:=bi h
  refine cN [0] (F183_ok (e0:=e0) ht7) ⟨⟨rfl,trivial⟩,trivial⟩ ?_
  refine ww ?_
  cases h
  exact eF [some 0]
 refine AE h (fun c8 h=>ww ?_) (fun c8 h=>ww ?_)
 ·obtain⟨y9,hy9,h⟩:=bi h
  refine Cx (enc:=Ad) (xs:=x0) rfl rfl rfl (by first|rfl|simp only[List.length_set]|exact(AN (AX (by assumption))).symm) hy9 (ww ?_)
  refine Fp.rd (y':=x1.Object) (Bk hy9).2.1 (by simp[EE.down]) (by first|rfl|(simp only[BB];rfl)) (ww ?_)
  cases h
  exact eF [some 0]
 refine BE (enc:=Ad) (ys:=[x1.Object]) rfl rfl (by simp[A1.cells]) (by first|rfl|(simp only[List.drop_zero,Aw];rfl)|(simp only[lit,List.map_cons,List.map_nil,List.drop_zero,Aw,EE.down];done)|(simp only[lit,List.map_cons,List.map_nil,List.drop_zero,Aw,EE.down];rfl)) (ww ?_)
 obtain⟨t10,ht10,h⟩:=bi h
 refine cN [0,2] (F184_ok (e0:=e0) (e1:=0) ht10) ⟨⟨rfl,trivial⟩,⟨⟨rfl,trivial⟩,trivial⟩⟩ ?_
 refine ww ?_
 cases h
 exact eF [some 0]
def F116_l3:List Change→Nat→(List Object)→Option ((List Object))
 |[],o3_1,o3_0=>some o3_0
 |xo3::xs,o3_1,o3_0=>(F147 o3_0 xo3).bind fun t5=>F116_l3 xs (o3_1+1) t5.1
def F116(x0:Ag)(x1:Int):Option ((List Object)):=(BI x0.Bt).bind fun t1=>(slI x0.Ac 0 ((IntKind.i64.wrap (x1-x0.As)))).bind fun s2=>(((ck (0≤s2.length∧s2.length≤4294967290)).bind fun u6=>F116_l3 s2 0 t1).bind fun o3=>some o3)
def a116:AFn:=⟨31,[(.tmp 4)],
 (.seq (.reg [Qg 2 0,
sq 4 (.mv kN)])
 (.seq (.reg [Qb 8 3 2,
Qd 9 8,
Qk 10 156 9,
Qa 5 10])
 (.seq (.seq (.reg [Qb 11 5 2,
Qd 12 11,
Qa 13 1,
Qb 14 1 2,
Qd 15 14,
sq 16 (.bin .sub (.t 13) (.t 15)),
sq 17 (.slice 25 (.t 12) none (some (.t 16)) none),
Qh 18 17,
Qe 19 0])
 (.sem (.block 0 (.loop (.seq (.reg [Qn 20 19 18])
 (.seq (.cond (.t 20)
 .skip
 (.exit 0))
 (.seq (.block 1 (.seq (.reg [Qp 21 25 17 19,
Qc 22 25 21,
sq 7 (.zbox [dI 0,dI 0,dS ⟨#[]⟩,dS ⟨#[]⟩,dS ⟨#[]⟩,dI 0,dI 0,dI 0,dI 0,dB false,dI 0,dN,dN,dN,dN,dI 0,dI 0,dS ⟨#[]⟩,dN,dN,dI 0,dI 0,dS ⟨#[]⟩,dN,dN]),
su (.store 25 (.t 7) (.t 22))])
 (.reg [Qa 24 5,
Qc 25 25 7,
Ql 26 147 24 25,
Qa 23 26,
Qo 27 23 0,
Qo 28 23 1,
Qa 5 27])))
 (.reg [Qm 29 19 1,
Qa 19 29]))))))))
 (.seq (.reg [Qa 30 5,
Qa 4 30])
 .ret))))⟩
theorem F116_ok{x0 x1 r}(h:F116 x0 x1=some r):An Tryz.prog 116 [.agg (AO x0),.c (dI x1)] [] (AL [.c (.own 0 0 0 (r.length) none)]) [some (.arr 0 23 (r.map Ad))]:=by
 rw[F116]at h
 refine zc a116 (by kernel_rfl) rfl (ww ?_)
 obtain⟨t1,ht1,h⟩:=bi h
 refine cN [] (F156_ok ht1) trivial (ww ?_)
 obtain⟨s2,hs2,h⟩:=bi h
 refine H8 (enc:=A9) (xs:=x0.Ac) rfl rfl rfl (fun _=>rfl) hs2 (ww ?_)
 obtain⟨o3,ho,h⟩:=bi h
 refine AB (fun s=>s=⟨[(5,oc (.own 0 0 0 (o3.length) none))],[some (.arr 0 23 (o3.map Ad))]⟩) ?_ ?_
 ·have h:=ho
  clear ho
  obtain⟨_,hk,h⟩:=bi h
  have hk:=AS hk
  refine ww ?_
  refine bL (fun j s=>∃(o3_1:Nat) (o3_0:List Object),(o3_1≤s2.length∧j=s2.length-o3_1)∧s=⟨[(5,oc (.own 0 0 0 (o3_0.length) none)),(17,oc (dM (s2.map A9))),(18,oc (dI ((s2.length:Int)))),(19,oc (dI ((o3_1:Int))))],[some (.arr 0 23 (o3_0.map Ad))]⟩∧F116_l3 (s2.drop o3_1) o3_1 o3_0=some o3) (s2.length-0) [some 1] ⟨0,t1,⟨hk.1,rfl⟩,rfl,h⟩ ?_
  rintro _ _ ⟨o3_1,o3_0,⟨hi,rfl⟩,rfl,h⟩
  refine ww ?_
  refine Bg (fun c4=>?_) (fun c4=>?_)
  ·obtain⟨xo3,hxo3,hd⟩:=A5 (show(o3_1:Int)<(s2.length:Int)from c4)
   rw[hd,F116_l3]at h
   refine ww ?_
   refine Az (enc:=A9) (xs:=s2) rfl rfl hxo3 rfl (ww ?_)
   obtain⟨t5,ht5,h⟩:=bi h
   refine cN [0] (F147_ok (e0:=0) ht5) ⟨⟨rfl,trivial⟩,trivial⟩ ?_
   refine ww ?_
   rw[AW (by omega)]
   exact eL' (s2.length-(o3_1+1)) [some 0] ⟨o3_1+1,t5.1,⟨by omega,rfl⟩,rfl,h⟩ (by omega)
  rw[A6 (show¬((o3_1:Int)<(s2.length:Int))from c4),F116_l3]at h
  refine ww ?_
  cases h
  exact eM [some 0] rfl
 rintro _ rfl
 clear ho
 refine ww ?_
 cases h
 exact eF [some 0]
def F115_l1:List Object→Nat→(List Object)→Option ((List Object))
 |[],o1_1,o1_0=>some o1_0
 |xo1::xs,o1_1,o1_0=>(F105 xo1).bind fun t3=>(apI o1_0 ([(⟨(⟨xo1.Meta.Kind,xo1.Meta.Namespace,xo1.Meta.Name,xo1.Meta.Uid,xo1.Meta.Version,xo1.Meta.Ai,xo1.Meta.Created,xo1.Meta.Av,xo1.Meta.Ar,t3.1,t3.2.1,t3.2.2.1,t3.2.2.2.1⟩:Meta),(⟨t3.2.2.2.2.1,t3.2.2.2.2.2.1,t3.2.2.2.2.2.2.1,t3.2.2.2.2.2.2.2.1,t3.2.2.2.2.2.2.2.2.1⟩:Ab),(⟨t3.2.2.2.2.2.2.2.2.2.1,t3.2.2.2.2.2.2.2.2.2.2.1,t3.2.2.2.2.2.2.2.2.2.2.2.1,t3.2.2.2.2.2.2.2.2.2.2.2.2.1,t3.2.2.2.2.2.2.2.2.2.2.2.2.2⟩:Ab)⟩:Object)])).bind fun a4=>F115_l1 xs (o1_1+1) a4
def F115(x0:(List Object)):Option ((List Object)):=(((ck (0≤x0.length∧x0.length≤4294967290)).bind fun u5=>F115_l1 x0 0 ([])).bind fun o1=>some o1)
def a115:AFn:=⟨19,[(.tmp 2)],
 (.seq (.reg [sq 2 (.mv kN)])
 (.seq (.reg [sq 3 (.mv kN)])
 (.seq (.seq (.reg [Qa 6 0,
Qh 7 6,
Qe 8 0])
 (.sem (.block 0 (.loop (.seq (.reg [Qn 9 8 7])
 (.seq (.cond (.t 9)
 .skip
 (.exit 0))
 (.seq (.block 1 (.seq (.reg [Qp 10 23 6 8,
Qc 11 23 10,
sq 5 (.zbox [dS ⟨#[]⟩,dS ⟨#[]⟩,dS ⟨#[]⟩,dI 0,dI 0,dI 0,dI 0,dB false,dI 0,dN,dN,dN,dN,dI 0,dI 0,dS ⟨#[]⟩,dN,dN,dI 0,dI 0,dS ⟨#[]⟩,dN,dN]),
su (.store 23 (.t 5) (.t 11))])
 (.reg [Qa 12 3,
Qc 13 23 5,
Qk 14 105 13,
sq 15 (.bslice 23 [(.t 14)]),
sq 16 (.app 23 352 (.t 12) (.t 15)),
Qa 3 16])))
 (.reg [Qm 17 8 1,
Qa 8 17]))))))))
 (.seq (.reg [Qa 18 3,
Qa 2 18])
 .ret))))⟩
theorem F115_ok{x0 r}(h:F115 x0=some r):An Tryz.prog 115 [.c (dM (x0.map Ad))] [] (AL [.c (.own 0 0 0 (r.length) none)]) [some (.arr 0 23 (r.map Ad))]:=by
 rw[F115]at h
 refine zc a115 (by kernel_rfl) rfl (ww ?_)
 obtain⟨o1,ho,h⟩:=bi h
 refine AB (fun s=>s=⟨[(3,oc (.own 0 0 0 (o1.length) none))],[some (.arr 0 23 (o1.map Ad))]⟩) ?_ ?_
 ·have h:=ho
  clear ho
  obtain⟨_,hk,h⟩:=bi h
  have hk:=AS hk
  refine ww ?_
  refine bL (fun j s=>∃(o1_1:Nat) (o1_0:List Object),(o1_1≤x0.length∧j=x0.length-o1_1)∧s=⟨[(3,oc (.own 0 0 0 (o1_0.length) none)),(6,oc (dM (x0.map Ad))),(7,oc (dI ((x0.length:Int)))),(8,oc (dI ((o1_1:Int))))],[some (.arr 0 23 (o1_0.map Ad))]⟩∧F115_l1 (x0.drop o1_1) o1_1 o1_0=some o1) (x0.length-0) [none] ⟨0,[],⟨hk.1,rfl⟩,rfl,h⟩ ?_
  rintro _ _ ⟨o1_1,o1_0,⟨hi,rfl⟩,rfl,h⟩
  refine ww ?_
  refine Bg (fun c2=>?_) (fun c2=>?_)
  ·obtain⟨xo1,hxo1,hd⟩:=A5 (show(o1_1:Int)<(x0.length:Int)from c2)
   rw[hd,F115_l1]at h
   refine ww ?_
   refine Az (enc:=Ad) (xs:=x0) rfl rfl hxo1 rfl (ww ?_)
   obtain⟨t3,ht3,h⟩:=bi h
   refine cN [] (F105_ok ht3) trivial (ww ?_)
   refine BE (enc:=Ad) (ys:=[(⟨(⟨xo1.Meta.Kind,xo1.Meta.Namespace,xo1.Meta.Name,xo1.Meta.Uid,xo1.Meta.Version,xo1.Meta.Ai,xo1.Meta.Created,xo1.Meta.Av,xo1.Meta.Ar,t3.1,t3.2.1,t3.2.2.1,t3.2.2.2.1⟩:Meta),(⟨t3.2.2.2.2.1,t3.2.2.2.2.2.1,t3.2.2.2.2.2.2.1,t3.2.2.2.2.2.2.2.1,t3.2.2.2.2.2.2.2.2.1⟩:Ab),(⟨t3.2.2.2.2.2.2.2.2.2.1,t3.2.2.2.2.2.2.2.2.2.2.1,t3.2.2.2.2.2.2.2.2.2.2.2.1,t3.2.2.2.2.2.2.2.2.2.2.2.2.1,t3.2.2.2.2.2.2.2.2.2.2.2.2.2⟩:Ab)⟩:Object)]) rfl rfl (by simp[A1.cells]) (by first|rfl|(simp only[List.drop_zero,Aw];rfl)|(simp only[lit,List.map_cons,List.map_nil,List.drop_zero,Aw,EE.down];done)|(simp only[lit,List.map_cons,List.map_nil,List.drop_zero,Aw,EE.down];rfl)) (ww ?_)
   obtain⟨a4,ha4,h⟩:=bi h
   refine D6 (enc:=Ad) (xs:=o1_0) rfl rfl (by first|rfl|simp only[List.length_set]|exact(AN (AX (by assumption))).symm) rfl (Co (enc:=Ad) (by first|rfl|simp only[List.length_set]|exact(AN (AX (by assumption))).symm) rfl) ha4 (ww ?_)
   rw[AW (by omega)]
   exact eL' (x0.length-(o1_1+1)) [some 0] ⟨o1_1+1,a4,⟨by omega,rfl⟩,rfl,h⟩ (by omega)
  rw[A6 (show¬((o1_1:Int)<(x0.length:Int))from c2),F115_l1]at h
  refine ww ?_
  cases h
  exact eM [some 0] rfl
 rintro _ rfl
 clear ho
 refine ww ?_
 cases h
 exact eF [some 0]
def F83(x0:Ag)(x1:Int):Option ((List Object)×Int):=(((if x1<0 then some true else some (decide (x0.Rev<x1)))).bind fun o1=>(if o1=true then some (([],5))else(if x1<x0.As then some (([],10))else(F116 x0 x1).bind fun t5=>(F115 t5).bind fun t6=>some ((t6,0)))))
def a83:AFn:=⟨24,[(.tmp 4),(.tmp 5)],
 (.seq (.reg [Qg 2 0,
sq 4 (.mv kN),
Qe 5 0])
 (.seq (.block 0 (.seq (.sem (.reg [Qa 7 1,
sq 8 (.bin .lss (.t 7) (kI 0)),
Qa 9 8,
Qv 10 9 false 1,
Qs 11 9 false 0 2,
Qt 12 9 false 11,
zg 13 9 false (.bin .gtr (.t 10) (.t 12)),
Qj 14 9 13,
Qa 6 14]))
 (.cond (.t 6)
 (.seq (.reg [sq 4 (.mv kN),
Qe 5 5])
 .ret)
 (.seq (.reg [Qa 16 1,
Qb 17 1 2,
Qd 18 17,
Qn 19 16 18,
Qa 15 19])
 (.cond (.t 15)
 (.seq (.reg [sq 4 (.mv kN),
Qe 5 10])
 .ret)
 .skip)))))
 (.seq (.reg [Qc 20 6 2,
Qa 21 1,
Ql 22 116 20 21,
Qk 23 115 22,
Qa 4 23,
Qe 5 0])
 .ret)))⟩
theorem F83_ok{x0 x1 r}(h:F83 x0 x1=some r):An Tryz.prog 83 [.agg (AO x0),.c (dI x1)] [] (AL [.c (.own 0 0 0 (r.1.length) none),.c (dI r.2)]) [some (.arr 0 23 (r.1.map Ad))]:=by
 rw[F83]at h
 refine zc a83 (by kernel_rfl) rfl (ww ?_)
 obtain⟨o1,ho,h⟩:=bi h
 refine AB (fun s=>s=⟨[(1,oc (dI x1)),(2,Pz 0),(6,oc (dB o1))],[xb (AO x0)]⟩) ?_ ?_
 ·have h:=ho
  clear ho
  refine ww ?_
  refine Af h (fun g2 h=>ww ?_) (fun g2 h=>ww ?_)
  ·cases h
   exact eM [some 0] rfl
  cases h
  exact eM [some 0] rfl
 rintro _ rfl
 clear ho
 refine ww ?_
 refine AE h (fun c3 h=>ww ?_) (fun c3 h=>ww ?_)
 ·cases h
  exact eF [none]
 refine AH h (fun c4 h=>ww ?_) (fun c4 h=>ww ?_)
 ·cases h
  exact eF [none]
 obtain⟨t5,ht5,h⟩:=bi h
 refine cN [] (F116_ok ht5) trivial (ww ?_)
 obtain⟨t6,ht6,h⟩:=bi h
 refine Ce (as1:=[.c (dM (t5.map Ad))]) [(1,.arr 1 23 [])] [some 0,none] [] (F115_ok ht6) ⟨?_,rfl,?_⟩ ?_ ?_ ?_ ?_ ?_ ?_ ?_ ?_
 ·simp only[ZZ.down,Nat.reduceEqDiff,reduceCtorEq,Nat.reduceAdd,Nat.reduceLeDiff,Nat.reduceLT,Nat.reduceBNe,EE.down]
 ·simp only[ZZ.down,Nat.reduceEqDiff,reduceCtorEq,Nat.reduceAdd,Nat.reduceLeDiff,Nat.reduceLT,Nat.reduceBNe,EE.down]
 ·simp only[ZZ.down,Nat.reduceEqDiff,reduceCtorEq,Nat.reduceAdd,Nat.reduceLeDiff,Nat.reduceLT,Nat.reduceBNe,EE.down]
 ·rfl
 ·rfl
 ·simp[Cj,A1.live,C.live]
 ·rfl
 ·decide
 ·exact trivial
 refine ww ?_
 cases h
 exact eF [some 2]
def F104_l4:List Change→Nat→(List Change)→Option ((List Change))
 |[],o4_1,o4_0=>some o4_0
 |xo4::xs,o4_1,o4_0=>(rdI o4_0 ((o4_1:Int))).bind fun y6=>(F105 y6.Object).bind fun t7=>(rdI o4_0 ((o4_1:Int))).bind fun y8=>F104_l4 xs (o4_1+1) ((o4_0.set ((o4_1:Int)).toNat ((⟨y8.Rev,y8.Kind,(⟨(⟨y6.Object.Meta.Kind,y6.Object.Meta.Namespace,y6.Object.Meta.Name,y6.Object.Meta.Uid,y6.Object.Meta.Version,y6.Object.Meta.Ai,y6.Object.Meta.Created,y6.Object.Meta.Av,y6.Object.Meta.Ar,t7.1,t7.2.1,t7.2.2.1,t7.2.2.2.1⟩:Meta),(⟨t7.2.2.2.2.1,t7.2.2.2.2.2.1,t7.2.2.2.2.2.2.1,t7.2.2.2.2.2.2.2.1,t7.2.2.2.2.2.2.2.2.1⟩:Ab),(⟨t7.2.2.2.2.2.2.2.2.2.1,t7.2.2.2.2.2.2.2.2.2.2.1,t7.2.2.2.2.2.2.2.2.2.2.2.1,t7.2.2.2.2.2.2.2.2.2.2.2.2.1,t7.2.2.2.2.2.2.2.2.2.2.2.2.2⟩:Ab)⟩:Object)⟩:Change))))
def F104(x0:Ag):Option ((List Object)×(List Object)×(List Change)):=(F115 x0.Bt).bind fun t1=>(F115 x0.Aa).bind fun t2=>(BI x0.Ac).bind fun t3=>(((ck (0≤t3.length∧t3.length≤4294967290)).bind fun u9=>F104_l4 t3 0 t3).bind fun o4=>some ((t1,t2,o4)))
def a104:AFn:=⟨36,[(.cell 2 (some 6))],
 (.seq (.reg [Qg 1 0,
sq 2 (.zbox [dI 0,dI 0,dI 0,dN,dN,dN])])
 (.seq (.regd [Qb 4 3 1,
sd 5 (.load none (.t 4)) [0],
zn 6 (.call 115 [(.t 5)]) [0,1] [0,1],
Qb 7 4 1,
sd 8 (.load none (.t 7)) [3],
sd 9 (.call 115 [(.t 8)]) [0,1,2,3,4],
sd 10 (.fieldA 3 (.t 1)) [0,1,2,3,4],
⟨none,none,.store 1 (.t 10) (.t 6),[0,1,2,3,4,5,6],(.lone [])⟩,
sd 11 (.fieldA 4 (.t 1)) [0,1,2,3,4,5,6,7],
⟨none,none,.store 1 (.t 11) (.t 9),[0,1,2,3,4,5,6,7,8],(.lone [])⟩])
 (.seq (.reg [Qb 12 5 1,
Qd 13 12,
Qk 14 145 13,
Qb 15 5 1,
su (.store 1 (.t 15) (.t 14))])
 (.seq (.seq (.reg [Qb 16 5 1,
Qd 17 16,
Qh 18 17,
Qe 19 0])
 (.sem (.block 0 (.loop (.seq (.reg [Qn 20 19 18])
 (.seq (.cond (.t 20)
 .skip
 (.exit 0))
 (.seq (.block 1 (.seq (.reg [Qa 21 19,
Qa 3 21])
 (.regd [Qb 22 5 1,
sd 23 (.load none (.t 22)) [0],
Qa 24 3,
Qb 25 5 1,
sd 26 (.load none (.t 25)) [3],
Qa 27 3,
sd 28 (.indexA 25 (.t 26) (.t 27)) [3,4,5],
sd 29 (.fieldA 2 (.t 28)) [3,4,5,6],
sd 30 (.load (some 23) (.t 29)) [3,4,5,6,7],
zl 31 (.call 105 [(.t 30)]) [3,4,5,6,7,8] [1,22],
sd 32 (.indexA 25 (.t 23) (.t 24)) [0,1,2,3,4,5,6,7,8,9],
sd 33 (.fieldA 2 (.t 32)) [0,1,2,3,4,5,6,7,8,9,10],
⟨none,none,.store 23 (.t 33) (.t 31),[0,1,2,3,4,5,6,7,8,9,10,11],(.lone [])⟩])))
 (.reg [Qm 34 19 1,
Qa 19 34]))))))))
 (.seq (.reg [Qc 35 6 1,
⟨none,none,.store 6 (.t 2) (.t 35),[],(.lone [1])⟩])
 .ret)))))⟩
theorem F104_ok{x0 r}(h:F104 x0=some r):An Tryz.prog 104 [.agg (AO x0)] [] (AL [.agg [dI x0.Rev,dI x0.As,dI x0.Am,.own 0 0 0 (r.1.length) none,.own 1 0 0 (r.2.1.length) none,.own 2 0 0 (r.2.2.length) none]]) [some (.arr 0 23 (r.1.map Ad)),some (.arr 0 23 (r.2.1.map Ad)),some (.arr 0 25 (r.2.2.map A9))]:=by
 rw[F104]at h
 refine zc a104 (by kernel_rfl) rfl (ww ?_)
 obtain⟨t1,ht1,h⟩:=bi h
 refine cN [] (F115_ok ht1) trivial (ww ?_)
 refine B3 (by simp[wrs,B8,BV]) (ww ?_)
 obtain⟨t2,ht2,h⟩:=bi h
 refine cN [] (F115_ok ht2) trivial (ww ?_)
 refine B3 (by simp[wrs,B8,BV]) (ww ?_)
 obtain⟨t3,ht3,h⟩:=bi h
 refine cN [] (F145_ok ht3) trivial (ww ?_)
 obtain⟨o4,ho,h⟩:=bi h
 refine AB (fun s=>s=⟨[(1,Pz 0),(2,Pz 4)],[xb [dI x0.Rev,dI x0.As,dI x0.Am,.own 1 0 0 (t1.length) none,.own 2 0 0 (t2.length) none,.own 3 0 0 (o4.length) none],some (.arr 0 23 (t1.map Ad)),some (.arr 0 23 (t2.map Ad)),some (.arr 0 25 (o4.map A9)),xb [dI 0,dI 0,dI 0,dN,dN,dN]]⟩) ?_ ?_
 ·have h:=ho
  clear ho
  obtain⟨_,hk,h⟩:=bi h
  have hk:=AS hk
  refine ww ?_
  refine bL (fun j s=>∃(o4_1:Nat) (o4_0:List Change),(o4_1≤t3.length∧j=t3.length-o4_1)∧s=⟨[(1,Pz 0),(2,Pz 4),(18,oc (dI ((t3.length:Int)))),(19,oc (dI ((o4_1:Int))))],[xb [dI x0.Rev,dI x0.As,dI x0.Am,.own 1 0 0 (t1.length) none,.own 2 0 0 (t2.length) none,.own 3 0 0 (o4_0.length) none],some (.arr 0 23 (t1.map Ad)),some (.arr 0 23 (t2.map Ad)),some (.arr 0 25 (o4_0.map A9)),xb [dI 0,dI 0,dI 0,dN,dN,dN]]⟩∧F104_l4 (t3.drop o4_1) o4_1 o4_0=some o4) (t3.length-0) [some 0,some 2,some 3,some 4,some 1] ⟨0,t3,⟨hk.1,rfl⟩,rfl,h⟩ ?_
  rintro _ _ ⟨o4_1,o4_0,⟨hi,rfl⟩,rfl,h⟩
  refine ww ?_
  refine Bg (fun c5=>?_) (fun c5=>?_)
  ·obtain⟨xo4,hxo4,hd⟩:=A5 (show(o4_1:Int)<(t3.length:Int)from c5)
   rw[hd,F104_l4]at h
   refine ww ?_
   obtain⟨y6,hy6,h⟩:=bi h
   refine Cx (enc:=A9) (xs:=o4_0) rfl rfl rfl (by first|rfl|simp only[List.length_set]|exact(AN (AX (by assumption))).symm) hy6 (ww ?_)
   refine Es.rd (Bk hy6).2.1 (ww ?_)
   obtain⟨t7,ht7,h⟩:=bi h
   refine cN [] (F105_ok ht7) trivial (ww ?_)
   obtain⟨y8,hy8,h⟩:=bi h
   refine Cx (enc:=A9) (xs:=o4_0) rfl rfl rfl (by first|rfl|simp only[List.length_set]|exact(AN (AX (by assumption))).symm) hy8 (ww ?_)
   refine Fp.rd (y':=(⟨y8.Rev,y8.Kind,(⟨(⟨y6.Object.Meta.Kind,y6.Object.Meta.Namespace,y6.Object.Meta.Name,y6.Object.Meta.Uid,y6.Object.Meta.Version,y6.Object.Meta.Ai,y6.Object.Meta.Created,y6.Object.Meta.Av,y6.Object.Meta.Ar,t7.1,t7.2.1,t7.2.2.1,t7.2.2.2.1⟩:Meta),(⟨t7.2.2.2.2.1,t7.2.2.2.2.2.1,t7.2.2.2.2.2.2.1,t7.2.2.2.2.2.2.2.1,t7.2.2.2.2.2.2.2.2.1⟩:Ab),(⟨t7.2.2.2.2.2.2.2.2.2.1,t7.2.2.2.2.2.2.2.2.2.2.1,t7.2.2.2.2.2.2.2.2.2.2.2.1,t7.2.2.2.2.2.2.2.2.2.2.2.2.1,t7.2.2.2.2.2.2.2.2.2.2.2.2.2⟩:Ab)⟩:Object)⟩:Change)) (Bk hy8).2.1 (by simp[EE.down]) (by first|rfl|(simp only[BB];rfl)) (ww ?_)
   rw[AW (by omega)]
   exact eL' (t3.length-(o4_1+1)) [some 0,some 1,some 2,some 3,some 4] ⟨o4_1+1,(o4_0.set ((o4_1:Int)).toNat ((⟨y8.Rev,y8.Kind,(⟨(⟨y6.Object.Meta.Kind,y6.Object.Meta.Namespace,y6.Object.Meta.Name,y6.Object.Meta.Uid,y6.Object.Meta.Version,y6.Object.Meta.Ai,y6.Object.Meta.Created,y6.Object.Meta.Av,y6.Object.Meta.Ar,t7.1,t7.2.1,t7.2.2.1,t7.2.2.2.1⟩:Meta),(⟨t7.2.2.2.2.1,t7.2.2.2.2.2.1,t7.2.2.2.2.2.2.1,t7.2.2.2.2.2.2.2.1,t7.2.2.2.2.2.2.2.2.1⟩:Ab),(⟨t7.2.2.2.2.2.2.2.2.2.1,t7.2.2.2.2.2.2.2.2.2.2.1,t7.2.2.2.2.2.2.2.2.2.2.2.1,t7.2.2.2.2.2.2.2.2.2.2.2.2.1,t7.2.2.2.2.2.2.2.2.2.2.2.2.2⟩:Ab)⟩:Object)⟩:Change))),⟨by omega,rfl⟩,rfl,h⟩ (by omega)
  rw[A6 (show¬((o4_1:Int)<(t3.length:Int))from c5),F104_l4]at h
  refine ww ?_
  cases h
  exact eM [some 0,some 1,some 2,some 3,some 4] rfl
 rintro _ rfl
 clear ho
 refine ww ?_
 cases h
 exact eF [some 1,some 2,some 3]
def F110(x0:Ag)(x1:Int):Option ((List Object)×((List Change))):=(F116 x0 x1).bind fun t1=>(slI x0.Ac ((IntKind.i64.wrap (x1-x0.As))) ((x0.Ac.length:Int))).bind fun s2=>some ((t1,s2))
def a110:AFn:=⟨20,[(.cell 4 (some 6))],
 (.seq (.reg [Qg 2 0,
sq 4 (.zbox [dI 0,dI 0,dI 0,dN,dN,dN])])
 (.seq (.regd [Qc 5 6 2,
Qa 6 1,
zn 7 (.call 116 [(.t 5),(.t 6)]) [0,1] [0,1],
Qb 8 5 2,
sd 9 (.load none (.t 8)) [3],
Qa 10 1,
Qb 11 1 2,
sd 12 (.load none (.t 11)) [6],
sd 13 (.bin .sub (.t 10) (.t 12)) [5,6,7],
sd 14 (.slice 25 (.t 9) (some (.t 13)) none none) [3,4,5,6,7,8],
Qa 15 1,
sd 16 (.fieldA 3 (.t 2)) [0,1,2,3,4,6,7],
⟨none,none,.store 1 (.t 16) (.t 7),[0,1,2,3,4,6,7,11],(.lone [9])⟩,
sd 17 (.fieldA 5 (.t 2)) [0,1,2,3,4,5,6,7,8,9,11,12],
⟨none,none,.store 1 (.t 17) (.t 14),[0,1,2,3,4,5,6,7,8,9,11,12,13],(.lone [])⟩,
sd 18 (.fieldA 1 (.t 2)) [0,1,2,3,4,5,6,7,8,9,10,11,12,13,14],
⟨none,none,.store 1 (.t 18) (.t 15),[0,1,2,3,4,5,6,7,8,9,10,11,12,13,14,15],(.lone [])⟩])
 (.seq (.reg [Qc 19 6 2,
⟨none,none,.store 6 (.t 4) (.t 19),[],(.lone [2])⟩])
 .ret)))⟩
theorem F110_ok{x0 x1 r}(h:F110 x0 x1=some r):An Tryz.prog 110 [.agg (AO x0),.c (dI x1)] [] (AL [.agg [dI x0.Rev,dI x1,dI x0.Am,.own 0 0 0 (r.1.length) none,dM (x0.Aa.map Ad),dM (r.2.map A9)]]) [some (.arr 0 23 (r.1.map Ad))]:=by
 rw[F110]at h
 refine zc a110 (by kernel_rfl) rfl (ww ?_)
 obtain⟨t1,ht1,h⟩:=bi h
 refine cN [] (F116_ok ht1) trivial (ww ?_)
 refine B3 (by simp[wrs,B8,BV]) (ww ?_)
 obtain⟨s2,hs2,h⟩:=bi h
 refine H8 (enc:=A9) (xs:=x0.Ac) rfl rfl rfl (fun _=>rfl) hs2 (ww ?_)
 cases h
 exact eF [some 2]
def F107(x0:Ag)(x1:ByteArray):Option (ByteArray×ByteArray×ByteArray×Int×Int×Int×Int×Bool×Int×(List Label)×(List BO)×(List ByteArray)×(List AI)×Int×Int×ByteArray×((List Ab))×((List Ay))×Int×Int×ByteArray×((List Ab))×((List Ay))×Bool):=(F102 x0.Aa x1).bind fun t1=>(if t1.2=true then(rdI x0.Aa t1.1).bind fun y3=>(F105 y3).bind fun t4=>some ((y3.Meta.Kind,y3.Meta.Namespace,y3.Meta.Name,y3.Meta.Uid,y3.Meta.Version,y3.Meta.Ai,y3.Meta.Created,y3.Meta.Av,y3.Meta.Ar,t4.1,t4.2.1,t4.2.2.1,t4.2.2.2.1,t4.2.2.2.2.1,t4.2.2.2.2.2.1,t4.2.2.2.2.2.2.1,t4.2.2.2.2.2.2.2.1,t4.2.2.2.2.2.2.2.2.1,t4.2.2.2.2.2.2.2.2.2.1,t4.2.2.2.2.2.2.2.2.2.2.1,t4.2.2.2.2.2.2.2.2.2.2.2.1,t4.2.2.2.2.2.2.2.2.2.2.2.2.1,t4.2.2.2.2.2.2.2.2.2.2.2.2.2,true))else some (((⟨#[]⟩:ByteArray),(⟨#[]⟩:ByteArray),(⟨#[]⟩:ByteArray),0,0,0,0,false,0,[],[],[],[],0,0,(⟨#[]⟩:ByteArray),[],[],0,0,(⟨#[]⟩:ByteArray),[],[],false)))
def a107:AFn:=⟨23,[(.cell 4 (some 23)),(.tmp 5)],
 (.seq (.reg [Qg 2 0,
sq 4 (.zbox [dS ⟨#[]⟩,dS ⟨#[]⟩,dS ⟨#[]⟩,dI 0,dI 0,dI 0,dI 0,dB false,dI 0,dN,dN,dN,dN,dI 0,dI 0,dS ⟨#[]⟩,dN,dN,dI 0,dI 0,dS ⟨#[]⟩,dN,dN]),
Qf 5 false])
 (.seq (.seq (.reg [Qb 9 4 2,
Qd 10 9,
Qa 11 1,
Ql 12 102 10 11,
Qa 8 12,
Qo 13 8 0,
Qo 14 8 1,
Qa 6 13,
Qa 7 14])
 (.seq (.reg [Qa 15 7])
 (.cond (.t 15)
 (.seq (.reg [Qb 16 4 2,
Qd 17 16,
Qa 18 6,
Qp 19 23 17 18,
Qc 20 23 19,
Qk 21 105 20,
su (.store 23 (.t 4) (.t 21)),
Qf 5 true])
 .ret)
 .skip)))
 (.seq (.reg [sq 22 (.build [dS ⟨#[]⟩,dS ⟨#[]⟩,dS ⟨#[]⟩,dI 0,dI 0,dI 0,dI 0,dB false,dI 0,dN,dN,dN,dN,dI 0,dI 0,dS ⟨#[]⟩,dN,dN,dI 0,dI 0,dS ⟨#[]⟩,dN,dN] []),
su (.store 23 (.t 4) (.t 22)),
Qf 5 false])
 .ret)))⟩
theorem F107_ok{x0 x1 r}(h:F107 x0 x1=some r):An Tryz.prog 107 [.agg (AO x0),.c (dS x1)] [] (AL [.agg [dS r.1,dS r.2.1,dS r.2.2.1,dI r.2.2.2.1,dI r.2.2.2.2.1,dI r.2.2.2.2.2.1,dI r.2.2.2.2.2.2.1,dB r.2.2.2.2.2.2.2.1,dI r.2.2.2.2.2.2.2.2.1,.own 0 0 0 (r.2.2.2.2.2.2.2.2.2.1.length) none,.own 1 0 0 (r.2.2.2.2.2.2.2.2.2.2.1.length) none,.own 2 0 0 (r.2.2.2.2.2.2.2.2.2.2.2.1.length) none,.own 3 0 0 (r.2.2.2.2.2.2.2.2.2.2.2.2.1.length) none,dI r.2.2.2.2.2.2.2.2.2.2.2.2.2.1,dI r.2.2.2.2.2.2.2.2.2.2.2.2.2.2.1,dS r.2.2.2.2.2.2.2.2.2.2.2.2.2.2.2.1,dM (r.2.2.2.2.2.2.2.2.2.2.2.2.2.2.2.2.1.map Ap),dM (r.2.2.2.2.2.2.2.2.2.2.2.2.2.2.2.2.2.1.map Ao),dI r.2.2.2.2.2.2.2.2.2.2.2.2.2.2.2.2.2.2.1,dI r.2.2.2.2.2.2.2.2.2.2.2.2.2.2.2.2.2.2.2.1,dS r.2.2.2.2.2.2.2.2.2.2.2.2.2.2.2.2.2.2.2.2.1,dM (r.2.2.2.2.2.2.2.2.2.2.2.2.2.2.2.2.2.2.2.2.2.1.map Ap),dM (r.2.2.2.2.2.2.2.2.2.2.2.2.2.2.2.2.2.2.2.2.2.2.1.map Ao)],.c (dB r.2.2.2.2.2.2.2.2.2.2.2.2.2.2.2.2.2.2.2.2.2.2.2)]) [some (.arr 0 2 (r.2.2.2.2.2.2.2.2.2.1.map AY)),some (.arr 0 5 (r.2.2.2.2.2.2.2.2.2.2.1.map A3)),some (.arr 0 1 (r.2.2.2.2.2.2.2.2.2.2.2.1.map eS)),some (.arr 0 2 (r.2.2.2.2.2.2.2.2.2.2.2.2.1.map AG))]:=by
 rw[F107]at h
 refine zc a107 (by kernel_rfl) rfl (ww ?_)
 obtain⟨t1,ht1,h⟩:=bi h
 refine cN [] (F102_ok ht1) trivial (ww ?_)
 refine AE h (fun c2 h=>ww ?_) (fun c2 h=>ww ?_)
 ·obtain⟨y3,hy3,h⟩:=bi h
  refine Az (enc:=Ad) (xs:=x0.Aa) rfl rfl hy3 rfl (ww ?_)
  obtain⟨t4,ht4,h⟩:=bi h
  refine cN [] (F105_ok ht4) trivial (ww ?_)
  cases h
  exact eF [some 2,some 3,some 4,some 5]
 cases h
 exact eF [none,none,none,none]
def F148(rc115:Ab→Ab→Option (Int))(x0:Ab)(x1:Ab):Option (Int):=(F186 x0.Kind x1.Kind).bind fun t1=>(F186 x0.N x1.N).bind fun t2=>(F142 x0.S x1.S).bind fun t3=>(F187 rc115 x0.At x1.At).bind fun t4=>(F188 rc115 x0.Ae x1.Ae).bind fun t5=>(F185 ((lit [t1,t2,t3,t4,t5]))).bind fun t6=>some t6
def a148:AFn:=⟨32,[(.tmp 4)],
 (.seq (.reg [Qg 2 0,
Qg 3 1,
Qe 4 0])
 (.seq (.regd [Qb 5 0 2,
sd 6 (.load none (.t 5)) [0],
Qb 7 0 3,
sd 8 (.load none (.t 7)) [2],
zn 9 (.call 186 [(.t 6),(.t 8)]) [0,1,2,3] [0,1,2,3],
Qb 10 1 2,
sd 11 (.load none (.t 10)) [5],
Qb 12 1 3,
sd 13 (.load none (.t 12)) [7],
zn 14 (.call 186 [(.t 11),(.t 13)]) [0,1,2,3,4,5,6,7,8] [0,1,2,3,4,5,6,7,8],
Qb 15 2 2,
sd 16 (.load none (.t 15)) [10],
Qb 17 2 3,
sd 18 (.load none (.t 17)) [12],
zn 19 (.call 142 [(.t 16),(.t 18)]) [0,1,2,3,4,5,6,7,8,9,10,11,12,13] [0,1,2,3,4,5,6,7,8,9,10,11,12,13],
Qb 20 3 2,
sd 21 (.load none (.t 20)) [15],
Qb 22 3 3,
sd 23 (.load none (.t 22)) [17],
zn 24 (.call 187 [(.t 21),(.t 23),(.f 148)]) [0,1,2,3,4,5,6,7,8,9,10,11,12,13,14,15,16,17,18] [0,1,2,3,4,5,6,7,8,9,10,11,12,13,14,15,16,17,18],
Qb 25 4 2,
sd 26 (.load none (.t 25)) [20],
Qb 27 4 3,
sd 28 (.load none (.t 27)) [22],
zl 29 (.call 188 [(.t 26),(.t 28),(.f 189)]) [0,1,2,3,4,5,6,7,8,9,10,11,12,13,14,15,16,17,18,19,20,21,22,23] [],
zl 30 (.bslice 1 [(.t 9),(.t 14),(.t 19),(.t 24),(.t 29)]) [0,1,2,3,4,5,6,7,8,9,10,11,12,13,14,15,16,17,18,19,20,21,22,23,24] [],
zl 31 (.call 185 [(.t 30)]) [0,1,2,3,4,5,6,7,8,9,10,11,12,13,14,15,16,17,18,19,20,21,22,23,24,25] [],
sd 4 (.mv (.t 31)) [0,1,2,3,4,5,6,7,8,9,10,11,12,13,14,15,16,17,18,19,20,21,22,23,24,25,26]])
 .ret))⟩
theorem F148_ok{rc115:Ab→Ab→Option (Int)}(ih115:∀{x0:Ab} {x1:Ab} {r:Int} (h:rc115 x0 x1=some r),An Tryz.prog 148 [.agg (AJ x0),.agg (AJ x1)] [] (AL [.c (dI r)]) []){x0:Ab}{x1:Ab}{r:Int}(h:F148 rc115 x0 x1=some r):An Tryz.prog 148 [.agg (AJ x0),.agg (AJ x1)] [] (AL [.c (dI r)]) []:=by
 rw[F148]at h
 refine zc a148 (by kernel_rfl) rfl (ww ?_)
 obtain⟨t1,ht1,h⟩:=bi h
 refine cN [] (F186_ok ht1) trivial (ww ?_)
 obtain⟨t2,ht2,h⟩:=bi h
 refine cN [] (F186_ok ht2) trivial (ww ?_)
 obtain⟨t3,ht3,h⟩:=bi h
 refine cN [] (F142_ok ht3) trivial (ww ?_)
 obtain⟨t4,ht4,h⟩:=bi h
 refine cN [] (F187_ok ih115 ht4) trivial (ww ?_)
 obtain⟨t5,ht5,h⟩:=bi h
 refine cN [] (F188_ok ih115 ht5) trivial (ww ?_)
 refine BE (enc:=eI) (ys:=(lit [t1,t2,t3,t4,t5])) rfl rfl (by simp[A1.cells]) (by first|rfl|(simp only[List.drop_zero,Aw];rfl)|(simp only[lit,List.map_cons,List.map_nil,List.drop_zero,Aw,EE.down];done)|(simp only[lit,List.map_cons,List.map_nil,List.drop_zero,Aw,EE.down];rfl)) (ww ?_)
 obtain⟨t6,ht6,h⟩:=bi h
 refine D8 (F185_ok ht6) (by simp only[Fm,Fs,hp,List.getElem?_cons_zero,List.getElem?_cons_succ,Option.join_some,List.drop_zero,BB,true_and,Nat.zero_add,List.length_map,Nat.le_refl,nrm,List.length_cons,List.length_nil,Nat.reduceAdd,Nat.reduceLeDiff,List.take_succ_cons,List.take_zero,List.take_nil,List.map_cons,List.map_nil,List.length_set,EE.down]) rfl ?_
 refine ww ?_
 cases h
 exact eF []
def F148k:Nat→Ab→Ab→Option (Int)
 |0=>fun _ _=>none
 |k+1=>F148 (F148k k)
theorem F148k_ok(k:Nat){x0:Ab}{x1:Ab}{r:Int}(h:F148k k x0 x1=some r):An Tryz.prog 148 [.agg (AJ x0),.agg (AJ x1)] [] (AL [.c (dI r)]) []:=by
 induction k generalizing x0 x1 r with
 |zero=>cases(show(none:Option (Int))=some _ from h)
 |succ k ih=>exact F148_ok (fun h=>ih h) h
def F108(x0:Ab)(x1:Ab):Option (Bool):=(F148k 1099511627776 x0 x1).bind fun t1=>some (decide (t1=0))
def a108:AFn:=⟨9,[(.tmp 4)],
 (.seq (.reg [Qg 2 0,
Qg 3 1,
Qf 4 false])
 (.seq (.reg [Qc 5 5 2,
Qc 6 5 3,
Ql 7 148 5 6,
Qr 8 7 0,
Qa 4 8])
 .ret))⟩
theorem F108_ok{x0 x1 r}(h:F108 x0 x1=some r):An Tryz.prog 108 [.agg (AJ x0),.agg (AJ x1)] [] (AL [.c (dB r)]) []:=by
 rw[F108]at h
 refine zc a108 (by kernel_rfl) rfl (ww ?_)
 obtain⟨t1,ht1,h⟩:=bi h
 refine cN [] (F148k_ok 1099511627776 ht1) trivial (ww ?_)
 cases h
 exact eF []
def F109(x0:Object)(x1:Object):Option (Bool):=(((F149 x0.Meta).bind fun t2=>(F149 x1.Meta).bind fun t3=>(if¬(x0.Meta.Kind=x1.Meta.Kind∧x0.Meta.Namespace=x1.Meta.Namespace∧x0.Meta.Name=x1.Meta.Name)then some true else(if¬(x0.Meta.Uid=x1.Meta.Uid)then some true else(if¬(x0.Meta.Version=x1.Meta.Version)then some true else(if¬(x0.Meta.Ai=x1.Meta.Ai)then some true else(if¬(x0.Meta.Created=x1.Meta.Created)then some true else(if(((x0.Meta.Av==x1.Meta.Av)!=true))=true then some true else some (decide (¬(x0.Meta.Ar=x1.Meta.Ar)))))))))).bind fun o1=>(if o1=true then some false else(((F150 x0.Meta.Ax x1.Meta.Ax).bind fun t12=>(if(nb t12)=true then some true else(F151 x0.Meta.AF x1.Meta.AF).bind fun t14=>(if(nb t14)=true then some true else(F152 x0.Meta.Au x1.Meta.Au).bind fun t16=>some (nb t16)))).bind fun o11=>(if o11=true then some false else(((F154 x0.Meta.Aj x1.Meta.Aj).bind fun t19=>(if t19=true then(F108 x0.Spec x1.Spec).bind fun t21=>(if t21=true then(F108 x0.Status x1.Status).bind fun t23=>some t23 else some false)else some false)).bind fun o18=>some o18)))))
def a109:AFn:=⟨101,[(.tmp 4)],
 (.seq (.reg [Qg 2 0,
Qg 3 1,
Qf 4 false])
 (.seq (.regd [Qb 8 0 2,
sd 9 (.load (some 13) (.t 8)) [0],
Qb 10 0 3,
sd 11 (.load (some 13) (.t 10)) [2],
sq 5 (.zbox [dS ⟨#[]⟩,dS ⟨#[]⟩,dS ⟨#[]⟩,dI 0,dI 0,dI 0,dI 0,dB false,dI 0,dN,dN,dN,dN]),
sq 6 (.zbox [dS ⟨#[]⟩,dS ⟨#[]⟩,dS ⟨#[]⟩,dI 0,dI 0,dI 0,dI 0,dB false,dI 0,dN,dN,dN,dN]),
⟨none,none,.store 13 (.t 5) (.t 9),[0,1,4,5],(.lone [3,10])⟩,
⟨none,none,.store 13 (.t 6) (.t 11),[0,1,2,3,4,5,6],(.lone [])⟩])
 (.seq (.seq (.sem (.regd [Qc 12 13 5,
zn 13 (.call 149 [(.t 12)]) [0] [0],
Qc 14 13 6,
zl 15 (.call 149 [(.t 14)]) [0,1,2] [],
zl 16 (.eqs true [(0,2),(1,2),(2,2)] (.t 13) (.t 15)) [0,1,2,3] [],
sd 17 (.mv (.t 16)) [0,1,2,3,4],
⟨(some 18),(some (17,false)),.fieldA 3 (.t 5),[0,1,2,3,4,5],(.new [])⟩,
⟨(some 19),(some (17,false)),.load none (.t 18),[0,1,2,3,4,5,6],(.new [])⟩,
⟨(some 20),(some (17,false)),.fieldA 3 (.t 6),[0,1,2,3,4,5],(.new [])⟩,
⟨(some 21),(some (17,false)),.load none (.t 20),[0,1,2,3,4,5,8],(.new [])⟩,
⟨(some 22),(some (17,false)),.bin .neq (.t 19) (.t 21),[0,1,2,3,4,5,6,7,8,9],(.new [])⟩,
zl 23 (.pick (.t 17) (kB true) (.t 22)) [0,1,2,3,4,5,6,7,8,9,10] [],
sd 24 (.mv (.t 23)) [0,1,2,3,4,5,6,7,8,9,10,11],
⟨(some 25),(some (24,false)),.fieldA 4 (.t 5),[0,1,2,3,4,5,6,7,8,9,10,11,12],(.new [])⟩,
⟨(some 26),(some (24,false)),.load none (.t 25),[0,1,2,3,4,5,6,7,8,9,10,11,12,13],(.new [])⟩,
⟨(some 27),(some (24,false)),.fieldA 4 (.t 6),[0,1,2,3,4,5,6,7,8,9,10,11,12],(.new [])⟩,
⟨(some 28),(some (24,false)),.load none (.t 27),[0,1,2,3,4,5,6,7,8,9,10,11,12,15],(.new [])⟩,
⟨(some 29),(some (24,false)),.bin .neq (.t 26) (.t 28),[0,1,2,3,4,5,6,7,8,9,10,11,12,13,14,15,16],(.new [])⟩,
zl 30 (.pick (.t 24) (kB true) (.t 29)) [0,1,2,3,4,5,6,7,8,9,10,11,12,13,14,15,16,17] [],
sd 31 (.mv (.t 30)) [0,1,2,3,4,5,6,7,8,9,10,11,12,13,14,15,16,17,18],
⟨(some 32),(some (31,false)),.fieldA 5 (.t 5),[0,1,2,3,4,5,6,7,8,9,10,11,12,13,14,15,16,17,18,19],(.new [])⟩,
⟨(some 33),(some (31,false)),.load none (.t 32),[0,1,2,3,4,5,6,7,8,9,10,11,12,13,14,15,16,17,18,19,20],(.new [])⟩,
⟨(some 34),(some (31,false)),.fieldA 5 (.t 6),[0,1,2,3,4,5,6,7,8,9,10,11,12,13,14,15,16,17,18,19],(.new [])⟩,
⟨(some 35),(some (31,false)),.load none (.t 34),[0,1,2,3,4,5,6,7,8,9,10,11,12,13,14,15,16,17,18,19,22],(.new [])⟩,
⟨(some 36),(some (31,false)),.bin .neq (.t 33) (.t 35),[0,1,2,3,4,5,6,7,8,9,10,11,12,13,14,15,16,17,18,19,20,21,22,23],(.new [])⟩,
zl 37 (.pick (.t 31) (kB true) (.t 36)) [0,1,2,3,4,5,6,7,8,9,10,11,12,13,14,15,16,17,18,19,20,21,22,23,24] [],
sd 38 (.mv (.t 37)) [0,1,2,3,4,5,6,7,8,9,10,11,12,13,14,15,16,17,18,19,20,21,22,23,24,25],
⟨(some 39),(some (38,false)),.fieldA 6 (.t 5),[0,1,2,3,4,5,6,7,8,9,10,11,12,13,14,15,16,17,18,19,20,21,22,23,24,25,26],(.new [])⟩,
⟨(some 40),(some (38,false)),.load none (.t 39),[0,1,2,3,4,5,6,7,8,9,10,11,12,13,14,15,16,17,18,19,20,21,22,23,24,25,26,27],(.new [])⟩,
⟨(some 41),(some (38,false)),.fieldA 6 (.t 6),[0,1,2,3,4,5,6,7,8,9,10,11,12,13,14,15,16,17,18,19,20,21,22,23,24,25,26],(.new [])⟩,
⟨(some 42),(some (38,false)),.load none (.t 41),[0,1,2,3,4,5,6,7,8,9,10,11,12,13,14,15,16,17,18,19,20,21,22,23,24,25,26,29],(.new [])⟩,
⟨(some 43),(some (38,false)),.bin .neq (.t 40) (.t 42),[0,1,2,3,4,5,6,7,8,9,10,11,12,13,14,15,16,17,18,19,20,21,22,23,24,25,26,27,28,29,30],(.new [])⟩,
zl 44 (.pick (.t 38) (kB true) (.t 43)) [0,1,2,3,4,5,6,7,8,9,10,11,12,13,14,15,16,17,18,19,20,21,22,23,24,25,26,27,28,29,30,31] [],
sd 45 (.mv (.t 44)) [0,1,2,3,4,5,6,7,8,9,10,11,12,13,14,15,16,17,18,19,20,21,22,23,24,25,26,27,28,29,30,31,32],
⟨(some 46),(some (45,false)),.fieldA 7 (.t 5),[0,1,2,3,4,5,6,7,8,9,10,11,12,13,14,15,16,17,18,19,20,21,22,23,24,25,26,27,28,29,30,31,32,33],(.new [])⟩,
⟨(some 47),(some (45,false)),.load none (.t 46),[0,1,2,3,4,5,6,7,8,9,10,11,12,13,14,15,16,17,18,19,20,21,22,23,24,25,26,27,28,29,30,31,32,33,34],(.new [])⟩,
⟨(some 48),(some (45,false)),.fieldA 7 (.t 6),[0,1,2,3,4,5,6,7,8,9,10,11,12,13,14,15,16,17,18,19,20,21,22,23,24,25,26,27,28,29,30,31,32,33],(.new [])⟩,
⟨(some 49),(some (45,false)),.load none (.t 48),[0,1,2,3,4,5,6,7,8,9,10,11,12,13,14,15,16,17,18,19,20,21,22,23,24,25,26,27,28,29,30,31,32,33,36],(.new [])⟩,
⟨(some 50),(some (45,false)),.beq true (.t 47) (.t 49),[0,1,2,3,4,5,6,7,8,9,10,11,12,13,14,15,16,17,18,19,20,21,22,23,24,25,26,27,28,29,30,31,32,33,34,35,36,37],(.new [])⟩,
zl 51 (.pick (.t 45) (kB true) (.t 50)) [0,1,2,3,4,5,6,7,8,9,10,11,12,13,14,15,16,17,18,19,20,21,22,23,24,25,26,27,28,29,30,31,32,33,34,35,36,37,38] [],
sd 52 (.mv (.t 51)) [0,1,2,3,4,5,6,7,8,9,10,11,12,13,14,15,16,17,18,19,20,21,22,23,24,25,26,27,28,29,30,31,32,33,34,35,36,37,38,39],
⟨(some 53),(some (52,false)),.fieldA 8 (.t 5),[0,1,2,3,4,5,6,7,8,9,10,11,12,13,14,15,16,17,18,19,20,21,22,23,24,25,26,27,28,29,30,31,32,33,34,35,36,37,38,39,40],(.new [])⟩,
⟨(some 54),(some (52,false)),.load none (.t 53),[0,1,2,3,4,5,6,7,8,9,10,11,12,13,14,15,16,17,18,19,20,21,22,23,24,25,26,27,28,29,30,31,32,33,34,35,36,37,38,39,40,41],(.new [])⟩,
⟨(some 55),(some (52,false)),.fieldA 8 (.t 6),[0,1,2,3,4,5,6,7,8,9,10,11,12,13,14,15,16,17,18,19,20,21,22,23,24,25,26,27,28,29,30,31,32,33,34,35,36,37,38,39,40],(.new [])⟩,
⟨(some 56),(some (52,false)),.load none (.t 55),[0,1,2,3,4,5,6,7,8,9,10,11,12,13,14,15,16,17,18,19,20,21,22,23,24,25,26,27,28,29,30,31,32,33,34,35,36,37,38,39,40,43],(.new [])⟩,
⟨(some 57),(some (52,false)),.bin .neq (.t 54) (.t 56),[0,1,2,3,4,5,6,7,8,9,10,11,12,13,14,15,16,17,18,19,20,21,22,23,24,25,26,27,28,29,30,31,32,33,34,35,36,37,38,39,40,41,42,43,44],(.new [])⟩,
zl 58 (.pick (.t 52) (kB true) (.t 57)) [0,1,2,3,4,5,6,7,8,9,10,11,12,13,14,15,16,17,18,19,20,21,22,23,24,25,26,27,28,29,30,31,32,33,34,35,36,37,38,39,40,41,42,43,44,45] []]))
 (.cond (.t 58)
 (.seq (.reg [Qf 4 false])
 .ret)
 .skip))
 (.seq (.seq (.sem (.reg [Qb 59 9 5,
Qd 60 59,
Qb 61 9 6,
Qd 62 61,
Ql 63 150 60 62,
Qq 64 63,
Qa 65 64,
Qs 66 65 false 10 5,
Qt 67 65 false 66,
Qs 68 65 false 10 6,
Qt 69 65 false 68,
zg 70 65 false (.call 151 [(.t 67),(.t 69)]),
zg 71 65 false (.not (.t 70)),
Qj 72 65 71,
Qa 73 72,
Qs 74 73 false 11 5,
Qt 75 73 false 74,
Qs 76 73 false 11 6,
Qt 77 73 false 76,
zg 78 73 false (.call 152 [(.t 75),(.t 77)]),
zg 79 73 false (.not (.t 78)),
Qj 80 73 79]))
 (.cond (.t 80)
 (.seq (.reg [Qf 4 false])
 .ret)
 .skip))
 (.seq (.reg [zl 7 (.mv (.f 153)) [] []])
 (.seq (.sem (.reg [Qb 81 12 5,
Qd 82 81,
Qb 83 12 6,
Qd 84 83,
Qa 85 7,
sq 86 (.call 154 [(.t 82),(.t 84),(.t 85)]),
Qa 87 86,
Qs 88 87 true 13 2,
Qu 89 87 true 5 88,
Qs 90 87 true 13 3,
Qu 91 87 true 5 90,
zg 92 87 true (.call 108 [(.t 89),(.t 91)]),
Qi 93 87 92,
Qa 94 93,
Qs 95 94 true 18 2,
Qu 96 94 true 5 95,
Qs 97 94 true 18 3,
Qu 98 94 true 5 97,
zg 99 94 true (.call 108 [(.t 96),(.t 98)]),
Qi 100 94 99,
Qa 4 100]))
 .ret))))))⟩
theorem F109_ok{x0 x1 r}(h:F109 x0 x1=some r):An Tryz.prog 109 [.agg (Bc x0),.agg (Bc x1)] [] (AL [.c (dB r)]) []:=by
 rw[F109]at h
 refine zc a109 (by kernel_rfl) rfl (ww ?_)
 refine B3 (by simp[wrs,B8,BV]) (ww ?_)
 refine B3 (by simp[wrs,B8,BV]) (ww ?_)
 obtain⟨o1,ho,h⟩:=bi h
 refine AB (fun s=>s=⟨[(2,Pz 0),(3,Pz 1),(5,Pz 2),(6,Pz 3),(58,oc (dB o1))],[xb (Bc x0),xb (Bc x1),xb (CT x0.Meta),xb (CT x1.Meta)]⟩) ?_ ?_
 ·have h:=ho
  clear ho
  refine ww ?_
  obtain⟨t2,ht2,h⟩:=bi h
  refine cN [] (F149_ok ht2) trivial (ww ?_)
  obtain⟨t3,ht3,h⟩:=bi h
  refine cN [] (F149_ok ht3) trivial (ww ?_)
  refine B4 h (fun g4 h=>ww ?_) (fun g4 h=>ww ?_)
  ·cases h
   exact eM [some 0,some 1,some 2,some 3] rfl
  refine B4 h (fun g5 h=>ww ?_) (fun g5 h=>ww ?_)
  ·cases h
   exact eM [some 0,some 1,some 2,some 3] rfl
  refine B4 h (fun g6 h=>ww ?_) (fun g6 h=>ww ?_)
  ·cases h
   exact eM [some 0,some 1,some 2,some 3] rfl
  refine B4 h (fun g7 h=>ww ?_) (fun g7 h=>ww ?_)
  ·cases h
   exact eM [some 0,some 1,some 2,some 3] rfl
  refine B4 h (fun g8 h=>ww ?_) (fun g8 h=>ww ?_)
  ·cases h
   exact eM [some 0,some 1,some 2,some 3] rfl
  refine Cm h (fun g9 h=>ww ?_) (fun g9 h=>ww ?_)
  ·cases h
   exact eM [some 0,some 1,some 2,some 3] rfl
  cases h
  exact eM [some 0,some 1,some 2,some 3] rfl
 rintro _ rfl
 clear ho
 refine ww ?_
 refine AE h (fun c10 h=>ww ?_) (fun c10 h=>ww ?_)
 ·cases h
  exact eF []
 obtain⟨o11,ho,h⟩:=bi h
 refine AB (fun s=>s=⟨[(2,Pz 0),(3,Pz 1),(5,Pz 2),(6,Pz 3),(80,oc (dB o11))],[xb (Bc x0),xb (Bc x1),xb (CT x0.Meta),xb (CT x1.Meta)]⟩) ?_ ?_
 ·have h:=ho
  clear ho
  refine ww ?_
  obtain⟨t12,ht12,h⟩:=bi h
  refine cN [] (F150_ok ht12) trivial (ww ?_)
  refine AM h (fun g13 h=>ww ?_) (fun g13 h=>ww ?_)
  ·cases h
   exact eM [some 0,some 1,some 2,some 3] rfl
  obtain⟨t14,ht14,h⟩:=bi h
  refine cN [] (F151_ok ht14) trivial (ww ?_)
  refine AM h (fun g15 h=>ww ?_) (fun g15 h=>ww ?_)
  ·cases h
   exact eM [some 0,some 1,some 2,some 3] rfl
  obtain⟨t16,ht16,h⟩:=bi h
  refine cN [] (F152_ok ht16) trivial (ww ?_)
  cases h
  exact eM [some 0,some 1,some 2,some 3] rfl
 rintro _ rfl
 clear ho
 refine ww ?_
 refine AE h (fun c17 h=>ww ?_) (fun c17 h=>ww ?_)
 ·cases h
  exact eF []
 obtain⟨o18,ho,h⟩:=bi h
 refine AB (fun s=>s=⟨[(4,oc (dB o18))],[]⟩) ?_ ?_
 ·have h:=ho
  clear ho
  refine ww ?_
  obtain⟨t19,ht19,h⟩:=bi h
  refine cN [] (F154_ok ht19) trivial (ww ?_)
  refine AM h (fun g20 h=>ww ?_) (fun g20 h=>ww ?_)
  ·obtain⟨t21,ht21,h⟩:=bi h
   refine cN [] (F108_ok ht21) trivial (ww ?_)
   refine AM h (fun g22 h=>ww ?_) (fun g22 h=>ww ?_)
   ·obtain⟨t23,ht23,h⟩:=bi h
    refine cN [] (F108_ok ht23) trivial (ww ?_)
    cases h
    exact eM [] rfl
   cases h
   exact eM [] rfl
  cases h
  exact eM [] rfl
 rintro _ rfl
 clear ho
 refine ww ?_
 cases h
 exact eF []
end Go.Proofs.YtdkmamiedcanfaaGreat
