/- Each Go function as a function over typed data, and its walk. -/
import Derived.Test.YtdkmamiedcanfaaGreatW0
import Derived.Test.YtdkmamiedcanfaaGreatW1
import Derived.Test.YtdkmamiedcanfaaGreatW2
import Derived.Test.YtdkmamiedcanfaaGreatW3
import Derived.Test.YtdkmamiedcanfaaGreatW4
namespace Go.Proofs.YtdkmamiedcanfaaGreat
open Go Go.Fw Go.Shelf
set_option maxRecDepth 100000
set_option maxHeartbeats 4000000
set_option linter.unusedSimpArgs false
set_option linter.unusedVariables false
def F92(x0:Object):Option (ByteArray):=(F39 x0.Meta).bind fun t1=>some t1
def a92:AFn:=⟨6,[(.tmp 2)],
 (.seq (.reg [Qg 1 0,
sq 2 (.mv (kS ⟨#[]⟩))])
 (.seq (.reg [Qb 3 0 1,
Qc 4 13 3,
Qk 5 39 4,
Qa 2 5])
 .ret))⟩
theorem F92_ok{x0 r}(h:F92 x0=some r):An Tryz.prog 92 [.agg (Bc x0)] [] (AL [.c (dS r)]) []:=by
 rw[F92]at h
 refine zc a92 (by kernel_rfl) rfl (ww ?_)
 obtain⟨t1,ht1,h⟩:=bi h
 refine cN [] (F39_ok ht1) trivial (ww ?_)
 cases h
 exact eF []
def F80_l11(x0:Ah):List ByteArray→Nat→Option ((Bool) ⊕ (Unit))
 |[],o11_0=>some (Sum.inr (()))
 |xo11::xs,o11_0=>(((F114 xo11).bind fun t14=>(if(nb t14)=true then some true else(if 0<(o11_0:Int)then(rdI x0.Aq ((IntKind.i64.wrap (((o11_0:Int))-1)))).bind fun y17=>some ((Op.bytesLess xo11.toList y17.toList||decide (xo11=y17)))else some false))).bind fun o13=>(if o13=true then(some false).map Sum.inl else F80_l11 x0 xs (o11_0+1)))
def F80(x0:Ah):Option (Bool):=(F112 x0.Key).bind fun t1=>(if(nb t1)=true then some false else(F113 x0.Op).bind fun t3=>(if(nb t3)=true then(((if x0.Op=3 then some (decide ((x0.Aq.length:Int)=0))else(if x0.Op=4 then some (decide ((x0.Aq.length:Int)=0))else some false))).bind fun o5=>some o5)else(((if(x0.Aq.length:Int)<1 then some true else some (decide (64<(x0.Aq.length:Int))))).bind fun o8=>(if o8=true then some false else(((ck (0≤x0.Aq.length∧x0.Aq.length≤4294967290)).bind fun u19=>F80_l11 x0 x0.Aq 0:Option ((Bool) ⊕ (Unit))).bind fun o11=>match o11 with|Sum.inl f=>some f|Sum.inr po11=>some true)))))
def a80:AFn:=⟨63,[(.tmp 2)],
 (.seq (.reg [Qg 1 0,
Qf 2 false])
 (.seq (.seq (.reg [Qb 5 0 1,
Qd 6 5,
Qk 7 112 6,
Qq 8 7])
 (.cond (.t 8)
 (.seq (.reg [Qf 2 false])
 .ret)
 .skip))
 (.seq (.seq (.reg [Qb 9 1 1,
Qd 10 9,
Qk 11 113 10,
Qq 12 11])
 (.cond (.t 12)
 (.seq (.sem (.reg [Qb 13 1 1,
Qd 14 13,
Qr 15 14 3,
Qa 16 15,
Qs 17 16 false 1 1,
Qt 18 16 false 17,
zg 19 16 false (.bin .eql (.t 18) (kI 4)),
Qj 20 16 19,
Qa 21 20,
Qs 22 21 true 2 1,
Qt 23 21 true 22,
zg 24 21 true (.len (.t 23)),
zg 25 21 true (.bin .eql (.t 24) (kI 0)),
Qi 26 21 25,
Qa 2 26]))
 .ret)
 .skip))
 (.seq (.seq (.sem (.reg [Qb 27 2 1,
Qd 28 27,
Qh 29 28,
sq 30 (.bin .lss (.t 29) (kI 1)),
Qa 31 30,
Qs 32 31 false 2 1,
Qt 33 31 false 32,
zg 34 31 false (.len (.t 33)),
zg 35 31 false (.bin .gtr (.t 34) (kI 64)),
zl 36 (.pick (.t 31) (kB true) (.t 35)) [] [1,27,28,1,32,33]]))
 (.cond (.t 36)
 (.seq (.reg [Qf 2 false])
 .ret)
 .skip))
 (.seq (.seq (.reg [Qb 37 2 1,
Qd 38 37,
Qh 39 38,
Qe 40 0])
 (.sem (.block 0 (.loop (.seq (.reg [Qn 41 40 39])
 (.seq (.cond (.t 41)
 .skip
 (.exit 0))
 (.seq (.block 1 (.seq (.reg [Qa 42 40,
Qp 43 1 38 40,
Qd 44 43,
Qa 3 42,
Qa 4 44])
 (.seq (.sem (.reg [Qa 45 4,
Qk 46 114 45,
Qq 47 46,
Qa 48 47,
Qv 49 48 false 3,
zg 50 48 false (.bin .gtr (.t 49) (kI 0)),
Qv 51 48 false 50,
Qv 52 51 true 4,
Qs 53 51 true 2 1,
Qt 54 51 true 53,
Qv 55 51 true 3,
zg 56 51 true (.bin .sub (.t 55) (kI 1)),
zg 57 51 true (.indexA 1 (.t 54) (.t 56)),
Qt 58 51 true 57,
zg 59 51 true (.bin .leq (.t 52) (.t 58)),
zg 60 48 false (.pick (.t 51) (.t 59) (kB false)),
Qj 61 48 60]))
 (.cond (.t 61)
 (.seq (.reg [Qf 2 false])
 .ret)
 .skip))))
 (.reg [Qm 62 40 1,
Qa 40 62]))))))))
 (.seq (.reg [Qf 2 true])
 .ret))))))⟩
theorem F80_ok{x0 r}(h:F80 x0=some r):An Tryz.prog 80 [.agg (By x0)] [] (AL [.c (dB r)]) []:=by
 rw[F80]at h
 refine zc a80 (by kernel_rfl) rfl (ww ?_)
 obtain⟨t1,ht1,h⟩:=bi h
 refine cN [] (F112_ok ht1) trivial (ww ?_)
 refine AE h (fun c2 h=>ww ?_) (fun c2 h=>ww ?_)
 ·cases h
  exact eF []
 obtain⟨t3,ht3,h⟩:=bi h
 refine cN [] (F113_ok ht3) trivial (ww ?_)
 refine AE h (fun c4 h=>ww ?_) (fun c4 h=>ww ?_)
 ·obtain⟨o5,ho,h⟩:=bi h
  refine AB (fun s=>s=⟨[(2,oc (dB o5))],[]⟩) ?_ ?_
  ·have h:=ho
   clear ho
   refine ww ?_
   refine Af h (fun g6 h=>ww ?_) (fun g6 h=>ww ?_)
   ·cases h
    exact eM [] rfl
   refine Af h (fun g7 h=>ww ?_) (fun g7 h=>ww ?_)
   ·cases h
    exact eM [] rfl
   cases h
   exact eM [] rfl
  rintro _ rfl
  clear ho
  refine ww ?_
  cases h
  exact eF []
 obtain⟨o8,ho,h⟩:=bi h
 refine AB (fun s=>s=⟨[(1,Pz 0),(36,oc (dB o8))],[xb (By x0)]⟩) ?_ ?_
 ·have h:=ho
  clear ho
  refine ww ?_
  refine Af h (fun g9 h=>ww ?_) (fun g9 h=>ww ?_)
  ·cases h
   exact eM [some 0] rfl
  cases h
  exact eM [some 0] rfl
 rintro _ rfl
 clear ho
 refine ww ?_
 refine AE h (fun c10 h=>ww ?_) (fun c10 h=>ww ?_)
 ·cases h
  exact eF []
 obtain⟨o11,ho,h⟩:=bi h
 refine AB (fun s=>∃po11,o11=Sum.inr po11∧s=⟨[],[]⟩) ?_ ?_
 ·have h0o11:=h
  have h:=ho
  clear ho
  obtain⟨_,hk,h⟩:=bi h
  have hk:=AS hk
  refine ww ?_
  refine bL (fun j s=>∃(o11_0:Nat),(o11_0≤x0.Aq.length∧j=x0.Aq.length-o11_0)∧s=⟨[(1,Pz 0),(38,oc (dM (x0.Aq.map eS))),(39,oc (dI ((x0.Aq.length:Int)))),(40,oc (dI ((o11_0:Int))))],[xb (By x0)]⟩∧F80_l11 x0 (x0.Aq.drop o11_0) o11_0=some o11) (x0.Aq.length-0) [some 0] ⟨0,⟨hk.1,rfl⟩,rfl,h⟩ ?_
  rintro _ _ ⟨o11_0,⟨hi,rfl⟩,rfl,h⟩
  refine ww ?_
  refine Bg (fun c12=>?_) (fun c12=>?_)
  ·obtain⟨xo11,hxo11,hd⟩:=A5 (show(o11_0:Int)<(x0.Aq.length:Int)from c12)
   rw[hd,F80_l11]at h
   refine ww ?_
   refine Az (enc:=eS) (xs:=x0.Aq) rfl rfl hxo11 rfl (ww ?_)
   obtain⟨o13,ho,h⟩:=bi h
   refine AB (fun s=>s=⟨[(1,Pz 0),(38,oc (dM (x0.Aq.map eS))),(39,oc (dI ((x0.Aq.length:Int)))),(40,oc (dI ((o11_0:Int)))),(61,oc (dB o13))],[xb (By x0)]⟩) ?_ ?_
   ·have h:=ho
    clear ho
    refine ww ?_
    obtain⟨t14,ht14,h⟩:=bi h
    refine cN [] (F114_ok ht14) trivial (ww ?_)
    refine AM h (fun g15 h=>ww ?_) (fun g15 h=>ww ?_)
    ·cases h
     exact eM [some 0] rfl
    refine Af h (fun g16 h=>ww ?_) (fun g16 h=>ww ?_)
    ·obtain⟨y17,hy17,h⟩:=bi h
     refine Az (enc:=eS) (xs:=x0.Aq) rfl rfl hy17 rfl (ww ?_)
     cases h
     exact eM [some 0] rfl
    cases h
    exact eM [some 0] rfl
   rintro _ rfl
   clear ho
   refine ww ?_
   refine AE h (fun c18 h=>ww ?_) (fun c18 h=>ww ?_)
   ·obtain⟨fh0o11,hfh0o11,rfl⟩:=Option.map_eq_some_iff.1 h
    have h:=hfh0o11.trans h0o11
    cases h
    exact eF []
   rw[AW (by omega)]
   exact eL' (x0.Aq.length-(o11_0+1)) [some 0] ⟨o11_0+1,⟨by omega,rfl⟩,rfl,h⟩ (by omega)
  rw[A6 (show¬((o11_0:Int)<(x0.Aq.length:Int))from c12),F80_l11]at h
  refine ww ?_
  cases h
  exact eM [] ⟨_,rfl,rfl⟩
 rintro _ ⟨po11,rfl,rfl⟩
 clear ho
 dsimp only at h
 refine ww ?_
 cases h
 exact eF []
def F37_l5:List AI→Nat→(List AI)→Option ((List AI))
 |[],o5_1,o5_0=>some o5_0
 |xo5::xs,o5_1,o5_0=>(rdI o5_0 ((o5_1:Int))).bind fun y7=>(BI y7.Ae).bind fun t8=>(rdI o5_0 ((o5_1:Int))).bind fun y9=>F37_l5 xs (o5_1+1) ((o5_0.set ((o5_1:Int)).toNat ((⟨y9.Name,t8⟩:AI))))
def F37(x0:Object):Option ((List Label)×(List BO)×(List ByteArray)×(List AI)×(List Ab)×(List Ay)×(List Ab)×(List Ay)):=(BI x0.Meta.Ax).bind fun t1=>(BI x0.Meta.AF).bind fun t2=>(BI x0.Meta.Au).bind fun t3=>(BI x0.Meta.Aj).bind fun t4=>(((ck (0≤t4.length∧t4.length≤4294967290)).bind fun u10=>F37_l5 t4 0 t4).bind fun o5=>(F68k 1099511627776 x0.Spec).bind fun t11=>(F68k 1099511627776 x0.Status).bind fun t12=>some ((t1,t2,t3,o5,t11.1,t11.2,t12.1,t12.2)))
def a37:AFn:=⟨72,[(.cell 2 (some 23))],
 (.seq (.reg [Qg 1 0,
sq 2 (.zbox [dS ⟨#[]⟩,dS ⟨#[]⟩,dS ⟨#[]⟩,dI 0,dI 0,dI 0,dI 0,dB false,dI 0,dN,dN,dN,dN,dI 0,dI 0,dS ⟨#[]⟩,dN,dN,dI 0,dI 0,dS ⟨#[]⟩,dN,dN])])
 (.seq (.reg [Qb 5 0 1,
Qa 3 5])
 (.seq (.regd [Qa 6 3,
Qa 7 3,
Qa 8 3,
Qa 9 3,
Qa 10 3,
sd 11 (.fieldA 0 (.t 10)) [4],
sd 12 (.fieldA 9 (.t 11)) [4,5],
sd 13 (.load none (.t 12)) [4,5,6],
zn 14 (.call 65 [(.t 13)]) [4,5,6,7] [4,5,6,7],
Qa 15 3,
sd 16 (.fieldA 0 (.t 15)) [9],
sd 17 (.fieldA 10 (.t 16)) [9,10],
sd 18 (.load none (.t 17)) [9,10,11],
zn 19 (.call 66 [(.t 18)]) [4,5,6,7,8,9,10,11,12] [4,5,6,7,8,9,10,11,12],
Qa 20 3,
sd 21 (.fieldA 0 (.t 20)) [14],
sd 22 (.fieldA 11 (.t 21)) [14,15],
sd 23 (.load none (.t 22)) [14,15,16],
zn 24 (.call 61 [(.t 23)]) [4,5,6,7,8,9,10,11,12,13,14,15,16,17] [4,5,6,7,8,9,10,11,12,13,14,15,16,17],
Qa 25 3,
sd 26 (.fieldA 0 (.t 25)) [19],
sd 27 (.fieldA 12 (.t 26)) [19,20],
sd 28 (.load none (.t 27)) [19,20,21],
zl 29 (.call 67 [(.t 28)]) [4,5,6,7,8,9,10,11,12,13,14,15,16,17,18,19,20,21,22] [],
sd 30 (.fieldA 0 (.t 6)) [0,4,5,6,7,8,9,10,11,12,13,14,15,16,17,18,19,20,21,22,23],
sd 31 (.fieldA 9 (.t 30)) [0,4,5,6,7,8,9,10,11,12,13,14,15,16,17,18,19,20,21,22,23,24],
⟨none,none,.store 1 (.t 31) (.t 14),[0,4,5,6,7,8,9,10,11,12,13,14,15,16,17,18,19,20,21,22,23,24,25],(.lone [])⟩,
sd 32 (.fieldA 0 (.t 7)) [0,1,4,5,6,7,8,9,10,11,12,13,14,15,16,17,18,19,20,21,22,23,24,25,26],
sd 33 (.fieldA 10 (.t 32)) [0,1,4,5,6,7,8,9,10,11,12,13,14,15,16,17,18,19,20,21,22,23,24,25,26,27],
⟨none,none,.store 1 (.t 33) (.t 19),[0,1,4,5,6,7,8,9,10,11,12,13,14,15,16,17,18,19,20,21,22,23,24,25,26,27,28],(.lone [])⟩,
sd 34 (.fieldA 0 (.t 8)) [0,1,2,4,5,6,7,8,9,10,11,12,13,14,15,16,17,18,19,20,21,22,23,24,25,26,27,28,29],
sd 35 (.fieldA 11 (.t 34)) [0,1,2,4,5,6,7,8,9,10,11,12,13,14,15,16,17,18,19,20,21,22,23,24,25,26,27,28,29,30],
⟨none,none,.store 1 (.t 35) (.t 24),[0,1,2,4,5,6,7,8,9,10,11,12,13,14,15,16,17,18,19,20,21,22,23,24,25,26,27,28,29,30,31],(.lone [])⟩,
sd 36 (.fieldA 0 (.t 9)) [0,1,2,3,4,5,6,7,8,9,10,11,12,13,14,15,16,17,18,19,20,21,22,23,24,25,26,27,28,29,30,31,32],
sd 37 (.fieldA 12 (.t 36)) [0,1,2,3,4,5,6,7,8,9,10,11,12,13,14,15,16,17,18,19,20,21,22,23,24,25,26,27,28,29,30,31,32,33],
⟨none,none,.store 1 (.t 37) (.t 29),[0,1,2,3,4,5,6,7,8,9,10,11,12,13,14,15,16,17,18,19,20,21,22,23,24,25,26,27,28,29,30,31,32,33,34],(.lone [])⟩])
 (.seq (.seq (.reg [Qa 38 3,
Qb 39 0 38,
Qb 40 12 39,
Qd 41 40,
Qh 42 41,
Qe 43 0])
 (.sem (.block 0 (.loop (.seq (.reg [Qn 44 43 42])
 (.seq (.cond (.t 44)
 .skip
 (.exit 0))
 (.seq (.block 1 (.seq (.reg [Qa 45 43,
Qa 4 45])
 (.regd [Qa 46 3,
sd 47 (.fieldA 0 (.t 46)) [0],
sd 48 (.fieldA 12 (.t 47)) [0,1],
sd 49 (.load none (.t 48)) [0,1,2],
Qa 50 4,
Qa 51 3,
sd 52 (.fieldA 0 (.t 51)) [5],
sd 53 (.fieldA 12 (.t 52)) [5,6],
sd 54 (.load none (.t 53)) [5,6,7],
Qa 55 4,
sd 56 (.indexA 2 (.t 54) (.t 55)) [5,6,7,8,9],
sd 57 (.fieldA 1 (.t 56)) [5,6,7,8,9,10],
sd 58 (.load none (.t 57)) [5,6,7,8,9,10,11],
zl 59 (.call 61 [(.t 58)]) [5,6,7,8,9,10,11,12] [46,47,48],
sd 60 (.indexA 2 (.t 49) (.t 50)) [0,1,2,3,4,5,6,7,8,9,10,11,12,13],
sd 61 (.fieldA 1 (.t 60)) [0,1,2,3,4,5,6,7,8,9,10,11,12,13,14],
⟨none,none,.store 1 (.t 61) (.t 59),[0,1,2,3,4,5,6,7,8,9,10,11,12,13,14,15],(.lone [])⟩])))
 (.reg [Qm 62 43 1,
Qa 43 62]))))))))
 (.seq (.regd [Qb 63 13 1,
sd 64 (.load (some 5) (.t 63)) [0],
zn 65 (.call 68 [(.t 64)]) [0,1] [0,1],
Qb 66 18 1,
sd 67 (.load (some 5) (.t 66)) [3],
zl 68 (.call 68 [(.t 67)]) [0,1,2,3,4] [],
sd 69 (.fieldA 13 (.t 1)) [0,1,2,3,4,5],
⟨none,none,.store 5 (.t 69) (.t 65),[0,1,2,3,4,5,6],(.lone [])⟩,
sd 70 (.fieldA 18 (.t 1)) [0,1,2,3,4,5,6,7],
⟨none,none,.store 5 (.t 70) (.t 68),[0,1,2,3,4,5,6,7,8],(.lone [])⟩])
 (.seq (.reg [Qc 71 23 1,
⟨none,none,.store 23 (.t 2) (.t 71),[],(.lone [1])⟩])
 .ret))))))⟩
theorem F37_ok{x0 r}(h:F37 x0=some r):An Tryz.prog 37 [.agg (Bc x0)] [] (AL [.agg [dS x0.Meta.Kind,dS x0.Meta.Namespace,dS x0.Meta.Name,dI x0.Meta.Uid,dI x0.Meta.Version,dI x0.Meta.Ai,dI x0.Meta.Created,dB x0.Meta.Av,dI x0.Meta.Ar,.own 0 0 0 (r.1.length) none,.own 1 0 0 (r.2.1.length) none,.own 2 0 0 (r.2.2.1.length) none,.own 3 0 0 (r.2.2.2.1.length) none,dI x0.Spec.Kind,dI x0.Spec.N,dS x0.Spec.S,.own 4 0 0 (r.2.2.2.2.1.length) none,.own 5 0 0 (r.2.2.2.2.2.1.length) none,dI x0.Status.Kind,dI x0.Status.N,dS x0.Status.S,.own 6 0 0 (r.2.2.2.2.2.2.1.length) none,.own 7 0 0 (r.2.2.2.2.2.2.2.length) none]]) [some (.arr 0 2 (r.1.map AY)),some (.arr 0 5 (r.2.1.map A3)),some (.arr 0 1 (r.2.2.1.map eS)),some (.arr 0 2 (r.2.2.2.1.map AG)),some (.arr 0 5 (r.2.2.2.2.1.map Ap)),some (.arr 0 6 (r.2.2.2.2.2.1.map Ao)),some (.arr 0 5 (r.2.2.2.2.2.2.1.map Ap)),some (.arr 0 6 (r.2.2.2.2.2.2.2.map Ao))]:=by
 rw[F37]at h
 refine zc a37 (by kernel_rfl) rfl (ww ?_)
 obtain⟨t1,ht1,h⟩:=bi h
 refine cN [] (F65_ok ht1) trivial (ww ?_)
 refine B3 (by simp[wrs,B8,BV]) (ww ?_)
 obtain⟨t2,ht2,h⟩:=bi h
 refine cN [] (F66_ok ht2) trivial (ww ?_)
 refine B3 (by simp[wrs,B8,BV]) (ww ?_)
 obtain⟨t3,ht3,h⟩:=bi h
 refine cN [] (F61_ok ht3) trivial (ww ?_)
 refine B3 (by simp[wrs,B8,BV]) (ww ?_)
 obtain⟨t4,ht4,h⟩:=bi h
 refine cN [] (F67_ok ht4) trivial (ww ?_)
 obtain⟨o5,ho,h⟩:=bi h
 refine AB (fun s=>s=⟨[(1,Pz 0),(2,Pz 5)],[xb [dS x0.Meta.Kind,dS x0.Meta.Namespace,dS x0.Meta.Name,dI x0.Meta.Uid,dI x0.Meta.Version,dI x0.Meta.Ai,dI x0.Meta.Created,dB x0.Meta.Av,dI x0.Meta.Ar,.own 1 0 0 (t1.length) none,.own 2 0 0 (t2.length) none,.own 3 0 0 (t3.length) none,.own 4 0 0 (o5.length) none,dI x0.Spec.Kind,dI x0.Spec.N,dS x0.Spec.S,dM (x0.Spec.At.map Ap),dM (x0.Spec.Ae.map Ao),dI x0.Status.Kind,dI x0.Status.N,dS x0.Status.S,dM (x0.Status.At.map Ap),dM (x0.Status.Ae.map Ao)],some (.arr 0 2 (t1.map AY)),some (.arr 0 5 (t2.map A3)),some (.arr 0 1 (t3.map eS)),some (.arr 0 2 (o5.map AG)),xb [dS ((⟨#[]⟩:ByteArray)),dS ((⟨#[]⟩:ByteArray)),dS ((⟨#[]⟩:ByteArray)),dI 0,dI 0,dI 0,dI 0,dB false,dI 0,dN,dN,dN,dN,dI 0,dI 0,dS ((⟨#[]⟩:ByteArray)),dN,dN,dI 0,dI 0,dS ((⟨#[]⟩:ByteArray)),dN,dN]]⟩) ?_ ?_
 ·have h:=ho
  clear ho
  obtain⟨_,hk,h⟩:=bi h
  have hk:=AS hk
  refine ww ?_
  refine bL (fun j s=>∃(o5_1:Nat) (o5_0:List AI),(o5_1≤t4.length∧j=t4.length-o5_1)∧s=⟨[(1,Pz 0),(2,Pz 5),(3,Pz 0),(42,oc (dI ((t4.length:Int)))),(43,oc (dI ((o5_1:Int))))],[xb [dS x0.Meta.Kind,dS x0.Meta.Namespace,dS x0.Meta.Name,dI x0.Meta.Uid,dI x0.Meta.Version,dI x0.Meta.Ai,dI x0.Meta.Created,dB x0.Meta.Av,dI x0.Meta.Ar,.own 1 0 0 (t1.length) none,.own 2 0 0 (t2.length) none,.own 3 0 0 (t3.length) none,.own 4 0 0 (o5_0.length) none,dI x0.Spec.Kind,dI x0.Spec.N,dS x0.Spec.S,dM (x0.Spec.At.map Ap),dM (x0.Spec.Ae.map Ao),dI x0.Status.Kind,dI x0.Status.N,dS x0.Status.S,dM (x0.Status.At.map Ap),dM (x0.Status.Ae.map Ao)],some (.arr 0 2 (t1.map AY)),some (.arr 0 5 (t2.map A3)),some (.arr 0 1 (t3.map eS)),some (.arr 0 2 (o5_0.map AG)),xb [dS ((⟨#[]⟩:ByteArray)),dS ((⟨#[]⟩:ByteArray)),dS ((⟨#[]⟩:ByteArray)),dI 0,dI 0,dI 0,dI 0,dB false,dI 0,dN,dN,dN,dN,dI 0,dI 0,dS ((⟨#[]⟩:ByteArray)),dN,dN,dI 0,dI 0,dS ((⟨#[]⟩:ByteArray)),dN,dN]]⟩∧F37_l5 (t4.drop o5_1) o5_1 o5_0=some o5) (t4.length-0) [some 0,some 2,some 3,some 4,some 5,some 1] ⟨0,t4,⟨hk.1,rfl⟩,rfl,h⟩ ?_
  rintro _ _ ⟨o5_1,o5_0,⟨hi,rfl⟩,rfl,h⟩
  refine ww ?_
  refine Bg (fun c6=>?_) (fun c6=>?_)
  ·obtain⟨xo5,hxo5,hd⟩:=A5 (show(o5_1:Int)<(t4.length:Int)from c6)
   rw[hd,F37_l5]at h
   refine ww ?_
   obtain⟨y7,hy7,h⟩:=bi h
   refine Cx (enc:=AG) (xs:=o5_0) rfl rfl rfl (by first|rfl|simp only[List.length_set]|exact(AN (AX (by assumption))).symm) hy7 (ww ?_)
   refine Es.rd (Bk hy7).2.1 (ww ?_)
   obtain⟨t8,ht8,h⟩:=bi h
   refine cN [] (F61_ok ht8) trivial (ww ?_)
   obtain⟨y9,hy9,h⟩:=bi h
   refine Cx (enc:=AG) (xs:=o5_0) rfl rfl rfl (by first|rfl|simp only[List.length_set]|exact(AN (AX (by assumption))).symm) hy9 (ww ?_)
   refine Fp.rd (y':=(⟨y9.Name,t8⟩:AI)) (Bk hy9).2.1 (by simp[EE.down]) (by first|rfl|(simp only[BB];rfl)) (ww ?_)
   rw[AW (by omega)]
   exact eL' (t4.length-(o5_1+1)) [some 0,some 1,some 2,some 3,some 4,some 5] ⟨o5_1+1,(o5_0.set ((o5_1:Int)).toNat ((⟨y9.Name,t8⟩:AI))),⟨by omega,rfl⟩,rfl,h⟩ (by omega)
  rw[A6 (show¬((o5_1:Int)<(t4.length:Int))from c6),F37_l5]at h
  refine ww ?_
  cases h
  exact eM [some 0,some 1,some 2,some 3,some 4,some 5] rfl
 rintro _ rfl
 clear ho
 refine ww ?_
 obtain⟨t11,ht11,h⟩:=bi h
 refine cN [] (F68k_ok 1099511627776 ht11) trivial (ww ?_)
 refine B3 (by simp[wrs,B8,BV]) (ww ?_)
 obtain⟨t12,ht12,h⟩:=bi h
 refine cN [] (F68k_ok 1099511627776 ht12) trivial (ww ?_)
 cases h
 exact eF [some 1,some 2,some 3,some 4,some 6,some 7,some 8,some 9]
def F142(x0:ByteArray)(x1:ByteArray):Option (Int):=(F173 x0 x1).bind fun t1=>some t1
def a142:AFn:=⟨8,[(.tmp 4)],
 (.seq (.reg [Qe 4 0])
 (.seq (.reg [Qa 5 0,
Qa 6 1,
Ql 7 173 5 6,
Qa 4 7])
 .ret))⟩
theorem F142_ok{x0 x1 r}(h:F142 x0 x1=some r):An Tryz.prog 142 [.c (dS x0),.c (dS x1)] [] (AL [.c (dI r)]) []:=by
 rw[F142]at h
 refine zc a142 (by kernel_rfl) rfl (ww ?_)
 obtain⟨t1,ht1,h⟩:=bi h
 refine cN [] (F173_ok ht1) trivial (ww ?_)
 cases h
 exact eF []
def F118(x0:(List Ab)):Option ((List Ab)×(List Ay)):=(F158k 1099511627776 ((⟨4,0,(⟨#[]⟩:ByteArray),x0,[]⟩:Ab))).bind fun t1=>some ((t1.1,t1.2))
def a118:AFn:=⟨6,[(.cell 2 (some 5))],
 (.seq (.reg [zl 2 (.zbox [dI 0,dI 0,dS ⟨#[]⟩,dN,dN]) [] []])
 (.seq (.reg [Qa 3 0,
sq 4 (.build [dI 0,dI 0,dS ⟨#[]⟩,dN,dN] [(0,1,(kI 4)),(3,1,(.t 3))]),
Qk 5 158 4,
su (.store 5 (.t 2) (.t 5))])
 .ret))⟩
theorem F118_ok{x0 r}(h:F118 x0=some r):An Tryz.prog 118 [.c (dM (x0.map Ap))] [] (AL [.agg [dI ((4:Int)),dI ((0:Int)),dS (((⟨#[]⟩:ByteArray))),.own 0 0 0 (r.1.length) none,.own 1 0 0 (r.2.length) none]]) [some (.arr 0 5 (r.1.map Ap)),some (.arr 0 6 (r.2.map Ao))]:=by
 rw[F118]at h
 refine zc a118 (by kernel_rfl) rfl (ww ?_)
 obtain⟨t1,ht1,h⟩:=bi h
 refine cN [] (F158k_ok 1099511627776 ht1) trivial (ww ?_)
 cases h
 exact eF [some 1,some 2]
def F154_l2(x1:(List AI)):List AI→Nat→Option ((Bool) ⊕ (Unit))
 |[],o2_0=>some (Sum.inr (()))
 |xo2::xs,o2_0=>(rdI x1 ((o2_0:Int))).bind fun y4=>(F153 xo2 y4).bind fun t5=>(if(nb t5)=true then(some false).map Sum.inl else F154_l2 x1 xs (o2_0+1))
def F154(x0:(List AI))(x1:(List AI)):Option (Bool):=(if¬((x0.length:Int)=(x1.length:Int))then some false else(((ck (0≤x0.length∧x0.length≤4294967290)).bind fun u7=>F154_l2 x1 x0 0:Option ((Bool) ⊕ (Unit))).bind fun o2=>match o2 with|Sum.inl f=>some f|Sum.inr po2=>some true))
def a154:AFn:=⟨32,[(.tmp 6)],
 (.seq (.reg [Qf 6 false])
 (.seq (.seq (.reg [Qa 10 0,
Qh 11 10,
Qa 12 1,
Qh 13 12,
sq 14 (.bin .neq (.t 11) (.t 13))])
 (.cond (.t 14)
 (.seq (.reg [Qf 6 false])
 .ret)
 .skip))
 (.seq (.seq (.reg [Qa 15 0,
Qh 16 15,
Qe 17 0])
 (.sem (.block 0 (.loop (.seq (.reg [Qn 18 17 16])
 (.seq (.cond (.t 18)
 .skip
 (.exit 0))
 (.seq (.block 1 (.seq (.reg [Qa 19 17,
Qp 20 2 15 17,
Qc 21 2 20,
sq 8 (.zbox [dS ⟨#[]⟩,dN]),
Qa 7 19,
su (.store 2 (.t 8) (.t 21))])
 (.seq (.reg [Qa 22 1,
Qa 23 7,
Qp 24 2 22 23,
Qc 25 2 24,
sq 9 (.zbox [dS ⟨#[]⟩,dN]),
su (.store 2 (.t 9) (.t 25))])
 (.seq (.reg [Qa 26 2,
Qc 27 2 8,
Qc 28 2 9,
sq 29 (.callv (.t 26) [(.t 27),(.t 28)]),
Qq 30 29])
 (.cond (.t 30)
 (.seq (.reg [Qf 6 false])
 .ret)
 .skip)))))
 (.reg [Qm 31 17 1,
Qa 17 31]))))))))
 (.seq (.reg [Qf 6 true])
 .ret))))⟩
theorem F154_ok{x0 x1 r}(h:F154 x0 x1=some r):An Tryz.prog 154 [.c (dM (x0.map AG)),.c (dM (x1.map AG)),.c (.fn 153 [])] [] (AL [.c (dB r)]) []:=by
 rw[F154]at h
 refine zc a154 (by kernel_rfl) rfl (ww ?_)
 refine AH h (fun c1 h=>ww ?_) (fun c1 h=>ww ?_)
 ·cases h
  exact eF []
 obtain⟨o2,ho,h⟩:=bi h
 refine AB (fun s=>∃po2,o2=Sum.inr po2∧s=⟨[],[]⟩) ?_ ?_
 ·have h0o2:=h
  have h:=ho
  clear ho
  obtain⟨_,hk,h⟩:=bi h
  have hk:=AS hk
  refine ww ?_
  refine bL (fun j s=>∃(o2_0:Nat),(o2_0≤x0.length∧j=x0.length-o2_0)∧s=⟨[(1,oc (dM (x1.map AG))),(2,oc (.fn 153 [])),(15,oc (dM (x0.map AG))),(16,oc (dI ((x0.length:Int)))),(17,oc (dI ((o2_0:Int))))],[]⟩∧F154_l2 x1 (x0.drop o2_0) o2_0=some o2) (x0.length-0) [] ⟨0,⟨hk.1,rfl⟩,rfl,h⟩ ?_
  rintro _ _ ⟨o2_0,⟨hi,rfl⟩,rfl,h⟩
  refine ww ?_
  refine Bg (fun c3=>?_) (fun c3=>?_)
  ·obtain⟨xo2,hxo2,hd⟩:=A5 (show(o2_0:Int)<(x0.length:Int)from c3)
   rw[hd,F154_l2]at h
   refine ww ?_
   refine Az (enc:=AG) (xs:=x0) rfl rfl hxo2 rfl (ww ?_)
   obtain⟨y4,hy4,h⟩:=bi h
   refine Az (enc:=AG) (xs:=x1) rfl rfl hy4 rfl (ww ?_)
   obtain⟨t5,ht5,h⟩:=bi h
   refine cN [] (F153_ok ht5) trivial (ww ?_)
   refine AE h (fun c6 h=>ww ?_) (fun c6 h=>ww ?_)
   ·obtain⟨fh0o2,hfh0o2,rfl⟩:=Option.map_eq_some_iff.1 h
    have h:=hfh0o2.trans h0o2
    cases h
    exact eF []
   rw[AW (by omega)]
   exact eL' (x0.length-(o2_0+1)) [] ⟨o2_0+1,⟨by omega,rfl⟩,rfl,h⟩ (by omega)
  rw[A6 (show¬((o2_0:Int)<(x0.length:Int))from c3),F154_l2]at h
  refine ww ?_
  cases h
  exact eM [] ⟨_,rfl,rfl⟩
 rintro _ ⟨po2,rfl,rfl⟩
 clear ho
 dsimp only at h
 refine ww ?_
 cases h
 exact eF []
def F53_l1(x1:(List Label)):List Ah→Nat→Option ((Bool) ⊕ (Unit))
 |[],o1_0=>some (Sum.inr (()))
 |xo1::xs,o1_0=>(F93 xo1 x1).bind fun t3=>(if(nb t3)=true then(some false).map Sum.inl else F53_l1 x1 xs (o1_0+1))
def F53(x0:(List Ah))(x1:(List Label)):Option (Bool):=(((ck (0≤x0.length∧x0.length≤4294967290)).bind fun u5=>F53_l1 x1 x0 0:Option ((Bool) ⊕ (Unit))).bind fun o1=>match o1 with|Sum.inl f=>some f|Sum.inr po1=>some true)
def a53:AFn:=⟨19,[(.tmp 4)],
 (.seq (.reg [Qf 4 false])
 (.seq (.seq (.reg [Qe 5 0])
 (.sem (.block 0 (.loop (.seq (.seq (.reg [Qa 6 5,
Qa 7 0,
Qh 8 7,
Qn 9 6 8])
 (.cond (.t 9)
 .skip
 (.exit 0)))
 (.seq (.block 1 (.seq (.reg [Qa 12 0,
Qa 13 5,
Qp 14 3 12 13,
Qc 15 3 14,
Qa 16 1,
Ql 17 93 15 16,
Qq 18 17])
 (.cond (.t 18)
 (.seq (.reg [Qf 4 false])
 .ret)
 .skip)))
 (.reg [Qa 10 5,
Qm 11 10 1,
Qa 5 11])))))))
 (.seq (.reg [Qf 4 true])
 .ret)))⟩
theorem F53_ok{x0 x1 r}(h:F53 x0 x1=some r):An Tryz.prog 53 [.c (dM (x0.map Al)),.c (dM (x1.map AY))] [] (AL [.c (dB r)]) []:=by
 rw[F53]at h
 refine zc a53 (by kernel_rfl) rfl (ww ?_)
 obtain⟨o1,ho,h⟩:=bi h
 refine AB (fun s=>∃po1,o1=Sum.inr po1∧s=⟨[],[]⟩) ?_ ?_
 ·have h0o1:=h
  have h:=ho
  clear ho
  obtain⟨_,hk,h⟩:=bi h
  have hk:=AS hk
  refine ww ?_
  refine bL (fun j s=>∃(o1_0:Nat),(o1_0≤x0.length∧j=x0.length-o1_0)∧s=⟨[(0,oc (dM (x0.map Al))),(1,oc (dM (x1.map AY))),(5,oc (dI ((o1_0:Int))))],[]⟩∧F53_l1 x1 (x0.drop o1_0) o1_0=some o1) (x0.length-0) [] ⟨0,⟨hk.1,rfl⟩,rfl,h⟩ ?_
  rintro _ _ ⟨o1_0,⟨hi,rfl⟩,rfl,h⟩
  refine ww ?_
  refine Bg (fun c2=>?_) (fun c2=>?_)
  ·obtain⟨xo1,hxo1,hd⟩:=A5 (show(o1_0:Int)<(x0.length:Int)from c2)
   rw[hd,F53_l1]at h
   refine ww ?_
   refine Az (enc:=Al) (xs:=x0) rfl rfl hxo1 rfl (ww ?_)
   obtain⟨t3,ht3,h⟩:=bi h
   refine cN [] (F93_ok ht3) trivial (ww ?_)
   refine AE h (fun c4 h=>ww ?_) (fun c4 h=>ww ?_)
   ·obtain⟨fh0o1,hfh0o1,rfl⟩:=Option.map_eq_some_iff.1 h
    have h:=hfh0o1.trans h0o1
    cases h
    exact eF []
   rw[AW (by omega)]
   exact eL' (x0.length-(o1_0+1)) [] ⟨o1_0+1,⟨by omega,rfl⟩,rfl,h⟩ (by omega)
  rw[A6 (show¬((o1_0:Int)<(x0.length:Int))from c2),F53_l1]at h
  refine ww ?_
  cases h
  exact eM [] ⟨_,rfl,rfl⟩
 rintro _ ⟨po1,rfl,rfl⟩
 clear ho
 dsimp only at h
 refine ww ?_
 cases h
 exact eF []
def F41_l19(x1:Meta):List Label→Nat→Option ((Bool) ⊕ (Unit))
 |[],o19_0=>some (Sum.inr (()))
 |xo19::xs,o19_0=>(rdI x1.Ax ((o19_0:Int))).bind fun y21=>(if¬(xo19.Key=y21.Key∧xo19.Value=y21.Value)then(some false).map Sum.inl else F41_l19 x1 xs (o19_0+1))
def F41_l24(x1:Meta):List BO→Nat→Option ((Bool) ⊕ (Unit))
 |[],o24_0=>some (Sum.inr (()))
 |xo24::xs,o24_0=>(rdI x1.AF ((o24_0:Int))).bind fun y26=>(if(nb ((decide (xo24.Kind=y26.Kind)&&(decide (xo24.Name=y26.Name)&&(decide (xo24.Uid=y26.Uid)&&((xo24.BL==y26.BL)&&(xo24.Block==y26.Block)))))))=true then(some false).map Sum.inl else F41_l24 x1 xs (o24_0+1))
def F41_l29(x1:Meta):List AI→Nat→Option ((Bool) ⊕ (Unit))
 |[],o29_0=>some (Sum.inr (()))
 |xo29::xs,o29_0=>(((rdI x1.Aj ((o29_0:Int))).bind fun y32=>(if¬(xo29.Name=y32.Name)then some true else(F71 xo29.Ae y32.Ae).bind fun t34=>some (nb t34))).bind fun o31=>(if o31=true then(some false).map Sum.inl else F41_l29 x1 xs (o29_0+1)))
def F41(x0:Meta)(x1:Meta):Option (Bool):=(((F39 x0).bind fun t2=>(F39 x1).bind fun t3=>(if¬(t2=t3)then some true else(if¬(x0.Kind=x1.Kind)then some true else(if¬(x0.Namespace=x1.Namespace)then some true else(if¬(x0.Uid=x1.Uid)then some true else(if¬(x0.Version=x1.Version)then some true else(if¬(x0.Ai=x1.Ai)then some true else(if¬(x0.Created=x1.Created)then some true else(if(((x0.Av==x1.Av)!=true))=true then some true else some (decide (¬(x0.Ar=x1.Ar)))))))))))).bind fun o1=>(if o1=true then some false else(((if¬((x0.Ax.length:Int)=(x1.Ax.length:Int))then some true else(if¬((x0.AF.length:Int)=(x1.AF.length:Int))then some true else(if¬((x0.Aj.length:Int)=(x1.Aj.length:Int))then some true else(F71 x0.Au x1.Au).bind fun t17=>some (nb t17))))).bind fun o13=>(if o13=true then some false else(((ck (0≤x0.Ax.length∧x0.Ax.length≤4294967290)).bind fun u23=>F41_l19 x1 x0.Ax 0:Option ((Bool) ⊕ (Unit))).bind fun o19=>match o19 with|Sum.inl f=>some f|Sum.inr po19=>(((ck (0≤x0.AF.length∧x0.AF.length≤4294967290)).bind fun u28=>F41_l24 x1 x0.AF 0:Option ((Bool) ⊕ (Unit))).bind fun o24=>match o24 with|Sum.inl f=>some f|Sum.inr po24=>(((ck (0≤x0.Aj.length∧x0.Aj.length≤4294967290)).bind fun u36=>F41_l29 x1 x0.Aj 0:Option ((Bool) ⊕ (Unit))).bind fun o29=>match o29 with|Sum.inl f=>some f|Sum.inr po29=>some true)))))))
def a41:AFn:=⟨174,[(.tmp 4)],
 (.seq (.reg [Qg 2 0,
Qg 3 1,
Qf 4 false])
 (.seq (.seq (.sem (.regd [Qc 8 13 2,
zn 9 (.call 39 [(.t 8)]) [0] [0],
Qc 10 13 3,
zl 11 (.call 39 [(.t 10)]) [0,1,2] [],
sd 12 (.bin .neq (.t 9) (.t 11)) [0,1,2,3],
sd 13 (.mv (.t 12)) [0,1,2,3,4],
⟨(some 14),(some (13,false)),.fieldA 0 (.t 2),[0,1,2,3,4,5],(.new [])⟩,
⟨(some 15),(some (13,false)),.load none (.t 14),[0,1,2,3,4,5,6],(.new [])⟩,
⟨(some 16),(some (13,false)),.fieldA 0 (.t 3),[0,1,2,3,4,5],(.new [])⟩,
⟨(some 17),(some (13,false)),.load none (.t 16),[0,1,2,3,4,5,8],(.new [])⟩,
⟨(some 18),(some (13,false)),.bin .neq (.t 15) (.t 17),[0,1,2,3,4,5,6,7,8,9],(.new [])⟩,
zl 19 (.pick (.t 13) (kB true) (.t 18)) [0,1,2,3,4,5,6,7,8,9,10] [],
sd 20 (.mv (.t 19)) [0,1,2,3,4,5,6,7,8,9,10,11],
⟨(some 21),(some (20,false)),.fieldA 1 (.t 2),[0,1,2,3,4,5,6,7,8,9,10,11,12],(.new [])⟩,
⟨(some 22),(some (20,false)),.load none (.t 21),[0,1,2,3,4,5,6,7,8,9,10,11,12,13],(.new [])⟩,
⟨(some 23),(some (20,false)),.fieldA 1 (.t 3),[0,1,2,3,4,5,6,7,8,9,10,11,12],(.new [])⟩,
⟨(some 24),(some (20,false)),.load none (.t 23),[0,1,2,3,4,5,6,7,8,9,10,11,12,15],(.new [])⟩,
⟨(some 25),(some (20,false)),.bin .neq (.t 22) (.t 24),[0,1,2,3,4,5,6,7,8,9,10,11,12,13,14,15,16],(.new [])⟩,
zl 26 (.pick (.t 20) (kB true) (.t 25)) [0,1,2,3,4,5,6,7,8,9,10,11,12,13,14,15,16,17] [],
sd 27 (.mv (.t 26)) [0,1,2,3,4,5,6,7,8,9,10,11,12,13,14,15,16,17,18],
⟨(some 28),(some (27,false)),.fieldA 3 (.t 2),[0,1,2,3,4,5,6,7,8,9,10,11,12,13,14,15,16,17,18,19],(.new [])⟩,
⟨(some 29),(some (27,false)),.load none (.t 28),[0,1,2,3,4,5,6,7,8,9,10,11,12,13,14,15,16,17,18,19,20],(.new [])⟩,
⟨(some 30),(some (27,false)),.fieldA 3 (.t 3),[0,1,2,3,4,5,6,7,8,9,10,11,12,13,14,15,16,17,18,19],(.new [])⟩,
⟨(some 31),(some (27,false)),.load none (.t 30),[0,1,2,3,4,5,6,7,8,9,10,11,12,13,14,15,16,17,18,19,22],(.new [])⟩,
⟨(some 32),(some (27,false)),.bin .neq (.t 29) (.t 31),[0,1,2,3,4,5,6,7,8,9,10,11,12,13,14,15,16,17,18,19,20,21,22,23],(.new [])⟩,
zl 33 (.pick (.t 27) (kB true) (.t 32)) [0,1,2,3,4,5,6,7,8,9,10,11,12,13,14,15,16,17,18,19,20,21,22,23,24] [],
sd 34 (.mv (.t 33)) [0,1,2,3,4,5,6,7,8,9,10,11,12,13,14,15,16,17,18,19,20,21,22,23,24,25],
⟨(some 35),(some (34,false)),.fieldA 4 (.t 2),[0,1,2,3,4,5,6,7,8,9,10,11,12,13,14,15,16,17,18,19,20,21,22,23,24,25,26],(.new [])⟩,
⟨(some 36),(some (34,false)),.load none (.t 35),[0,1,2,3,4,5,6,7,8,9,10,11,12,13,14,15,16,17,18,19,20,21,22,23,24,25,26,27],(.new [])⟩,
⟨(some 37),(some (34,false)),.fieldA 4 (.t 3),[0,1,2,3,4,5,6,7,8,9,10,11,12,13,14,15,16,17,18,19,20,21,22,23,24,25,26],(.new [])⟩,
⟨(some 38),(some (34,false)),.load none (.t 37),[0,1,2,3,4,5,6,7,8,9,10,11,12,13,14,15,16,17,18,19,20,21,22,23,24,25,26,29],(.new [])⟩,
⟨(some 39),(some (34,false)),.bin .neq (.t 36) (.t 38),[0,1,2,3,4,5,6,7,8,9,10,11,12,13,14,15,16,17,18,19,20,21,22,23,24,25,26,27,28,29,30],(.new [])⟩,
zl 40 (.pick (.t 34) (kB true) (.t 39)) [0,1,2,3,4,5,6,7,8,9,10,11,12,13,14,15,16,17,18,19,20,21,22,23,24,25,26,27,28,29,30,31] [],
sd 41 (.mv (.t 40)) [0,1,2,3,4,5,6,7,8,9,10,11,12,13,14,15,16,17,18,19,20,21,22,23,24,25,26,27,28,29,30,31,32],
⟨(some 42),(some (41,false)),.fieldA 5 (.t 2),[0,1,2,3,4,5,6,7,8,9,10,11,12,13,14,15,16,17,18,19,20,21,22,23,24,25,26,27,28,29,30,31,32,33],(.new [])⟩,
⟨(some 43),(some (41,false)),.load none (.t 42),[0,1,2,3,4,5,6,7,8,9,10,11,12,13,14,15,16,17,18,19,20,21,22,23,24,25,26,27,28,29,30,31,32,33,34],(.new [])⟩,
⟨(some 44),(some (41,false)),.fieldA 5 (.t 3),[0,1,2,3,4,5,6,7,8,9,10,11,12,13,14,15,16,17,18,19,20,21,22,23,24,25,26,27,28,29,30,31,32,33],(.new [])⟩,
⟨(some 45),(some (41,false)),.load none (.t 44),[0,1,2,3,4,5,6,7,8,9,10,11,12,13,14,15,16,17,18,19,20,21,22,23,24,25,26,27,28,29,30,31,32,33,36],(.new [])⟩,
⟨(some 46),(some (41,false)),.bin .neq (.t 43) (.t 45),[0,1,2,3,4,5,6,7,8,9,10,11,12,13,14,15,16,17,18,19,20,21,22,23,24,25,26,27,28,29,30,31,32,33,34,35,36,37],(.new [])⟩,
zl 47 (.pick (.t 41) (kB true) (.t 46)) [0,1,2,3,4,5,6,7,8,9,10,11,12,13,14,15,16,17,18,19,20,21,22,23,24,25,26,27,28,29,30,31,32,33,34,35,36,37,38] [],
sd 48 (.mv (.t 47)) [0,1,2,3,4,5,6,7,8,9,10,11,12,13,14,15,16,17,18,19,20,21,22,23,24,25,26,27,28,29,30,31,32,33,34,35,36,37,38,39],
⟨(some 49),(some (48,false)),.fieldA 6 (.t 2),[0,1,2,3,4,5,6,7,8,9,10,11,12,13,14,15,16,17,18,19,20,21,22,23,24,25,26,27,28,29,30,31,32,33,34,35,36,37,38,39,40],(.new [])⟩,
⟨(some 50),(some (48,false)),.load none (.t 49),[0,1,2,3,4,5,6,7,8,9,10,11,12,13,14,15,16,17,18,19,20,21,22,23,24,25,26,27,28,29,30,31,32,33,34,35,36,37,38,39,40,41],(.new [])⟩,
⟨(some 51),(some (48,false)),.fieldA 6 (.t 3),[0,1,2,3,4,5,6,7,8,9,10,11,12,13,14,15,16,17,18,19,20,21,22,23,24,25,26,27,28,29,30,31,32,33,34,35,36,37,38,39,40],(.new [])⟩,
⟨(some 52),(some (48,false)),.load none (.t 51),[0,1,2,3,4,5,6,7,8,9,10,11,12,13,14,15,16,17,18,19,20,21,22,23,24,25,26,27,28,29,30,31,32,33,34,35,36,37,38,39,40,43],(.new [])⟩,
⟨(some 53),(some (48,false)),.bin .neq (.t 50) (.t 52),[0,1,2,3,4,5,6,7,8,9,10,11,12,13,14,15,16,17,18,19,20,21,22,23,24,25,26,27,28,29,30,31,32,33,34,35,36,37,38,39,40,41,42,43,44],(.new [])⟩,
zl 54 (.pick (.t 48) (kB true) (.t 53)) [0,1,2,3,4,5,6,7,8,9,10,11,12,13,14,15,16,17,18,19,20,21,22,23,24,25,26,27,28,29,30,31,32,33,34,35,36,37,38,39,40,41,42,43,44,45] [],
sd 55 (.mv (.t 54)) [0,1,2,3,4,5,6,7,8,9,10,11,12,13,14,15,16,17,18,19,20,21,22,23,24,25,26,27,28,29,30,31,32,33,34,35,36,37,38,39,40,41,42,43,44,45,46],
⟨(some 56),(some (55,false)),.fieldA 7 (.t 2),[0,1,2,3,4,5,6,7,8,9,10,11,12,13,14,15,16,17,18,19,20,21,22,23,24,25,26,27,28,29,30,31,32,33,34,35,36,37,38,39,40,41,42,43,44,45,46,47],(.new [])⟩,
⟨(some 57),(some (55,false)),.load none (.t 56),[0,1,2,3,4,5,6,7,8,9,10,11,12,13,14,15,16,17,18,19,20,21,22,23,24,25,26,27,28,29,30,31,32,33,34,35,36,37,38,39,40,41,42,43,44,45,46,47,48],(.new [])⟩,
⟨(some 58),(some (55,false)),.fieldA 7 (.t 3),[0,1,2,3,4,5,6,7,8,9,10,11,12,13,14,15,16,17,18,19,20,21,22,23,24,25,26,27,28,29,30,31,32,33,34,35,36,37,38,39,40,41,42,43,44,45,46,47],(.new [])⟩,
⟨(some 59),(some (55,false)),.load none (.t 58),[0,1,2,3,4,5,6,7,8,9,10,11,12,13,14,15,16,17,18,19,20,21,22,23,24,25,26,27,28,29,30,31,32,33,34,35,36,37,38,39,40,41,42,43,44,45,46,47,50],(.new [])⟩,
⟨(some 60),(some (55,false)),.beq true (.t 57) (.t 59),[0,1,2,3,4,5,6,7,8,9,10,11,12,13,14,15,16,17,18,19,20,21,22,23,24,25,26,27,28,29,30,31,32,33,34,35,36,37,38,39,40,41,42,43,44,45,46,47,48,49,50,51],(.new [])⟩,
zl 61 (.pick (.t 55) (kB true) (.t 60)) [0,1,2,3,4,5,6,7,8,9,10,11,12,13,14,15,16,17,18,19,20,21,22,23,24,25,26,27,28,29,30,31,32,33,34,35,36,37,38,39,40,41,42,43,44,45,46,47,48,49,50,51,52] [],
sd 62 (.mv (.t 61)) [0,1,2,3,4,5,6,7,8,9,10,11,12,13,14,15,16,17,18,19,20,21,22,23,24,25,26,27,28,29,30,31,32,33,34,35,36,37,38,39,40,41,42,43,44,45,46,47,48,49,50,51,52,53],
⟨(some 63),(some (62,false)),.fieldA 8 (.t 2),[0,1,2,3,4,5,6,7,8,9,10,11,12,13,14,15,16,17,18,19,20,21,22,23,24,25,26,27,28,29,30,31,32,33,34,35,36,37,38,39,40,41,42,43,44,45,46,47,48,49,50,51,52,53,54],(.new [])⟩,
⟨(some 64),(some (62,false)),.load none (.t 63),[0,1,2,3,4,5,6,7,8,9,10,11,12,13,14,15,16,17,18,19,20,21,22,23,24,25,26,27,28,29,30,31,32,33,34,35,36,37,38,39,40,41,42,43,44,45,46,47,48,49,50,51,52,53,54,55],(.new [])⟩,
⟨(some 65),(some (62,false)),.fieldA 8 (.t 3),[0,1,2,3,4,5,6,7,8,9,10,11,12,13,14,15,16,17,18,19,20,21,22,23,24,25,26,27,28,29,30,31,32,33,34,35,36,37,38,39,40,41,42,43,44,45,46,47,48,49,50,51,52,53,54],(.new [])⟩,
⟨(some 66),(some (62,false)),.load none (.t 65),[0,1,2,3,4,5,6,7,8,9,10,11,12,13,14,15,16,17,18,19,20,21,22,23,24,25,26,27,28,29,30,31,32,33,34,35,36,37,38,39,40,41,42,43,44,45,46,47,48,49,50,51,52,53,54,57],(.new [])⟩,
⟨(some 67),(some (62,false)),.bin .neq (.t 64) (.t 66),[0,1,2,3,4,5,6,7,8,9,10,11,12,13,14,15,16,17,18,19,20,21,22,23,24,25,26,27,28,29,30,31,32,33,34,35,36,37,38,39,40,41,42,43,44,45,46,47,48,49,50,51,52,53,54,55,56,57,58],(.new [])⟩,
zl 68 (.pick (.t 62) (kB true) (.t 67)) [0,1,2,3,4,5,6,7,8,9,10,11,12,13,14,15,16,17,18,19,20,21,22,23,24,25,26,27,28,29,30,31,32,33,34,35,36,37,38,39,40,41,42,43,44,45,46,47,48,49,50,51,52,53,54,55,56,57,58,59] []]))
 (.cond (.t 68)
 (.seq (.reg [Qf 4 false])
 .ret)
 .skip))
 (.seq (.seq (.sem (.reg [Qb 69 9 2,
Qd 70 69,
Qh 71 70,
Qb 72 9 3,
Qd 73 72,
Qh 74 73,
sq 75 (.bin .neq (.t 71) (.t 74)),
Qa 76 75,
Qs 77 76 false 10 2,
Qt 78 76 false 77,
zg 79 76 false (.len (.t 78)),
Qs 80 76 false 10 3,
Qt 81 76 false 80,
zg 82 76 false (.len (.t 81)),
zg 83 76 false (.bin .neq (.t 79) (.t 82)),
Qj 84 76 83,
Qa 85 84,
Qs 86 85 false 12 2,
Qt 87 85 false 86,
zg 88 85 false (.len (.t 87)),
Qs 89 85 false 12 3,
Qt 90 85 false 89,
zg 91 85 false (.len (.t 90)),
zg 92 85 false (.bin .neq (.t 88) (.t 91)),
Qj 93 85 92,
Qa 94 93,
Qs 95 94 false 11 2,
Qt 96 94 false 95,
Qs 97 94 false 11 3,
Qt 98 94 false 97,
zg 99 94 false (.call 71 [(.t 96),(.t 98)]),
zg 100 94 false (.not (.t 99)),
Qj 101 94 100]))
 (.cond (.t 101)
 (.seq (.reg [Qf 4 false])
 .ret)
 .skip))
 (.seq (.seq (.reg [Qe 5 0])
 (.sem (.block 0 (.loop (.seq (.seq (.reg [Qa 102 5,
Qb 103 9 2,
Qd 104 103,
Qh 105 104,
Qn 106 102 105])
 (.cond (.t 106)
 .skip
 (.exit 0)))
 (.seq (.block 1 (.seq (.regd [Qb 109 9 2,
sd 110 (.load none (.t 109)) [0],
Qa 111 5,
sd 112 (.indexA 2 (.t 110) (.t 111)) [0,1,2],
sd 113 (.load (some 2) (.t 112)) [0,1,2,3],
Qb 114 9 3,
sd 115 (.load none (.t 114)) [5],
Qa 116 5,
sd 117 (.indexA 2 (.t 115) (.t 116)) [5,6,7],
sd 118 (.load (some 2) (.t 117)) [5,6,7,8],
zl 119 (.eqs true [(0,2),(1,2)] (.t 113) (.t 118)) [0,1,2,3,4,5,6,7,8,9] []])
 (.cond (.t 119)
 (.seq (.reg [Qf 4 false])
 .ret)
 .skip)))
 (.reg [Qa 107 5,
Qm 108 107 1,
Qa 5 108])))))))
 (.seq (.seq (.reg [Qe 6 0])
 (.sem (.block 2 (.loop (.seq (.seq (.reg [Qa 120 6,
Qb 121 10 2,
Qd 122 121,
Qh 123 122,
Qn 124 120 123])
 (.cond (.t 124)
 .skip
 (.exit 2)))
 (.seq (.block 3 (.seq (.regd [Qb 127 10 2,
sd 128 (.load none (.t 127)) [0],
Qa 129 6,
sd 130 (.indexA 5 (.t 128) (.t 129)) [0,1,2],
sd 131 (.load (some 5) (.t 130)) [0,1,2,3],
Qb 132 10 3,
sd 133 (.load none (.t 132)) [5],
Qa 134 6,
sd 135 (.indexA 5 (.t 133) (.t 134)) [5,6,7],
sd 136 (.load (some 5) (.t 135)) [5,6,7,8],
zl 137 (.eqs true [(0,2),(1,2),(2,0),(3,1),(4,1)] (.t 131) (.t 136)) [0,1,2,3,4,5,6,7,8,9] []])
 (.cond (.t 137)
 (.seq (.reg [Qf 4 false])
 .ret)
 .skip)))
 (.reg [Qa 125 6,
Qm 126 125 1,
Qa 6 126])))))))
 (.seq (.seq (.reg [Qe 7 0])
 (.sem (.block 4 (.loop (.seq (.seq (.reg [Qa 138 7,
Qb 139 12 2,
Qd 140 139,
Qh 141 140,
Qn 142 138 141])
 (.cond (.t 142)
 .skip
 (.exit 4)))
 (.seq (.block 5 (.seq (.sem (.regd [Qb 145 12 2,
sd 146 (.load none (.t 145)) [0],
Qa 147 7,
sd 148 (.indexA 2 (.t 146) (.t 147)) [0,1,2],
sd 149 (.fieldA 0 (.t 148)) [0,1,2,3],
sd 150 (.load none (.t 149)) [0,1,2,3,4],
Qb 151 12 3,
sd 152 (.load none (.t 151)) [6],
Qa 153 7,
sd 154 (.indexA 2 (.t 152) (.t 153)) [6,7,8],
sd 155 (.fieldA 0 (.t 154)) [6,7,8,9],
sd 156 (.load none (.t 155)) [6,7,8,9,10],
sd 157 (.bin .neq (.t 150) (.t 156)) [0,1,2,3,4,5,6,7,8,9,10,11],
sd 158 (.mv (.t 157)) [0,1,2,3,4,5,6,7,8,9,10,11,12],
⟨(some 159),(some (158,false)),.fieldA 12 (.t 2),[0,1,2,3,4,5,6,7,8,9,10,11,12,13],(.new [])⟩,
⟨(some 160),(some (158,false)),.load none (.t 159),[0,1,2,3,4,5,6,7,8,9,10,11,12,13,14],(.new [])⟩,
⟨(some 161),(some (158,false)),.mv (.t 7),[0,1,2,3,4,5,6,7,8,9,10,11,12,13],(.new [])⟩,
⟨(some 162),(some (158,false)),.indexA 2 (.t 160) (.t 161),[0,1,2,3,4,5,6,7,8,9,10,11,12,13,14,15,16],(.new [])⟩,
⟨(some 163),(some (158,false)),.fieldA 1 (.t 162),[0,1,2,3,4,5,6,7,8,9,10,11,12,13,14,15,16,17],(.new [])⟩,
⟨(some 164),(some (158,false)),.load none (.t 163),[0,1,2,3,4,5,6,7,8,9,10,11,12,13,14,15,16,17,18],(.new [])⟩,
⟨(some 165),(some (158,false)),.fieldA 12 (.t 3),[0,1,2,3,4,5,6,7,8,9,10,11,12,13],(.new [])⟩,
⟨(some 166),(some (158,false)),.load none (.t 165),[0,1,2,3,4,5,6,7,8,9,10,11,12,13,20],(.new [])⟩,
⟨(some 167),(some (158,false)),.mv (.t 7),[0,1,2,3,4,5,6,7,8,9,10,11,12,13],(.new [])⟩,
⟨(some 168),(some (158,false)),.indexA 2 (.t 166) (.t 167),[0,1,2,3,4,5,6,7,8,9,10,11,12,13,20,21,22],(.new [])⟩,
⟨(some 169),(some (158,false)),.fieldA 1 (.t 168),[0,1,2,3,4,5,6,7,8,9,10,11,12,13,20,21,22,23],(.new [])⟩,
⟨(some 170),(some (158,false)),.load none (.t 169),[0,1,2,3,4,5,6,7,8,9,10,11,12,13,20,21,22,23,24],(.new [])⟩,
⟨(some 171),(some (158,false)),.call 71 [(.t 164),(.t 170)],[0,1,2,3,4,5,6,7,8,9,10,11,12,13,14,15,16,17,18,19,20,21,22,23,24,25],(.lone [])⟩,
⟨(some 172),(some (158,false)),.not (.t 171),[0,1,2,3,4,5,6,7,8,9,10,11,12,13,14,15,16,17,18,19,20,21,22,23,24,25,26],(.new [])⟩,
zl 173 (.pick (.t 158) (kB true) (.t 172)) [0,1,2,3,4,5,6,7,8,9,10,11,12,13,14,15,16,17,18,19,20,21,22,23,24,25,26,27] []]))
 (.cond (.t 173)
 (.seq (.reg [Qf 4 false])
 .ret)
 .skip)))
 (.reg [Qa 143 7,
Qm 144 143 1,
Qa 7 144])))))))
 (.seq (.reg [Qf 4 true])
 .ret)))))))⟩
theorem F41_ok{x0 x1 r}(h:F41 x0 x1=some r):An Tryz.prog 41 [.agg (CT x0),.agg (CT x1)] [] (AL [.c (dB r)]) []:=by
 rw[F41]at h
 refine zc a41 (by kernel_rfl) rfl (ww ?_)
 obtain⟨o1,ho,h⟩:=bi h
 refine AB (fun s=>s=⟨[(2,Pz 0),(3,Pz 1),(68,oc (dB o1))],[xb (CT x0),xb (CT x1)]⟩) ?_ ?_
 ·have h:=ho
  clear ho
  refine ww ?_
  obtain⟨t2,ht2,h⟩:=bi h
  refine cN [] (F39_ok ht2) trivial (ww ?_)
  obtain⟨t3,ht3,h⟩:=bi h
  refine cN [] (F39_ok ht3) trivial (ww ?_)
  refine B4 h (fun g4 h=>ww ?_) (fun g4 h=>ww ?_)
  ·cases h
   exact eM [some 0,some 1] rfl
  refine B4 h (fun g5 h=>ww ?_) (fun g5 h=>ww ?_)
  ·cases h
   exact eM [some 0,some 1] rfl
  refine B4 h (fun g6 h=>ww ?_) (fun g6 h=>ww ?_)
  ·cases h
   exact eM [some 0,some 1] rfl
  refine B4 h (fun g7 h=>ww ?_) (fun g7 h=>ww ?_)
  ·cases h
   exact eM [some 0,some 1] rfl
  refine B4 h (fun g8 h=>ww ?_) (fun g8 h=>ww ?_)
  ·cases h
   exact eM [some 0,some 1] rfl
  refine B4 h (fun g9 h=>ww ?_) (fun g9 h=>ww ?_)
  ·cases h
   exact eM [some 0,some 1] rfl
  refine B4 h (fun g10 h=>ww ?_) (fun g10 h=>ww ?_)
  ·cases h
   exact eM [some 0,some 1] rfl
  refine Cm h (fun g11 h=>ww ?_) (fun g11 h=>ww ?_)
  ·cases h
   exact eM [some 0,some 1] rfl
  cases h
  exact eM [some 0,some 1] rfl
 rintro _ rfl
 clear ho
 refine ww ?_
 refine AE h (fun c12 h=>ww ?_) (fun c12 h=>ww ?_)
 ·cases h
  exact eF []
 obtain⟨o13,ho,h⟩:=bi h
 refine AB (fun s=>s=⟨[(2,Pz 0),(3,Pz 1),(101,oc (dB o13))],[xb (CT x0),xb (CT x1)]⟩) ?_ ?_
 ·have h:=ho
  clear ho
  refine ww ?_
  refine Af h (fun g14 h=>ww ?_) (fun g14 h=>ww ?_)
  ·cases h
   exact eM [some 0,some 1] rfl
  refine Af h (fun g15 h=>ww ?_) (fun g15 h=>ww ?_)
  ·cases h
   exact eM [some 0,some 1] rfl
  refine Af h (fun g16 h=>ww ?_) (fun g16 h=>ww ?_)
  ·cases h
   exact eM [some 0,some 1] rfl
  obtain⟨t17,ht17,h⟩:=bi h
  refine cN [] (F71_ok ht17) trivial (ww ?_)
  cases h
  exact eM [some 0,some 1] rfl
 rintro _ rfl
 clear ho
 refine ww ?_
 refine AE h (fun c18 h=>ww ?_) (fun c18 h=>ww ?_)
 ·cases h
  exact eF []
 obtain⟨o19,ho,h⟩:=bi h
 refine AB (fun s=>∃po19,o19=Sum.inr po19∧s=⟨[(2,Pz 0),(3,Pz 1)],[xb (CT x0),xb (CT x1)]⟩) ?_ ?_
 ·have h0o19:=h
  have h:=ho
  clear ho
  obtain⟨_,hk,h⟩:=bi h
  have hk:=AS hk
  refine ww ?_
  refine bL (fun j s=>∃(o19_0:Nat),(o19_0≤x0.Ax.length∧j=x0.Ax.length-o19_0)∧s=⟨[(2,Pz 0),(3,Pz 1),(5,oc (dI ((o19_0:Int))))],[xb (CT x0),xb (CT x1)]⟩∧F41_l19 x1 (x0.Ax.drop o19_0) o19_0=some o19) (x0.Ax.length-0) [some 0,some 1] ⟨0,⟨hk.1,rfl⟩,rfl,h⟩ ?_
  rintro _ _ ⟨o19_0,⟨hi,rfl⟩,rfl,h⟩
  refine ww ?_
  refine Bg (fun c20=>?_) (fun c20=>?_)
  ·obtain⟨xo19,hxo19,hd⟩:=A5 (show(o19_0:Int)<(x0.Ax.length:Int)from c20)
   rw[hd,F41_l19]at h
   refine ww ?_
   refine Az (enc:=AY) (xs:=x0.Ax) rfl rfl hxo19 rfl (ww ?_)
   obtain⟨y21,hy21,h⟩:=bi h
   refine Az (enc:=AY) (xs:=x1.Ax) rfl rfl hy21 rfl (ww ?_)
   refine AH h (fun c22 h=>ww ?_) (fun c22 h=>ww ?_)
   ·obtain⟨fh0o19,hfh0o19,rfl⟩:=Option.map_eq_some_iff.1 h
    have h:=hfh0o19.trans h0o19
    cases h
    exact eF []
   rw[AW (by omega)]
   exact eL' (x0.Ax.length-(o19_0+1)) [some 0,some 1] ⟨o19_0+1,⟨by omega,rfl⟩,rfl,h⟩ (by omega)
  rw[A6 (show¬((o19_0:Int)<(x0.Ax.length:Int))from c20),F41_l19]at h
  refine ww ?_
  cases h
  exact eM [some 0,some 1] ⟨_,rfl,rfl⟩
 rintro _ ⟨po19,rfl,rfl⟩
 clear ho
 dsimp only at h
 refine ww ?_
 obtain⟨o24,ho,h⟩:=bi h
 refine AB (fun s=>∃po24,o24=Sum.inr po24∧s=⟨[(2,Pz 0),(3,Pz 1)],[xb (CT x0),xb (CT x1)]⟩) ?_ ?_
 ·have h0o24:=h
  have h:=ho
  clear ho
  obtain⟨_,hk,h⟩:=bi h
  have hk:=AS hk
  refine ww ?_
  refine bL (fun j s=>∃(o24_0:Nat),(o24_0≤x0.AF.length∧j=x0.AF.length-o24_0)∧s=⟨[(2,Pz 0),(3,Pz 1),(6,oc (dI ((o24_0:Int))))],[xb (CT x0),xb (CT x1)]⟩∧F41_l24 x1 (x0.AF.drop o24_0) o24_0=some o24) (x0.AF.length-0) [some 0,some 1] ⟨0,⟨hk.1,rfl⟩,rfl,h⟩ ?_
  rintro _ _ ⟨o24_0,⟨hi,rfl⟩,rfl,h⟩
  refine ww ?_
  refine Bg (fun c25=>?_) (fun c25=>?_)
  ·obtain⟨xo24,hxo24,hd⟩:=A5 (show(o24_0:Int)<(x0.AF.length:Int)from c25)
   rw[hd,F41_l24]at h
   refine ww ?_
   refine Az (enc:=A3) (xs:=x0.AF) rfl rfl hxo24 rfl (ww ?_)
   obtain⟨y26,hy26,h⟩:=bi h
   refine Az (enc:=A3) (xs:=x1.AF) rfl rfl hy26 rfl (ww ?_)
   refine AE h (fun c27 h=>ww ?_) (fun c27 h=>ww ?_)
   ·obtain⟨fh0o24,hfh0o24,rfl⟩:=Option.map_eq_some_iff.1 h
    have h:=hfh0o24.trans h0o24
    cases h
    exact eF []
   rw[AW (by omega)]
   exact eL' (x0.AF.length-(o24_0+1)) [some 0,some 1] ⟨o24_0+1,⟨by omega,rfl⟩,rfl,h⟩ (by omega)
  rw[A6 (show¬((o24_0:Int)<(x0.AF.length:Int))from c25),F41_l24]at h
  refine ww ?_
  cases h
  exact eM [some 0,some 1] ⟨_,rfl,rfl⟩
 rintro _ ⟨po24,rfl,rfl⟩
 clear ho
 dsimp only at h
 refine ww ?_
 obtain⟨o29,ho,h⟩:=bi h
 refine AB (fun s=>∃po29,o29=Sum.inr po29∧s=⟨[],[]⟩) ?_ ?_
 ·have h0o29:=h
  have h:=ho
  clear ho
  obtain⟨_,hk,h⟩:=bi h
  have hk:=AS hk
  refine ww ?_
  refine bL (fun j s=>∃(o29_0:Nat),(o29_0≤x0.Aj.length∧j=x0.Aj.length-o29_0)∧s=⟨[(2,Pz 0),(3,Pz 1),(7,oc (dI ((o29_0:Int))))],[xb (CT x0),xb (CT x1)]⟩∧F41_l29 x1 (x0.Aj.drop o29_0) o29_0=some o29) (x0.Aj.length-0) [some 0,some 1] ⟨0,⟨hk.1,rfl⟩,rfl,h⟩ ?_
  rintro _ _ ⟨o29_0,⟨hi,rfl⟩,rfl,h⟩
  refine ww ?_
  refine Bg (fun c30=>?_) (fun c30=>?_)
  ·obtain⟨xo29,hxo29,hd⟩:=A5 (show(o29_0:Int)<(x0.Aj.length:Int)from c30)
   rw[hd,F41_l29]at h
   refine ww ?_
   obtain⟨o31,ho,h⟩:=bi h
   refine AB (fun s=>s=⟨[(2,Pz 0),(3,Pz 1),(7,oc (dI ((o29_0:Int)))),(173,oc (dB o31))],[xb (CT x0),xb (CT x1)]⟩) ?_ ?_
   ·have h:=ho
    clear ho
    refine ww ?_
    refine Az (enc:=AG) (xs:=x0.Aj) rfl rfl hxo29 rfl (ww ?_)
    obtain⟨y32,hy32,h⟩:=bi h
    refine Az (enc:=AG) (xs:=x1.Aj) rfl rfl hy32 rfl (ww ?_)
    refine B4 h (fun g33 h=>ww ?_) (fun g33 h=>ww ?_)
    ·cases h
     exact eM [some 0,some 1] rfl
    refine Az (enc:=AG) (xs:=x0.Aj) rfl rfl hxo29 rfl (ww ?_)
    refine Az (enc:=AG) (xs:=x1.Aj) rfl rfl hy32 rfl (ww ?_)
    obtain⟨t34,ht34,h⟩:=bi h
    refine cN [] (F71_ok ht34) trivial (ww ?_)
    cases h
    exact eM [some 0,some 1] rfl
   rintro _ rfl
   clear ho
   refine ww ?_
   refine AE h (fun c35 h=>ww ?_) (fun c35 h=>ww ?_)
   ·obtain⟨fh0o29,hfh0o29,rfl⟩:=Option.map_eq_some_iff.1 h
    have h:=hfh0o29.trans h0o29
    cases h
    exact eF []
   rw[AW (by omega)]
   exact eL' (x0.Aj.length-(o29_0+1)) [some 0,some 1] ⟨o29_0+1,⟨by omega,rfl⟩,rfl,h⟩ (by omega)
  rw[A6 (show¬((o29_0:Int)<(x0.Aj.length:Int))from c30),F41_l29]at h
  refine ww ?_
  cases h
  exact eM [] ⟨_,rfl,rfl⟩
 rintro _ ⟨po29,rfl,rfl⟩
 clear ho
 dsimp only at h
 refine ww ?_
 cases h
 exact eF []
end Go.Proofs.YtdkmamiedcanfaaGreat
