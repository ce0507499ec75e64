/- Each Go function as a function over typed data, and its walk. -/
import Derived.Test.YtojbebejhgbfeaaGreatW0
import Derived.Test.YtojbebejhgbfeaaGreatW1
import Derived.Test.YtojbebejhgbfeaaGreatW2
import Derived.Test.YtojbebejhgbfeaaGreatW3
import Derived.Test.YtojbebejhgbfeaaGreatW4
open Option renaming some->XC,map_eq_some_iff->XD,none->XF
open Go.IntKind renaming i64->XG
open Go.Proofs.Tryz renaming prog->XH
open Bool renaming false->XI,true->XJ
open Sum renaming inr->XK,inl->XL
namespace Go.Proofs.YtojbebejhgbfeaaGreat
open Go Go.Fw Go.Shelf
set_option maxRecDepth 100000
set_option maxHeartbeats 4000000
set_option linter.unusedSimpArgs false
set_option linter.unusedVariables false
def F187_l4(x1:Int)(x2:Int):Nat→Int→Int→Option (Int)
 |0,_,_=>XF
 |k+1,o4_0,o4_1=>(if o4_1<(if 64<(XG.wrap (x2-1))then 64 else(XG.wrap (x2-1)))then(if(if 1000000000000<(if x1<0 then 0 else x1)then 1000000000000 else(if x1<0 then 0 else x1))≤o4_0 then XC o4_0 else F187_l4 x1 x2 k ((XG.wrap (o4_0*2))) ((XG.wrap (o4_1+1))))else XC o4_0)
def F187(x0:Int)(x1:Int)(x2:Int):Option (Int):=(F186 x0).bind fun t1=>(F186 x1).bind fun t2=>(if x2<1 then XC 0 else((F187_l4 x1 x2 1099511627776 ((if 1000000000000<(if x0<0 then 0 else x0)then 1000000000000 else(if x0<0 then 0 else x0))) 0).bind fun o4=>XC ((if(if 1000000000000<(if x1<0 then 0 else x1)then 1000000000000 else(if x1<0 then 0 else x1))<o4 then(if 1000000000000<(if x1<0 then 0 else x1)then 1000000000000 else(if x1<0 then 0 else x1))else o4))))
def a187:dG:=⟨29,[(.tmp 6)],
 (.seq (.reg [Qe 6 0])
 (.seq (.reg [Qa 9 0,
Qk 10 186 9,
Qa 11 1,
Qk 12 186 11,
Qa 7 10,
Qa 8 12])
 (.seq (.seq (.reg [Qa 13 2,
sq 14 (.bin .lss (.t 13) (kI 1))])
 (.cond (.t 14)
 (.seq (.reg [Qe 6 0])
 .ret)
 .skip))
 (.seq (.seq (.reg [Qa 15 2,
sq 16 (.bin .sub (.t 15) (kI 1)),
sq 17 (.min (.t 16) (kI 64)),
Qe 18 0])
 (.sem (.block 0 (.loop (.seq (.reg [Qn 19 18 17])
 (.seq (.cond (.t 19)
 .skip
 (.exit 0))
 (.seq (.block 1 (.seq (.seq (.reg [Qa 20 7,
Qa 21 8,
sq 22 (.bin .geq (.t 20) (.t 21))])
 (.cond (.t 22)
 (.exit 0)
 .skip))
 (.reg [Qa 23 7,
sq 24 (.bin .mul (.t 23) (kI 2)),
Qa 7 24])))
 (.reg [Qm 25 18 1,
Qa 18 25]))))))))
 (.seq (.reg [Qa 26 7,
Qa 27 8,
sq 28 (.min (.t 26) (.t 27)),
Qa 6 28])
 .ret)))))⟩
theorem F187_ok{x0 x1 x2 r}(h:F187 x0 x1 x2=XC r):aW XH 187 [.c (dI x0),.c (dI x1),.c (dI x2)] [] (bJ [.c (dI r)]) []:=by
 rw[F187]at h
 refine zc a187 (by kernel_rfl) rfl (ww ?_)
 obtain⟨t1,ht1,h⟩:=bi h
 refine cN [] (F186_ok ht1) trivial (ww ?_)
 obtain⟨t2,ht2,h⟩:=bi h
 refine cN [] (F186_ok ht2) trivial (ww ?_)
 refine bG h (fun c3 h=>ww ?_) (fun c3 h=>ww ?_)
 ·cases h
  exact eF []
 obtain⟨o4,ho,h⟩:=bi h
 refine bD (fun s=>s=⟨[(7,oI o4),(8,oI ((if 1000000000000<(if x1<0 then 0 else x1)then 1000000000000 else(if x1<0 then 0 else x1))))],[]⟩) ?_ ?_
 ·have h:=ho
  refine ww ?_
  refine bL (fun j s=>∃(o4_0:Int) (o4_1:Int),s=⟨[(7,oI o4_0),(8,oI ((if 1000000000000<(if x1<0 then 0 else x1)then 1000000000000 else(if x1<0 then 0 else x1)))),(17,oI ((if 64<(XG.wrap (x2-1))then 64 else(XG.wrap (x2-1))))),(18,oI o4_1)],[]⟩∧F187_l4 x1 x2 j o4_0 o4_1=XC o4) 1099511627776 [] ⟨(if 1000000000000<(if x0<0 then 0 else x0)then 1000000000000 else(if x0<0 then 0 else x0)),0,rfl,h⟩ ?_
  rintro j _ ⟨o4_0,o4_1,rfl,h⟩
  cases j with
  |zero=>cases(show(XF:Option _)=XC _ from h)
  |succ j=>
   rw[F187_l4]at h
   refine ww ?_
   refine bG h (fun c5 h=>ww ?_) (fun c5 h=>?_)
   ·refine bG h (fun c6 h=>ww ?_) (fun c6 h=>?_)
    ·cases h
     exact eM [] rfl
    ·refine ww ?_
     exact jo j [] ⟨(XG.wrap (o4_0*2)),(XG.wrap (o4_1+1)),rfl,h⟩ (Nat.lt_succ_self _)
   ·refine ww ?_
    cases h
    exact eM [] rfl
 rintro _ rfl
 refine ww ?_
 cases h
 exact eF []
def F129_l1(b0:ByteArray):List aw→Nat→Option ((Int) ⊕ (Unit))
 |[],o1_0=>XC (XK (()))
 |xo1::xs,o1_0=>(F109 xo1 b0).bind fun t3=>(if xo1.aV=b0 then(XC ((o1_0:Int))).map XL else F129_l1 b0 xs (o1_0+1))
def F129(x0:(List aw))(b0:ByteArray):Option (Int):=(((ck (0≤x0.length∧x0.length≤4294967290)).bind fun u5=>F129_l1 b0 x0 0:Option ((Int) ⊕ (Unit))).bind fun o1=>match o1 with|XL f=>XC f|XK po1=>XC ((-1)))
def a129:dG:=⟨19,[(.tmp 4)],
 (.seq (.reg [Qe 4 0])
 (.seq (.seq (.reg [Qa 6 0,
Qh 7 6,
Qe 8 0])
 (.sem (.block 0 (.loop (.seq (.reg [Qn 9 8 7])
 (.seq (.cond (.t 9)
 .skip
 (.exit 0))
 (.seq (.block 1 (.seq (.reg [Qa 10 8,
Qa 5 10])
 (.seq (.reg [Qa 11 1,
Qa 12 0,
Qa 13 5,
Qp 14 3 12 13,
Qc 15 3 14,
zl 16 (.callv (.t 11) [(.t 15)]) [] [12,14]])
 (.cond (.t 16)
 (.seq (.reg [Qa 17 5,
Qa 4 17])
 .ret)
 .skip))))
 (.reg [Qm 18 8 1,
Qa 8 18]))))))))
 (.seq (.reg [sq 4 (.mv (kI (-1)))])
 .ret)))⟩
theorem F129_ok{x0 b0 r}(h:F129 x0 b0=XC r):aW XH 129 [.c (dM (x0.map aR)),.c (.fn 109 [(0,0)])] [xb [dS b0]] (bJ [.c (dI r)]) [xb [dS b0]]:=by
 rw[F129]at h
 refine zc a129 (by kernel_rfl) rfl (ww ?_)
 obtain⟨o1,ho,h⟩:=bi h
 refine bD (fun s=>∃po1,o1=XK po1∧s=⟨[],[xb [dS b0]]⟩) ?_ ?_
 ·have h0o1:=h
  have h:=ho
  obtain⟨_,hk,h⟩:=bi h
  have hk:=cr hk
  refine ww ?_
  refine bL (fun j s=>∃(o1_0:Nat),(o1_0≤x0.length∧j=x0.length-o1_0)∧s=⟨[(0,oM (x0.map aR)),(1,oc (.fn 109 [(0,0)])),(7,oI (x0.length:Int)),(8,oI (o1_0:Int))],[xb [dS b0]]⟩∧F129_l1 b0 (x0.drop o1_0) o1_0=XC o1) (x0.length-0) [XC 0] ⟨0,⟨hk.1,rfl⟩,rfl,h⟩ ?_
  rintro _ _ ⟨o1_0,⟨hi,rfl⟩,rfl,h⟩
  refine ww ?_
  refine dq (fun c2=>?_) (fun c2=>?_)
  ·obtain⟨xo1,hxo1,hd⟩:=cW (show(o1_0:Int)<(x0.length:Int)from c2)
   rw[hd,F129_l1]at h
   refine ww ?_
   refine bI (enc:=aR) (xs:=x0) rfl rfl hxo1 rfl (ww ?_)
   obtain⟨t3,ht3,h⟩:=bi h
   refine cN [0] (F109_ok ht3) ⟨⟨(by first|rfl|(simp only[List.length_set];rfl)),by simp[bw.live,C.live,hp]⟩,trivial⟩ ?_
   refine ww ?_
   refine bG h (fun c4 h=>ww ?_) (fun c4 h=>ww ?_)
   ·obtain⟨fh0o1,hfh0o1,rfl⟩:=XD.1 h
    have h:=hfh0o1.trans h0o1
    cases h
    exact eF [XC 0]
   rw[cL (by omega)]
   exact jo (x0.length-(o1_0+1)) [XC 0] ⟨o1_0+1,⟨by omega,rfl⟩,rfl,h⟩ (by omega)
  rw[cX (show¬((o1_0:Int)<(x0.length:Int))from c2),F129_l1]at h
  refine ww ?_
  cases h
  exact eM [XC 0] ⟨_,rfl,rfl⟩
 rintro _ ⟨po1,rfl,rfl⟩
 dsimp only at h
 refine ww ?_
 cases h
 exact eF [XC 0]
def F139_l1(x0:Int):List ag→Nat→Bool→Bool→Bool→Option (Bool×Bool×Bool)
 |[],o1_3,o1_0,o1_1,o1_2=>XC ((o1_0,o1_1,o1_2))
 |xo1::xs,o1_3,o1_0,o1_1,o1_2=>(((((if o1_0=XJ then(F200 x0 xo1).bind fun t6=>XC t6 else XC XI)).bind fun o4=>(((if o1_1=XJ then XC XJ else XC (decide (¬(xo1.bM=0))))).bind fun o7=>(if o1_2=XJ then XC ((o4,o7,XJ))else(if xo1.bH=1 then XC ((o4,o7,XJ))else(if xo1.bH=2 then XC ((o4,o7,XJ))else XC ((o4,o7,decide (0<xo1.bk))))))))).bind fun o3=>F139_l1 x0 xs (o1_3+1) o3.1 o3.2.1 o3.2.2)
def F139(x0:Int)(x1:(List ag)):Option (Int):=(((ck (0≤x1.length∧x1.length≤4294967290)).bind fun u12=>F139_l1 x0 x1 0 (decide (0<(x1.length:Int))) XI XI).bind fun o1=>(((if o1.1=XJ then XC o1.2.1 else XC XI)).bind fun o13=>(if o13=XJ then XC 3 else(if o1.1=XJ then XC 2 else(if o1.2.2=XJ then XC 1 else XC 0)))))
def a139:dG:=⟨57,[(.tmp 4)],
 (.seq (.reg [Qe 4 0])
 (.seq (.reg [Qa 10 1,
Qh 11 10,
sq 12 (.bin .gtr (.t 11) (kI 0)),
Qa 5 12,
Qf 6 XI,
Qf 7 XI])
 (.seq (.seq (.reg [Qa 13 1,
Qh 14 13,
Qe 15 0])
 (.sem (.block 0 (.loop (.seq (.reg [Qn 16 15 14])
 (.seq (.cond (.t 16)
 .skip
 (.exit 0))
 (.seq (.sem (.block 1 (.seq (.reg [Qp 17 7 13 15,
Qc 18 7 17,
sq 9 (.zbox [dS ⟨#[]⟩,dI 0,dI 0,dI 0,dI 0,dB XI,dB XI]),
su (.store 7 (.t 9) (.t 18))])
 (.seq (.sem (.reg [Qa 19 5,
Qa 20 19,
Qv 21 20 XJ 0,
Qu 22 20 XJ 7 9,
zg 23 20 XJ (.call 200 [(.t 21),(.t 22)]),
Qi 24 20 23,
Qa 5 24]))
 (.seq (.sem (.reg [Qa 25 6,
Qa 26 25,
Qs 27 26 XI 3 9,
Qt 28 26 XI 27,
zg 29 26 XI (.bin .neq (.t 28) (kI 0)),
Qj 30 26 29,
Qa 6 30]))
 (.reg [Qa 31 7,
Qa 32 31,
Qs 33 32 XI 1 9,
Qt 34 32 XI 33,
zg 35 32 XI (.bin .eql (.t 34) (kI 1)),
Qj 36 32 35,
Qa 37 36,
Qs 38 37 XI 1 9,
Qt 39 37 XI 38,
zg 40 37 XI (.bin .eql (.t 39) (kI 2)),
Qj 41 37 40,
Qa 42 41,
Qs 43 42 XI 2 9,
Qt 44 42 XI 43,
zg 45 42 XI (.bin .gtr (.t 44) (kI 0)),
Qj 46 42 45,
Qa 7 46]))))))
 (.reg [Qm 47 15 1,
Qa 15 47]))))))))
 (.seq (.block 2 (.seq (.sem (.reg [Qa 49 5,
Qa 50 49,
Qv 51 50 XJ 6,
Qi 52 50 51,
Qa 48 52]))
 (.cond (.t 48)
 (.seq (.reg [Qe 4 3])
 .ret)
 (.seq (.reg [Qa 54 5,
Qa 53 54])
 (.cond (.t 53)
 (.seq (.reg [Qe 4 2])
 .ret)
 (.seq (.reg [Qa 56 7,
Qa 55 56])
 (.cond (.t 55)
 (.seq (.reg [Qe 4 1])
 .ret)
 .skip)))))))
 (.seq (.reg [Qe 4 0])
 .ret)))))⟩
theorem F139_ok{x0 x1 r}(h:F139 x0 x1=XC r):aW XH 139 [.c (dI x0),.c (dM (x1.map aC))] [] (bJ [.c (dI r)]) []:=by
 rw[F139]at h
 refine zc a139 (by kernel_rfl) rfl (ww ?_)
 obtain⟨o1,ho,h⟩:=bi h
 refine bD (fun s=>s=⟨[(5,oB o1.1),(6,oB o1.2.1),(7,oB o1.2.2)],[]⟩) ?_ ?_
 ·have h:=ho
  obtain⟨_,hk,h⟩:=bi h
  have hk:=cr hk
  refine ww ?_
  refine bL (fun j s=>∃(o1_3:Nat) (o1_0:Bool) (o1_1:Bool) (o1_2:Bool),(o1_3≤x1.length∧j=x1.length-o1_3)∧s=⟨[(0,oI x0),(5,oB o1_0),(6,oB o1_1),(7,oB o1_2),(13,oM (x1.map aC)),(14,oI (x1.length:Int)),(15,oI (o1_3:Int))],[]⟩∧F139_l1 x0 (x1.drop o1_3) o1_3 o1_0 o1_1 o1_2=XC o1) (x1.length-0) [] ⟨0,decide (0<(x1.length:Int)),XI,XI,⟨hk.1,rfl⟩,rfl,h⟩ ?_
  rintro _ _ ⟨o1_3,o1_0,o1_1,o1_2,⟨hi,rfl⟩,rfl,h⟩
  refine ww ?_
  refine dq (fun c2=>?_) (fun c2=>?_)
  ·obtain⟨xo1,hxo1,hd⟩:=cW (show(o1_3:Int)<(x1.length:Int)from c2)
   rw[hd,F139_l1]at h
   refine ww ?_
   obtain⟨o3,ho,h⟩:=bi h
   refine bD (fun s=>s=⟨[(0,oI x0),(5,oB o3.1),(6,oB o3.2.1),(7,oB o3.2.2),(13,oM (x1.map aC)),(14,oI (x1.length:Int)),(15,oI (o1_3:Int))],[]⟩) ?_ ?_
   ·have h:=ho
    refine ww ?_
    refine bI (enc:=aC) (xs:=x1) rfl rfl hxo1 rfl (ww ?_)
    obtain⟨o4,ho,h⟩:=bi h
    refine bD (fun s=>s=⟨[(0,oI x0),(5,oB o4),(6,oB o1_1),(7,oB o1_2),(9,Pz 0),(13,oM (x1.map aC)),(14,oI (x1.length:Int)),(15,oI (o1_3:Int))],[xb (dw xo1)]⟩) ?_ ?_
    ·have h:=ho
     refine ww ?_
     refine dK h (fun g5 h=>ww ?_) (fun g5 h=>ww ?_)
     ·obtain⟨t6,ht6,h⟩:=bi h
      refine cN [] (F200_ok ht6) trivial (ww ?_)
      cases h
      exact eM [XC 0] rfl
     cases h
     exact eM [XC 0] rfl
    rintro _ rfl
    refine ww ?_
    obtain⟨o7,ho,h⟩:=bi h
    refine bD (fun s=>s=⟨[(0,oI x0),(5,oB o4),(6,oB o7),(7,oB o1_2),(9,Pz 0),(13,oM (x1.map aC)),(14,oI (x1.length:Int)),(15,oI (o1_3:Int))],[xb (dw xo1)]⟩) ?_ ?_
    ·have h:=ho
     refine ww ?_
     refine dK h (fun g8 h=>ww ?_) (fun g8 h=>ww ?_)
     ·cases h
      exact eM [XC 0] rfl
     cases h
     exact eM [XC 0] rfl
    rintro _ rfl
    refine ww ?_
    refine dK h (fun g9 h=>ww ?_) (fun g9 h=>ww ?_)
    ·cases h
     exact eM [] rfl
    refine bR h (fun g10 h=>ww ?_) (fun g10 h=>ww ?_)
    ·cases h
     exact eM [] rfl
    refine bR h (fun g11 h=>ww ?_) (fun g11 h=>ww ?_)
    ·cases h
     exact eM [] rfl
    cases h
    exact eM [] rfl
   rintro _ rfl
   refine ww ?_
   rw[cL (by omega)]
   exact jo (x1.length-(o1_3+1)) [] ⟨o1_3+1,o3.1,o3.2.1,o3.2.2,⟨by omega,rfl⟩,rfl,h⟩ (by omega)
  rw[cX (show¬((o1_3:Int)<(x1.length:Int))from c2),F139_l1]at h
  refine ww ?_
  cases h
  exact eM [] rfl
 rintro _ rfl
 refine ww ?_
 obtain⟨o13,ho,h⟩:=bi h
 refine bD (fun s=>s=⟨[(5,oB o1.1),(7,oB o1.2.2),(48,oB o13)],[]⟩) ?_ ?_
 ·have h:=ho
  refine ww ?_
  refine dK h (fun g14 h=>ww ?_) (fun g14 h=>ww ?_)
  ·cases h
   exact eM [] rfl
  cases h
  exact eM [] rfl
 rintro _ rfl
 refine ww ?_
 refine ct h (fun c15 h=>ww ?_) (fun c15 h=>ww ?_)
 ·cases h
  exact eF []
 refine ct h (fun c16 h=>ww ?_) (fun c16 h=>ww ?_)
 ·cases h
  exact eF []
 refine ct h (fun c17 h=>ww ?_) (fun c17 h=>ww ?_)
 ·cases h
  exact eF []
 cases h
 exact eF []
def F69(x0:ByteArray)(x1:ByteArray):Option (Int):=(N3 x0 x1).bind fun t1=>XC t1
def a69:dG:=⟨8,[(.tmp 4)],
 (.seq (.reg [Qe 4 0])
 (.seq (.reg [Qa 5 0,
Qa 6 1,
Ql 7 115 5 6,
Qa 4 7])
 .ret))⟩
theorem F69_ok{x0 x1 r}(h:F69 x0 x1=XC r):aW XH 69 [.c (dS x0),.c (dS x1)] [] (bJ [.c (dI r)]) []:=by
 rw[F69]at h
 refine zc a69 (by kernel_rfl) rfl (ww ?_)
 obtain⟨t1,ht1,h⟩:=bi h
 refine cN [] (F115_ok ht1) trivial (ww ?_)
 cases h
 exact eF []
def F129v1_l1(b1:ByteArray):List aw→Nat→Option ((Int) ⊕ (Unit))
 |[],o1_0=>XC (XK (()))
 |xo1::xs,o1_0=>(F130 xo1 b1).bind fun t3=>(if(nb (Op.bytesLess xo1.aV.toList b1.toList))=XJ then(XC ((o1_0:Int))).map XL else F129v1_l1 b1 xs (o1_0+1))
def F129v1(x0:(List aw))(b1:ByteArray):Option (Int):=(((ck (0≤x0.length∧x0.length≤4294967290)).bind fun u5=>F129v1_l1 b1 x0 0:Option ((Int) ⊕ (Unit))).bind fun o1=>match o1 with|XL f=>XC f|XK po1=>XC ((-1)))
def a129v1:dG:=⟨19,[(.tmp 4)],
 (.seq (.reg [Qe 4 0])
 (.seq (.seq (.reg [Qa 6 0,
Qh 7 6,
Qe 8 0])
 (.sem (.block 0 (.loop (.seq (.reg [Qn 9 8 7])
 (.seq (.cond (.t 9)
 .skip
 (.exit 0))
 (.seq (.block 1 (.seq (.reg [Qa 10 8,
Qa 5 10])
 (.seq (.reg [Qa 11 1,
Qa 12 0,
Qa 13 5,
Qp 14 3 12 13,
Qc 15 3 14,
zl 16 (.callv (.t 11) [(.t 15)]) [] [12,14]])
 (.cond (.t 16)
 (.seq (.reg [Qa 17 5,
Qa 4 17])
 .ret)
 .skip))))
 (.reg [Qm 18 8 1,
Qa 8 18]))))))))
 (.seq (.reg [sq 4 (.mv (kI (-1)))])
 .ret)))⟩
theorem a129v1_ok:nv XH 129=XC a129v1.er:=by kernel_rfl
theorem F129v1_ok{x0 b1 r}{e0:Nat}(h:F129v1 x0 b1=XC r):aW XH 129 [.c (ow 0 e0 x0),.c (.fn 130 [(1,0)])] [ba e0 x0,xb [dS b1]] (bJ [.c (dI r)]) [ba e0 x0,xb [dS b1]]:=by
 refine pF a129v1_ok (by simp[a129v1]) ?_
 rw[F129v1]at h
 simp only[a129v1,VW.down,Nat.reduceEqDiff,reduceCtorEq,Nat.reduceAdd,Nat.reduceLeDiff,Nat.reduceLT,Nat.reduceBEq,Nat.reduceSub,EE.down]
 obtain⟨o1,ho,h⟩:=bi h
 refine bD (fun s=>∃po1,o1=XK po1∧s=⟨[],[ba e0 x0,xb [dS b1]]⟩) ?_ ?_
 ·have h0o1:=h
  have h:=ho
  obtain⟨_,hk,h⟩:=bi h
  have hk:=cr hk
  refine ww ?_
  refine bL (fun j s=>∃(o1_0:Nat),(o1_0≤x0.length∧j=x0.length-o1_0)∧s=⟨[(0,oc (ow 0 e0 x0)),(1,oc (.fn 130 [(1,0)])),(7,oI (x0.length:Int)),(8,oI (o1_0:Int))],[ba e0 x0,xb [dS b1]]⟩∧F129v1_l1 b1 (x0.drop o1_0) o1_0=XC o1) (x0.length-0) i2 ⟨0,⟨hk.1,rfl⟩,rfl,h⟩ ?_
  rintro _ _ ⟨o1_0,⟨hi,rfl⟩,rfl,h⟩
  refine ww ?_
  refine dq (fun c2=>?_) (fun c2=>?_)
  ·obtain⟨xo1,hxo1,hd⟩:=cW (show(o1_0:Int)<(x0.length:Int)from c2)
   rw[hd,F129v1_l1]at h
   refine ww ?_
   refine tO (enc:=aR) (xs:=x0) rfl rfl rfl hxo1 (ww ?_)
   refine cD.rd (aQ hxo1).2.1 (ww ?_)
   obtain⟨t3,ht3,h⟩:=bi h
   have qx:=q1 (cb hxo1)
   refine cQ [1] (F130_ok ht3) (ww ?_)
   refine ct h (fun c4 h=>ww ?_) (fun c4 h=>ww ?_)
   ·obtain⟨fh0o1,hfh0o1,rfl⟩:=XD.1 h
    have h:=hfh0o1.trans h0o1
    cases h
    have qx:=q1 (cb hxo1)
    exact tg i2
   rw[cL (by omega)]
   have qx:=q1 (cb hxo1)
   exact iI (x0.length-(o1_0+1)) i2 ⟨o1_0+1,⟨by omega,rfl⟩,rfl,h⟩ (by omega)
  rw[cX (show¬((o1_0:Int)<(x0.length:Int))from c2),F129v1_l1]at h
  refine ww ?_
  cases h
  exact eM i2 ⟨_,rfl,rfl⟩
 rintro _ ⟨po1,rfl,rfl⟩
 dsimp only at h
 refine ww ?_
 cases h
 exact eF i2
theorem a131_ok:nv XH 131=XC (mQ 3 32 [.v (.string ⟨#[]⟩),.v (.int .i64 0),.v (.int .i64 0)] 192 193):=by kernel_rfl
theorem F131_ok{x0 r:List aw}{i:Int}{x:aw}{e0 e1:Nat}(h:lL x0 i x=XC r):aW XH 131 [.c (.own 0 e0 0 x0.length XF),aI i,.c (.own 1 e1 0 [x].length XF)] [ba e0 x0,XC (.arr e1 3 ([x].map aR))] (bJ [.c (.own 0 (e0+1) 0 r.length XF)]) [ba (e0+1) r,XC (.arr e1 3 ([x].map aR))]:=BR a131_ok OQ (fun _=>rfl) h
def F198(x0:Int)(x1:Int):Option (Int):=(F222 x0).bind fun t1=>(F222 x1).bind fun t2=>(if¬(True)then(if¬(True)then XC 0 else XC ((-1)))else(if¬(True)then XC 1 else(if x0<x1 then XC ((-1))else(if x1<x0 then XC 1 else XC 0))))
def a198:dG:=⟨20,[(.tmp 4)],
 (.seq (.reg [Qe 4 0])
 (.seq (.reg [Qa 7 0,
Qk 8 222 7,
Qa 5 8])
 (.seq (.reg [Qa 9 1,
Qk 10 222 9,
Qa 6 10])
 (.seq (.seq (.reg [Qa 11 5])
 (.cond (.t 11)
 (.seq (.seq (.reg [Qa 12 6])
 (.cond (.t 12)
 (.seq (.reg [Qe 4 0])
 .ret)
 .skip))
 (.seq (.reg [sq 4 (.mv (kI (-1)))])
 .ret))
 .skip))
 (.seq (.seq (.reg [Qa 13 6])
 (.cond (.t 13)
 (.seq (.reg [Qe 4 1])
 .ret)
 .skip))
 (.seq (.seq (.reg [Qa 14 0,
Qa 15 1,
Qn 16 14 15])
 (.cond (.t 16)
 (.seq (.reg [sq 4 (.mv (kI (-1)))])
 .ret)
 .skip))
 (.seq (.seq (.reg [Qa 17 0,
Qa 18 1,
sq 19 (.bin .gtr (.t 17) (.t 18))])
 (.cond (.t 19)
 (.seq (.reg [Qe 4 1])
 .ret)
 .skip))
 (.seq (.reg [Qe 4 0])
 .ret))))))))⟩
theorem F198_ok{x0 x1 r}(h:F198 x0 x1=XC r):aW XH 198 [.c (dI x0),.c (dI x1)] [] (bJ [.c (dI r)]) []:=by
 rw[F198]at h
 refine zc a198 (by kernel_rfl) rfl (ww ?_)
 obtain⟨t1,ht1,h⟩:=bi h
 refine cN [] (F222_ok ht1) trivial (ww ?_)
 obtain⟨t2,ht2,h⟩:=bi h
 refine cN [] (F222_ok ht2) trivial (ww ?_)
 refine bG h (fun c3 h=>ww ?_) (fun c3 h=>ww ?_)
 ·refine bG h (fun c4 h=>ww ?_) (fun c4 h=>ww ?_)
  ·cases h
   exact eF []
  cases h
  exact eF []
 refine bG h (fun c5 h=>ww ?_) (fun c5 h=>ww ?_)
 ·cases h
  exact eF []
 refine bG h (fun c6 h=>ww ?_) (fun c6 h=>ww ?_)
 ·cases h
  exact eF []
 refine bG h (fun c7 h=>ww ?_) (fun c7 h=>ww ?_)
 ·cases h
  exact eF []
 cases h
 exact eF []
def F182(x0:Int)(x1:Int):Option (Int):=(F183 ((XG.wrap (x0-x1)))).bind fun t1=>XC ((if 1000000000000000<(if((XG.wrap (x0-x1)))<0 then 0 else((XG.wrap (x0-x1))))then 1000000000000000 else(if((XG.wrap (x0-x1)))<0 then 0 else((XG.wrap (x0-x1))))))
def a182:dG:=⟨9,[(.tmp 4)],
 (.seq (.reg [Qe 4 0])
 (.seq (.reg [Qa 5 0,
Qa 6 1,
sq 7 (.bin .sub (.t 5) (.t 6)),
Qk 8 183 7,
Qa 4 8])
 .ret))⟩
theorem F182_ok{x0 x1 r}(h:F182 x0 x1=XC r):aW XH 182 [.c (dI x0),.c (dI x1)] [] (bJ [.c (dI r)]) []:=by
 rw[F182]at h
 refine zc a182 (by kernel_rfl) rfl (ww ?_)
 obtain⟨t1,ht1,h⟩:=bi h
 refine cN [] (F183_ok ht1) trivial (ww ?_)
 cases h
 exact eF []
def J1:AC:=(.reg [Qa 9 3,
Qb 10 26 1,
Qd 11 10,
Qk 12 29 11,
Qb 13 0 9,
Qb 14 0 13,
Qb 15 26 14,
su (.store 1 (.t 15) (.t 12))])
def F37c(a:ah):Option ((List aw)):=(gw a.aM).bind fun t1=>XC t1
theorem F37c_ok{a r}(h:F37c a=XC r):sK XH 60 0 J1 [] (sM 60 0 (fun s=>s=⟨[(1,Pz 0),(3,Pz 1)],[xb (dy a),xb (BK a (ow 2 0 r)),ba 0 r]⟩) (xQ 60 0 (fun _ _=>False) (fun _=>False)))
 ⟨[(1,Pz 0),(3,Pz 1)],[xb (dy a),xb (dy a)]⟩:=by
 rw[F37c]at h
 unfold J1
 refine ww ?_
 obtain⟨t1,ht1,h⟩:=bi h
 refine cN [] (F29_ok ht1) trivial (ww ?_)
 cases h
 exact eM i3 rfl
def JX:AC:=(.reg [sq 5 (.zbox Fk),
Qa 4 31,
su (.store 36 (.t 5) (.t 33))])
def F37g(e1:Nat)(b0:aj)(mx:List Gv)(n:Int)(i:Int)(x:af):Option (Unit):=XC (())
theorem F37g_ok{e1 b0 mx n i x r}(h:F37g e1 b0 mx n i x=XC r):sK XH 60 0 JX [] (sM 60 0 (fun s=>s=⟨[(3,Pz 0),(4,oI i),(5,Pz 2),(27,oc (ow 1 0 mx)),(28,oI n),(29,oI i)],[xb (aA b0 (ow 1 0 mx)),XC (.arr 0 36 (mx.map jC)),xb (gb x)]⟩) (xQ 60 0 (fun _ _=>False) (fun _=>False)))
 ⟨[(3,Pz 0),(27,oc (ow 1 e1 mx)),(28,oI n),(29,oI i),(31,oI i),(33,.one (.agg (gb x)))],[xb (aA b0 (ow 1 e1 mx)),XC (.arr e1 36 (mx.map jC))]⟩:=by
 rw[F37g]at h
 unfold JX
 refine ww ?_
 cases h
 exact eM i3 rfl
def JV:AC:=(.reg [Qb 34 0 5,
Qb 35 23 34,
Qb 36 5 35,
Qd 37 36,
Qk 38 71 37,
Qb 39 0 5,
Qb 40 23 39,
Qb 41 5 40,
su (.store 1 (.t 41) (.t 38))])
def F37k(e1:Nat)(b0:aj)(mx:List Gv)(n:Int)(i:Int)(x:af):Option ((List ag)):=(gw x.an.ae.ad).bind fun t1=>XC t1
theorem F37k_ok{e1 b0 mx n i x r}(h:F37k e1 b0 mx n i x=XC r):sK XH 60 0 JV [] (sM 60 0 (fun s=>s=⟨[(3,Pz 0),(4,oI i),(5,Pz 2),(27,oc (ow 1 0 mx)),(28,oI n),(29,oI i)],[xb (aA b0 (ow 1 0 mx)),XC (.arr 0 36 (mx.map jC)),xb (tV x (ow 3 0 r)),aE 0 r]⟩) (xQ 60 0 (fun _ _=>False) (fun _=>False)))
 ⟨[(3,Pz 0),(4,oI i),(5,Pz 2),(27,oc (ow 1 e1 mx)),(28,oI n),(29,oI i)],[xb (aA b0 (ow 1 e1 mx)),XC (.arr e1 36 (mx.map jC)),xb (gb x)]⟩:=by
 rw[F37k]at h
 unfold JV
 refine ww ?_
 obtain⟨t1,ht1,h⟩:=bi h
 refine cN [] (F71_ok ht1) trivial (ww ?_)
 cases h
 exact eM i4 rfl
def E8:AC:=(.regd [Qa 50 3,
sd 51 (.fieldA 0 (.t 50)) [0],
sd 52 (.fieldA 0 (.t 51)) [0,1],
sd 53 (.fieldA 25 (.t 52)) [0,1,2],
sd 54 (.load XF (.t 53)) [0,1,2,3],
Qa 55 4,
Qc 56 36 5,
sd 57 (.indexA 36 (.t 54) (.t 55)) [0,1,2,3,4,5,6]])
def F37m(e1:Nat)(b0:aj)(mx:List Gv)(n:Int)(i:Int)(y:au):Option (Unit):=(cI mx i).bind fun y1=>XC (())
theorem F37m_ok{e1 b0 mx n i y r}(h:F37m e1 b0 mx n i y=XC r):sK XH 60 0 E8 [] (sM 60 0 (fun s=>s=⟨[(3,Pz 0),(27,oc (ow 1 0 mx)),(28,oI n),(29,oI i),(56,.one (.agg (cv y))),(57,oc (.pe 1 0 i.toNat 0))],[xb (aA b0 (ow 1 0 mx)),XC (.arr 0 36 (mx.map jC))]⟩) (xQ 60 0 (fun _ _=>False) (fun _=>False)))
 ⟨[(3,Pz 0),(4,oI i),(5,Pz 2),(27,oc (ow 1 e1 mx)),(28,oI n),(29,oI i)],[xb (aA b0 (ow 1 e1 mx)),XC (.arr e1 36 (mx.map jC)),xb (cv y)]⟩:=by
 rw[F37m]at h
 unfold E8
 refine ww ?_
 obtain⟨y1,hy1,h⟩:=bi h
 refine tO (enc:=jC) (xs:=mx) rfl rfl rfl hy1 (ww ?_)
 cases h
 have qx:=q1 (bc hy1)
 exact fI i2 rfl
def wJ:AC:=(.regd [Qa 14 5,
Qa 15 5,
sd 16 (.fieldA 0 (.t 15)) [1],
sd 17 (.fieldA 0 (.t 16)) [1,2],
sd 18 (.fieldA 24 (.t 17)) [1,2,3],
sd 19 (.load XF (.t 18)) [1,2,3,4],
Qb 20 1 3,
sd 21 (.load XF (.t 20)) [6],
zl 22 (.call 36 [(.t 21)]) [6,7] [15,16,17,18],
sd 23 (.max (.t 19) (.t 22)) [1,2,3,4,5,6,7,8],
sd 24 (.fieldA 0 (.t 14)) [0,1,2,3,4,5,6,7,8,9],
sd 25 (.fieldA 0 (.t 24)) [0,1,2,3,4,5,6,7,8,9,10],
sd 26 (.fieldA 24 (.t 25)) [0,1,2,3,4,5,6,7,8,9,10,11],
⟨XF,XF,.store 1 (.t 26) (.t 23),[0,1,2,3,4,5,6,7,8,9,10,11,12],(.lone [])⟩])
def F10tick(e1:Nat)(b0:aj)(pods:List au)(v:aN):Option (Int):=(F36 v.N).bind fun t1=>XC ((if b0.ah.cl<(if 1000000000000<(if v.N<0 then 0 else v.N)then 1000000000000 else(if v.N<0 then 0 else v.N))then(if 1000000000000<(if v.N<0 then 0 else v.N)then 1000000000000 else(if v.N<0 then 0 else v.N))else b0.ah.cl))
theorem F10tick_ok{e1 b0 pods v r}(h:F10tick e1 b0 pods v=XC r):sK XH 86 0 wJ [] (sM 86 0 (fun s=>s=⟨[(3,Pz 0),(4,Pz 1),(5,Pz 2)],[xb (aZ v),xb gx,xb (BF b0 (dI r) (ow 3 0 pods)),ai 0 pods]⟩) (xQ 86 0 (fun _ _=>False) (fun _=>False)))
 ⟨[(3,Pz 0),(4,Pz 1),(5,Pz 2)],[xb (aZ v),xb gx,xb (aA b0 (ow 3 e1 pods)),ai e1 pods]⟩:=by
 rw[F10tick]at h
 unfold wJ
 refine ww ?_
 obtain⟨t1,ht1,h⟩:=bi h
 refine cN [] (F36_ok ht1) trivial (ww ?_)
 cases h
 exact eM i4 rfl
end Go.Proofs.YtojbebejhgbfeaaGreat
