/- Each Go function as a function over typed data, and its walk. -/
import Derived.Test.YtojbebejhgbfeaaGreatW0
import Derived.Test.YtojbebejhgbfeaaGreatW2
import Derived.Test.YtojbebejhgbfeaaGreatW3
import Derived.Test.YtojbebejhgbfeaaGreatW4
import Derived.Test.YtojbebejhgbfeaaGreatW6
import Derived.Test.YtojbebejhgbfeaaGreatW7
import Derived.Test.YtojbebejhgbfeaaGreatW8
import Derived.Test.YtojbebejhgbfeaaGreatW9
open Option renaming some->XC,none->XD
open Go.Proofs.Tryz renaming prog->XF
open Go.IntKind renaming i64->XG
namespace Go.Proofs.YtojbebejhgbfeaaGreat
open Go Go.Fw Go.Shelf
set_option maxRecDepth 100000
set_option maxHeartbeats 4000000
set_option linter.unusedSimpArgs false
set_option linter.unusedVariables false
def F132(x0:aD)(x1:aD):Option (aD):=(F181 x0 x1).bind fun t1=>XC t1
def a132:dG:=⟨8,[(.cell 4 (XC 3))],
 (.seq (.reg [Qg 2 0,
Qg 3 1,
sq 4 (.zbox [dI 0,dI 0,dI 0])])
 (.seq (.reg [Qc 5 3 2,
Qc 6 3 3,
sq 7 (.call 181 [(.t 5),(.t 6),(.f 194)]),
su (.store 3 (.t 4) (.t 7))])
 .ret))⟩
theorem F132_ok{x0 x1 r}(h:F132 x0 x1=XC r):aW XF 132 [.agg (b6 x0),.agg (b6 x1)] [] (bJ [.agg (b6 (r))]) []:=by
 rw[F132]at h
 refine zc a132 (by kernel_rfl) rfl (ww ?_)
 obtain⟨t1,ht1,h⟩:=bi h
 refine cN [] (F181_ok ht1) trivial (ww ?_)
 cases h
 exact eF []
def F83_l1:List aP→Nat→aD→Option (aD)
 |[],o1_1,o1_0=>XC o1_0
 |xo1::xs,o1_1,o1_0=>(F132 o1_0 xo1.gK).bind fun t3=>F83_l1 xs (o1_1+1) t3
def F83(x0:fw):Option (aD):=(((ck (0≤x0.ad.length∧x0.ad.length≤4294967290)).bind fun u4=>F83_l1 x0.ad 0 ((⟨0,0,0⟩:aD))).bind fun o1=>XC o1)
def a83:dG:=⟨19,[(.cell 2 (XC 3))],
 (.seq (.reg [Qg 1 0,
sq 2 (.zbox [dI 0,dI 0,dI 0])])
 (.seq (.reg [zl 3 (.zbox [dI 0,dI 0,dI 0]) [] []])
 (.seq (.seq (.reg [Qb 6 4 1,
Qd 7 6,
Qh 8 7,
Qe 9 0])
 (.sem (.block 0 (.loop (.seq (.reg [Qn 10 9 8])
 (.seq (.cond (.t 10)
 .skip
 (.exit 0))
 (.seq (.block 1 (.seq (.reg [Qp 11 11 7 9,
Qc 12 11 11,
sq 5 (.zbox [dS ⟨#[]⟩,dS ⟨#[]⟩,dI 0,dI 0,dI 0,dI 0,dI 0,dI 0,dN,dN,dN]),
su (.store 11 (.t 5) (.t 12))])
 (.reg [Qc 13 3 3,
Qb 14 2 5,
Qc 15 3 14,
Ql 16 132 13 15,
su (.store 3 (.t 3) (.t 16))])))
 (.reg [Qm 17 9 1,
Qa 9 17]))))))))
 (.seq (.reg [Qc 18 3 3,
⟨XD,XD,.store 3 (.t 2) (.t 18),[],(.lone [3])⟩])
 .ret))))⟩
theorem F83_ok{x0 r}(h:F83 x0=XC r):aW XF 83 [.agg (wM x0)] [] (bJ [.agg (b6 (r))]) []:=by
 rw[F83]at h
 refine zc a83 (by kernel_rfl) rfl (ww ?_)
 obtain⟨o1,ho,h⟩:=bi h
 refine bD (fun s=>s=⟨[(2,Pz 0),(3,Pz 1)],[xb [dI 0,dI 0,dI 0],xb (b6 (o1))]⟩) ?_ ?_
 ·have h:=ho
  obtain⟨_,hk,h⟩:=bi h
  have hk:=cr hk
  refine ww ?_
  refine bL (fun j s=>∃(o1_1:Nat) (o1_0:aD),(o1_1≤x0.ad.length∧j=x0.ad.length-o1_1)∧s=⟨[(2,Pz 0),(3,Pz 1),(7,oM (x0.ad.map bo)),(8,oI (x0.ad.length:Int)),(9,oI (o1_1:Int))],[xb [dI 0,dI 0,dI 0],xb (b6 (o1_0))]⟩∧F83_l1 (x0.ad.drop o1_1) o1_1 o1_0=XC o1) (x0.ad.length-0) [XC 1,XC 2] ⟨0,(⟨0,0,0⟩:aD),⟨hk.1,rfl⟩,rfl,h⟩ ?_
  rintro _ _ ⟨o1_1,o1_0,⟨hi,rfl⟩,rfl,h⟩
  refine ww ?_
  refine dq (fun c2=>?_) (fun c2=>?_)
  ·obtain⟨xo1,hxo1,hd⟩:=cW (show(o1_1:Int)<(x0.ad.length:Int)from c2)
   rw[hd,F83_l1]at h
   refine ww ?_
   refine bI (enc:=bo) (xs:=x0.ad) rfl rfl hxo1 rfl (ww ?_)
   obtain⟨t3,ht3,h⟩:=bi h
   refine cN [] (F132_ok ht3) trivial (ww ?_)
   rw[cL (by omega)]
   exact jo (x0.ad.length-(o1_1+1)) i2 ⟨o1_1+1,t3,⟨by omega,rfl⟩,rfl,h⟩ (by omega)
  rw[cX (show¬((o1_1:Int)<(x0.ad.length:Int))from c2),F83_l1]at h
  refine ww ?_
  cases h
  exact eM i2 rfl
 rintro _ rfl
 refine ww ?_
 cases h
 exact eF []
def F81_l4(x1:(List ByteArray))(x2:Int):Nat→Int→(List aw)→(List ByteArray)→Option ((List aw)×(List ByteArray))
 |0,_,_,_=>XD
 |k+1,o4_0,o4_1,o4_2=>(F126 o4_1).bind fun t5=>(if(XG.wrap (o4_0*((if 1000000000000000<(if x2<0 then 0 else x2)then 1000000000000000 else(if x2<0 then 0 else x2)))))<(XG.wrap (t5*100))then(F127 o4_1 x1).bind fun t7=>(if t7<0 then XC ((o4_1,o4_2))else(cI o4_1 t7).bind fun y9=>(jz o4_2 ([y9.aV])).bind fun a10=>(oz o4_1 t7 ((XG.wrap (t7+1)))).bind fun t11=>F81_l4 x1 x2 k o4_0 t11 a10)else XC ((o4_1,o4_2)))
def F81(x0:(List aw))(x1:(List ByteArray))(x2:Int)(x3:Int)(x4:Int):Option ((List aw)×(List ByteArray)):=(gw x0).bind fun t1=>(F126 t1).bind fun t2=>(if(XG.wrap (t2*100))≤(XG.wrap (((if 100<(if x3<0 then 0 else x3)then 100 else(if x3<0 then 0 else x3)))*((if 1000000000000000<(if x2<0 then 0 else x2)then 1000000000000000 else(if x2<0 then 0 else x2)))))then XC ((t1,[]))else((F81_l4 x1 x2 1099511627776 ((if(if 100<(if x3<0 then 0 else x3)then 100 else(if x3<0 then 0 else x3))<(if x4<0 then 0 else x4)then(if 100<(if x3<0 then 0 else x3)then 100 else(if x3<0 then 0 else x3))else(if x4<0 then 0 else x4))) t1 ([])).bind fun o4=>XC ((o4.1,o4.2))))
def a81:dG:=⟨65,[(.tmp 10),(.tmp 11)],
 (.seq (.reg [sq 10 (.mv kN),
sq 11 (.mv kN)])
 (.seq (.reg [Qa 18 2,
sq 19 (.max (.t 18) (kI 0)),
sq 20 (.min (.t 19) (kI 1000000000000000)),
Qa 12 20])
 (.seq (.reg [Qa 21 3,
sq 22 (.max (.t 21) (kI 0)),
sq 23 (.min (.t 22) (kI 100)),
Qa 13 23])
 (.seq (.reg [Qa 24 4,
sq 25 (.max (.t 24) (kI 0)),
Qa 26 13,
sq 27 (.min (.t 25) (.t 26)),
Qa 14 27])
 (.seq (.reg [Qa 28 0,
Qk 29 29 28,
Qa 15 29])
 (.seq (.reg [sq 16 (.mv kN)])
 (.seq (.seq (.reg [Qa 30 15,
Qk 31 126 30,
sq 32 (.bin .mul (.t 31) (kI 100)),
Qa 33 13,
Qa 34 12,
sq 35 (.bin .mul (.t 33) (.t 34)),
sq 36 (.bin .leq (.t 32) (.t 35))])
 (.cond (.t 36)
 (.seq (.reg [Qa 37 15,
Qa 10 37,
sq 11 (.mv kN)])
 .ret)
 .skip))
 (.seq (.sem (.block 0 (.loop (.seq (.seq (.reg [Qa 38 15,
Qk 39 126 38,
sq 40 (.bin .mul (.t 39) (kI 100)),
Qa 41 14,
Qa 42 12,
sq 43 (.bin .mul (.t 41) (.t 42)),
sq 44 (.bin .gtr (.t 40) (.t 43))])
 (.cond (.t 44)
 .skip
 (.exit 0)))
 (.block 1 (.seq (.reg [Qa 45 15,
Qa 46 1,
Ql 47 127 45 46,
Qa 17 47])
 (.seq (.seq (.reg [Qa 48 17,
sq 49 (.bin .lss (.t 48) (kI 0))])
 (.cond (.t 49)
 (.exit 0)
 .skip))
 (.seq (.reg [Qa 50 16,
Qa 51 15,
Qa 52 17,
Qp 53 3 51 52,
Qb 54 0 53,
Qd 55 54,
sq 56 (.bslice 1 [(.t 55)]),
sq 57 (.app 1 16 (.t 50) (.t 56)),
Qa 16 57])
 (.reg [Qa 58 15,
Qa 59 17,
Qa 60 17,
Qm 61 60 1,
sq 62 (.call 128 [(.t 58),(.t 59),(.t 61)]),
Qa 15 62])))))))))
 (.seq (.reg [Qa 63 15,
Qa 64 16,
Qa 10 63,
Qa 11 64])
 .ret)))))))))⟩
theorem F81_ok{x0 x1 x2 x3 x4 r}(h:F81 x0 x1 x2 x3 x4=XC r):aW XF 81 [.c (dM (x0.map aR)),.c (dM (x1.map eS)),.c (dI x2),.c (dI x3),.c (dI x4)] [] (bJ [.c (ow 0 0 r.1),.c (ow 1 0 r.2)]) [ba 0 r.1,iS 0 r.2]:=by
 rw[F81]at h
 refine zc a81 (by kernel_rfl) rfl (ww ?_)
 obtain⟨t1,ht1,h⟩:=bi h
 refine cN [] (F29_ok ht1) trivial (ww ?_)
 obtain⟨t2,ht2,h⟩:=bi h
 refine cB (F126_ok ht2) rfl ?_
 refine ww ?_
 refine bG h (fun c3 h=>ww ?_) (fun c3 h=>ww ?_)
 ·cases h
  exact eF [XC 0,XD]
 obtain⟨o4,ho,h⟩:=bi h
 refine bD (fun s=>s=⟨[(15,oc (ow 0 0 o4.1)),(16,oc (ow 1 0 o4.2))],[ba 0 o4.1,iS 0 o4.2]⟩) ?_ ?_
 ·have h:=ho
  refine ww ?_
  refine bL (fun j s=>∃(o4_0:Int) (o4_1:List aw) (o4_2:List ByteArray),s=⟨[(1,oM (x1.map eS)),(12,oI ((if 1000000000000000<(if x2<0 then 0 else x2)then 1000000000000000 else(if x2<0 then 0 else x2)))),(14,oI o4_0),(15,oc (ow 0 0 o4_1)),(16,oc (ow 1 0 o4_2))],[ba 0 o4_1,iS 0 o4_2]⟩∧F81_l4 x1 x2 j o4_0 o4_1 o4_2=XC o4) 1099511627776 [XC 0,XD] ⟨(if(if 100<(if x3<0 then 0 else x3)then 100 else(if x3<0 then 0 else x3))<(if x4<0 then 0 else x4)then(if 100<(if x3<0 then 0 else x3)then 100 else(if x3<0 then 0 else x3))else(if x4<0 then 0 else x4)),t1,[],rfl,h⟩ ?_
  rintro j _ ⟨o4_0,o4_1,o4_2,rfl,h⟩
  cases j with
  |zero=>cases(show(XD:Option _)=XC _ from h)
  |succ j=>
   rw[F81_l4]at h
   refine ww ?_
   obtain⟨t5,ht5,h⟩:=bi h
   refine cB (F126_ok ht5) rfl ?_
   refine ww ?_
   refine bG h (fun c6 h=>ww ?_) (fun c6 h=>?_)
   ·obtain⟨t7,ht7,h⟩:=bi h
    refine cB (F127_ok ht7) rfl ?_
    refine ww ?_
    refine bG h (fun c8 h=>ww ?_) (fun c8 h=>?_)
    ·cases h
     exact eM i2 rfl
    ·refine ww ?_
     obtain⟨y9,hy9,h⟩:=bi h
     refine tO (enc:=aR) (xs:=o4_1) rfl rfl rfl hy9 (ww ?_)
     refine cD.rd (aQ hy9).2.1 (ww ?_)
     refine tB (enc:=eS) (ys:=[y9.aV]) rfl rfl (ww ?_)
     obtain⟨a10,ha10,h⟩:=bi h
     have qx:=q1 (bc hy9)
     refine Me (enc:=eS) (xs:=o4_2) rfl rfl rfl ha10 (ww ?_)
     obtain⟨t11,ht11,h⟩:=bi h
     have qx:=q1 (bc hy9)
     refine cQ [0] (F128_ok (e0:=0) ht11) (ww ?_)
     exact jo j i2 ⟨o4_0,t11,a10,rfl,h⟩ (Nat.lt_succ_self _)
   ·refine ww ?_
    cases h
    exact eM i2 rfl
 rintro _ rfl
 refine ww ?_
 cases h
 exact eF i2
def F42_l6:List aP→Nat→(List ByteArray)→Option ((List ByteArray))
 |[],o6_1,o6_0=>XC o6_0
 |xo6::xs,o6_1,o6_0=>(jz o6_0 ([xo6.aw])).bind fun a8=>F42_l6 xs (o6_1+1) a8
def F42_l1:List au→Nat→(List ByteArray)→Option ((List ByteArray))
 |[],o1_1,o1_0=>XC o1_0
 |xo1::xs,o1_1,o1_0=>(((F10062 xo1).bind fun t4=>(if t4=true then XC o1_0 else(((ck (0≤xo1.an.Spec.ad.length∧xo1.an.Spec.ad.length≤4294967290)).bind fun u9=>F42_l6 xo1.an.Spec.ad 0 o1_0).bind fun o6=>XC o6))).bind fun o3=>F42_l1 xs (o1_1+1) o3)
def F42(x1:ByteArray)(x2:Int)(b0:gM):Option ((List aw)):=(((ck (0≤b0.ah.bq.length∧b0.ah.bq.length≤4294967290)).bind fun u10=>F42_l1 b0.ah.bq 0 ([])).bind fun o1=>(F82 b0.ah.aM x1 x2 b0.ah.cl).bind fun t11=>(F81 t11 o1 b0.ah.bO 85 80).bind fun t12=>XC t12.1)
def a42:dG:=⟨66,[],
 (.seq (.reg [sq 6 (.mv kN)])
 (.seq (.seq (.reg [Qa 11 0,
Qb 12 0 11,
Qb 13 0 12,
Qb 14 25 13,
Qd 15 14,
Qh 16 15,
Qe 17 0])
 (.sem (.block 0 (.loop (.seq (.reg [Qn 18 17 16])
 (.seq (.cond (.t 18)
 .skip
 (.exit 0))
 (.seq (.sem (.block 1 (.seq (.reg [Qp 19 36 15 17,
Qc 20 36 19,
sq 8 (.zbox Fk),
su (.store 36 (.t 8) (.t 20))])
 (.seq (.seq (.reg [Qc 21 36 8,
zl 22 (.call 62 [(.t 21)]) [] [8]])
 (.cond (.t 22)
 (.exit 1)
 .skip))
 (.seq (.reg [Qb 23 0 8,
Qb 24 13 23,
Qb 25 4 24,
Qd 26 25,
Qh 27 26,
Qe 28 0])
 (.sem (.block 2 (.loop (.seq (.reg [Qn 29 28 27])
 (.seq (.cond (.t 29)
 .skip
 (.exit 2))
 (.seq (.block 3 (.seq (.reg [Qp 30 11 26 28,
Qc 31 11 30,
sq 10 (.zbox [dS ⟨#[]⟩,dS ⟨#[]⟩,dI 0,dI 0,dI 0,dI 0,dI 0,dI 0,dN,dN,dN]),
su (.store 11 (.t 10) (.t 31))])
 (.reg [Qa 32 6,
Qb 33 1 10,
Qd 34 33,
sq 35 (.bslice 1 [(.t 34)]),
sq 36 (.app 1 16 (.t 32) (.t 35)),
Qa 6 36])))
 (.reg [Qm 37 28 1,
Qa 28 37]))))))))))))
 (.reg [Qm 38 17 1,
Qa 17 38]))))))))
 (.regd [Qa 40 0,
Qa 41 0,
sd 42 (.fieldA 0 (.t 41)) [1],
sd 43 (.fieldA 0 (.t 42)) [1,2],
sd 44 (.fieldA 26 (.t 43)) [1,2,3],
sd 45 (.load XD (.t 44)) [1,2,3,4],
Qa 46 1,
Qa 47 2,
Qa 48 0,
sd 49 (.fieldA 0 (.t 48)) [8],
sd 50 (.fieldA 0 (.t 49)) [8,9],
sd 51 (.fieldA 24 (.t 50)) [8,9,10],
sd 52 (.load XD (.t 51)) [8,9,10,11],
zn 53 (.call 82 [(.t 45),(.t 46),(.t 47),(.t 52)]) [1,2,3,4,5,6,7,8,9,10,11,12] [1,2,3,4,5,6,7,8,9,10,11,12],
Qa 54 6,
Qa 55 0,
sd 56 (.fieldA 0 (.t 55)) [15],
sd 57 (.fieldA 0 (.t 56)) [15,16],
sd 58 (.fieldA 28 (.t 57)) [15,16,17],
sd 59 (.load XD (.t 58)) [15,16,17,18],
zl 60 (.call 81 [(.t 53),(.t 54),(.t 59),(kI 85),(kI 80)]) [1,2,3,4,5,6,7,8,9,10,11,12,13,14,15,16,17,18,19] [],
sd 39 (.mv (.t 60)) [1,2,3,4,5,6,7,8,9,10,11,12,13,14,15,16,17,18,19,20],
sd 61 (.ext (.t 39) 0) [1,2,3,4,5,6,7,8,9,10,11,12,13,14,15,16,17,18,19,20,21],
sd 62 (.ext (.t 39) 1) [1,2,3,4,5,6,7,8,9,10,11,12,13,14,15,16,17,18,19,20,21],
sd 63 (.fieldA 0 (.t 40)) [0,1,2,3,4,5,6,7,8,9,10,11,12,13,14,15,16,17,18,19,20,21,22],
sd 64 (.fieldA 0 (.t 63)) [0,1,2,3,4,5,6,7,8,9,10,11,12,13,14,15,16,17,18,19,20,21,22,24],
sd 65 (.fieldA 26 (.t 64)) [0,1,2,3,4,5,6,7,8,9,10,11,12,13,14,15,16,17,18,19,20,21,22,24,25],
⟨XD,XD,.store 1 (.t 65) (.t 61),[0,1,2,3,4,5,6,7,8,9,10,11,12,13,14,15,16,17,18,19,20,21,22,24,25,26],(.lone [])⟩])))⟩
theorem F42_ok{x1 x2 b0 r}{e1:Nat}(h:F42 x1 x2 b0=XC r):aW XF 42 [.c (.pt 0 0),.c (dS x1),.c (dI x2)] [xb (fc b0 (ow 1 e1 b0.ah.bq)),ai e1 b0.ah.bq] (bJ []) [xb (BH b0 (ow 1 e1 b0.ah.bq) (ow 2 0 r)),ai e1 b0.ah.bq,ba 0 r]:=by
 rw[F42]at h
 refine zc a42 (by kernel_rfl) rfl (ww ?_)
 obtain⟨o1,ho,h⟩:=bi h
 refine bD (fun s=>s=⟨[(0,Pz 0),(1,oS x1),(2,oI x2),(6,oc (ow 2 0 o1))],[xb (fc b0 (ow 1 e1 b0.ah.bq)),ai e1 b0.ah.bq,iS 0 o1]⟩) ?_ ?_
 ·have h:=ho
  obtain⟨_,hk,h⟩:=bi h
  have hk:=cr hk
  refine ww ?_
  refine bL (fun j s=>∃(o1_1:Nat) (o1_0:List ByteArray),(o1_1≤b0.ah.bq.length∧j=b0.ah.bq.length-o1_1)∧s=⟨[(0,Pz 0),(1,oS x1),(2,oI x2),(6,oc (ow 2 0 o1_0)),(15,oc (ow 1 e1 b0.ah.bq)),(16,oI (b0.ah.bq.length:Int)),(17,oI (o1_1:Int))],[xb (fc b0 (ow 1 e1 b0.ah.bq)),ai e1 b0.ah.bq,iS 0 o1_0]⟩∧F42_l1 (b0.ah.bq.drop o1_1) o1_1 o1_0=XC o1) (b0.ah.bq.length-0) [XC 0,XC 1,XD] ⟨0,[],⟨hk.1,rfl⟩,rfl,h⟩ ?_
  rintro _ _ ⟨o1_1,o1_0,⟨hi,rfl⟩,rfl,h⟩
  refine ww ?_
  refine dq (fun c2=>?_) (fun c2=>?_)
  ·obtain⟨xo1,hxo1,hd⟩:=cW (show(o1_1:Int)<(b0.ah.bq.length:Int)from c2)
   rw[hd,F42_l1]at h
   refine ww ?_
   obtain⟨o3,ho,h⟩:=bi h
   refine bD (fun s=>s=⟨[(0,Pz 0),(1,oS x1),(2,oI x2),(6,oc (ow 2 0 o3)),(15,oc (ow 1 e1 b0.ah.bq)),(16,oI (b0.ah.bq.length:Int)),(17,oI (o1_1:Int))],[xb (fc b0 (ow 1 e1 b0.ah.bq)),ai e1 b0.ah.bq,iS 0 o3]⟩) ?_ ?_
   ·have h:=ho
    refine ww ?_
    refine tO (enc:=aS) (xs:=b0.ah.bq) rfl rfl rfl hxo1 (ww ?_)
    refine cD.rd (aQ hxo1).2.1 (ww ?_)
    obtain⟨t4,ht4,h⟩:=bi h
    have qx:=q1 (cb hxo1)
    refine cQ [] (F10062_ok ht4) (ww ?_)
    refine ct h (fun c5 h=>ww ?_) (fun c5 h=>ww ?_)
    ·cases h
     have qx:=q1 (cb hxo1)
     exact fI i3 rfl
    obtain⟨o6,ho,h⟩:=bi h
    refine bD (fun s=>s=⟨[(0,Pz 0),(1,oS x1),(2,oI x2),(6,oc (ow 2 0 o6)),(15,oc (ow 1 e1 b0.ah.bq)),(16,oI (b0.ah.bq.length:Int)),(17,oI (o1_1:Int))],[xb (fc b0 (ow 1 e1 b0.ah.bq)),ai e1 b0.ah.bq,iS 0 o6]⟩) ?_ ?_
    ·have h:=ho
     obtain⟨_,hk,h⟩:=bi h
     have hk:=cr hk
     refine ww ?_
     have qx:=q1 (cb hxo1)
     refine Ph (fun j s=>∃(o6_1:Nat) (o6_0:List ByteArray),(o6_1≤xo1.an.Spec.ad.length∧j=xo1.an.Spec.ad.length-o6_1)∧s=⟨[(0,Pz 0),(1,oS x1),(2,oI x2),(6,oc (ow 2 0 o6_0)),(15,oc (ow 1 e1 b0.ah.bq)),(16,oI (b0.ah.bq.length:Int)),(17,oI (o1_1:Int)),(26,oM (xo1.an.Spec.ad.map bo)),(27,oI (xo1.an.Spec.ad.length:Int)),(28,oI (o6_1:Int))],[xb (fc b0 (ow 1 e1 b0.ah.bq)),ai e1 b0.ah.bq,iS 0 o6_0]⟩∧F42_l6 (xo1.an.Spec.ad.drop o6_1) o6_1 o6_0=XC o6) (xo1.an.Spec.ad.length-0) i3 ⟨0,o1_0,⟨hk.1,rfl⟩,rfl,h⟩ ?_
     rintro _ _ ⟨o6_1,o6_0,⟨hi,rfl⟩,rfl,h⟩
     refine ww ?_
     refine dq (fun c7=>?_) (fun c7=>?_)
     ·obtain⟨xo6,hxo6,hd⟩:=cW (show(o6_1:Int)<(xo1.an.Spec.ad.length:Int)from c7)
      rw[hd,F42_l6]at h
      refine ww ?_
      refine bI (enc:=bo) (xs:=xo1.an.Spec.ad) rfl rfl hxo6 rfl (ww ?_)
      refine tB (enc:=eS) (ys:=[xo6.aw]) rfl rfl (ww ?_)
      obtain⟨a8,ha8,h⟩:=bi h
      refine tA (enc:=eS) (xs:=o6_0) rfl rfl rfl ha8 (ww ?_)
      rw[cL (by omega)]
      exact jo (xo1.an.Spec.ad.length-(o6_1+1)) i3 ⟨o6_1+1,a8,⟨by omega,rfl⟩,rfl,h⟩ (by omega)
     rw[cX (show¬((o6_1:Int)<(xo1.an.Spec.ad.length:Int))from c7),F42_l6]at h
     refine ww ?_
     cases h
     exact eM i3 rfl
    rintro _ rfl
    refine ww ?_
    cases h
    exact eM i3 rfl
   rintro _ rfl
   refine ww ?_
   rw[cL (by omega)]
   exact jo (b0.ah.bq.length-(o1_1+1)) i3 ⟨o1_1+1,o3,⟨by omega,rfl⟩,rfl,h⟩ (by omega)
  rw[cX (show¬((o1_1:Int)<(b0.ah.bq.length:Int))from c2),F42_l1]at h
  refine ww ?_
  cases h
  exact eM i3 rfl
 rintro _ rfl
 refine ww ?_
 obtain⟨t11,ht11,h⟩:=bi h
 refine cN [] (F82_ok ht11) trivial (ww ?_)
 refine iu (by simp[fE,gO,cH]) (ww ?_)
 obtain⟨t12,ht12,h⟩:=bi h
 refine Oi (F81_ok ht12) rfl ⟨jP (enc:=aR) (fun _=>rfl) _,jP (enc:=eS) (fun _=>rfl) _,trivial⟩ ?_
 refine ww ?_
 cases h
 exact eF [XC 0,XC 1,XC 4]
def F63v1(x1:ByteArray)(b0:Machine):Option (Bool):=(F108v1 b0.ah.aM x1).bind fun t1=>XC t1
def a63v1:dG:=⟨12,[(.tmp 4)],
 (.seq (.reg [Qg 3 1,
Qf 4 false])
 (.seq (.reg [Qa 5 0,
Qb 6 0 5,
Qb 7 0 6,
Qb 8 26 7,
Qd 9 8,
sq 10 (.fn 109 [(.t 3)]),
Ql 11 108 9 10,
Qa 4 11])
 .ret))⟩
theorem a63v1_ok:nv XF 63=XC a63v1.er:=by kernel_rfl
theorem F63v1_ok{x1 b0 r}{e1:Nat}{e2:Nat}(h:F63v1 x1 b0=XC r):aW XF 63 [.c (.pt 0 0),.c (dS x1)] [xb (wO b0 (ow 1 e1 b0.ah.bq) (ow 2 e2 b0.ah.aM)),fj e1 b0.ah.bq,ba e2 b0.ah.aM] (bJ [.c (dB r)]) [xb (wO b0 (ow 1 e1 b0.ah.bq) (ow 2 e2 b0.ah.aM)),fj e1 b0.ah.bq,ba e2 b0.ah.aM]:=by
 refine pF a63v1_ok (by simp[a63v1]) ?_
 rw[F63v1]at h
 simp only[a63v1,VW.down,Nat.reduceEqDiff,reduceCtorEq,Nat.reduceAdd,Nat.reduceLeDiff,Nat.reduceLT,Nat.reduceBEq,Nat.reduceSub,EE.down]
 obtain⟨t1,ht1,h⟩:=bi h
 refine cN [2,3] (F108v1_ok (e0:=e2) ht1) ⟨⟨rfl,trivial⟩,⟨⟨(by first|rfl|(simp only[List.length_set];rfl)),by simp[bw.live,C.live,hp]⟩,trivial⟩⟩ ?_
 refine ww ?_
 cases h
 exact eF i3
def F24_l9(t1:(List af)×(List aw))(x0:ah)(xo2:af):List aP→Nat→(List ByteArray)→Option ((List ByteArray))
 |[],o9_1,o9_0=>XC o9_0
 |xo9::xs,o9_1,o9_0=>(((((cI xo2.an.ae.ad ((o9_1:Int))).bind fun y13=>(if¬(y13.bH=1)then(F63v1 xo9.aw ((⟨(⟨x0.Node,x0.cl,t1.1,t1.2,x0.bW,x0.bO,x0.b8⟩:ah)⟩:Machine))).bind fun t15=>XC (nb t15)else XC false)).bind fun o12=>(if o12=true then(jz o9_0 ([xo9.aw])).bind fun a17=>XC a17 else XC o9_0))).bind fun o11=>F24_l9 t1 x0 xo2 xs (o9_1+1) o11)
def F24_l2(t1:(List af)×(List aw))(x0:ah):List af→Nat→(List ByteArray)→Option ((List ByteArray))
 |[],o2_1,o2_0=>XC o2_0
 |xo2::xs,o2_1,o2_0=>(((((F62 xo2).bind fun t6=>(if t6=true then XC true else XC xo2.bh)).bind fun o5=>(if o5=true then XC o2_0 else(((ck (0≤xo2.an.Spec.ad.length∧xo2.an.Spec.ad.length≤4294967290)).bind fun u18=>F24_l9 t1 x0 xo2 xo2.an.Spec.ad 0 o2_0).bind fun o9=>XC o9)))).bind fun o4=>F24_l2 t1 x0 xs (o2_1+1) o4)
def F24(x0:ah):Option ((List ByteArray)):=(F37 x0).bind fun t1=>(((ck (0≤t1.1.length∧t1.1.length≤4294967290)).bind fun u19=>F24_l2 t1 x0 t1.1 0 ([])).bind fun o2=>(xx o2).bind fun t20=>(E2 t20).bind fun t21=>XC t21)
def a24:dG:=⟨64,[(.tmp 2)],
 (.seq (.reg [Qg 1 0,
sq 2 (.mv kN)])
 (.seq (.reg [Qc 9 30 1,
Qk 10 37 9,
Qa 3 10])
 (.seq (.reg [sq 4 (.mv kN)])
 (.seq (.seq (.reg [Qa 11 3,
Qb 12 0 11,
Qb 13 0 12,
Qb 14 25 13,
Qd 15 14,
Qh 16 15,
Qe 17 0])
 (.sem (.block 0 (.loop (.seq (.reg [Qn 18 17 16])
 (.seq (.cond (.t 18)
 .skip
 (.exit 0))
 (.seq (.sem (.block 1 (.seq (.reg [Qp 19 36 15 17,
Qc 20 36 19,
sq 6 (.zbox Fk),
su (.store 36 (.t 6) (.t 20))])
 (.seq (.seq (.sem (.reg [Qc 21 36 6,
Qk 22 62 21,
Qa 23 22,
Qs 24 23 false 34 6,
Qt 25 23 false 24,
Qj 26 23 25]))
 (.cond (.t 26)
 (.exit 1)
 .skip))
 (.seq (.reg [Qb 27 0 6,
Qb 28 13 27,
Qb 29 4 28,
Qd 30 29,
Qh 31 30,
Qe 32 0])
 (.sem (.block 2 (.loop (.seq (.reg [Qn 33 32 31])
 (.seq (.cond (.t 33)
 .skip
 (.exit 2))
 (.seq (.sem (.block 3 (.seq (.reg [Qa 34 32,
Qp 35 11 30 32,
Qc 36 11 35,
sq 8 (.zbox [dS ⟨#[]⟩,dS ⟨#[]⟩,dI 0,dI 0,dI 0,dI 0,dI 0,dI 0,dN,dN,dN]),
Qa 7 34,
su (.store 11 (.t 8) (.t 36))])
 (.seq (.sem (.reg [Qb 37 0 6,
Qb 38 23 37,
Qb 39 5 38,
Qd 40 39,
Qa 41 7,
Qp 42 7 40 41,
Qb 43 1 42,
Qd 44 43,
sq 45 (.bin .neq (.t 44) (kI 1)),
Qa 46 45,
Qv 47 46 true 3,
Qs 48 46 true 1 8,
Qt 49 46 true 48,
zg 50 46 true (.call 63 [(.t 47),(.t 49)]),
zg 51 46 true (.not (.t 50)),
Qi 52 46 51]))
 (.cond (.t 52)
 (.reg [Qa 53 4,
Qb 54 1 8,
Qd 55 54,
sq 56 (.bslice 1 [(.t 55)]),
sq 57 (.app 1 16 (.t 53) (.t 56)),
Qa 4 57])
 .skip)))))
 (.reg [Qm 58 32 1,
Qa 32 58]))))))))))))
 (.reg [Qm 59 17 1,
Qa 17 59]))))))))
 (.seq (.reg [Qa 60 4,
zl 61 (.call 64 [(.t 60)]) [] []])
 (.seq (.reg [Qa 62 4,
Qk 63 65 62,
Qa 2 63])
 .ret))))))⟩
theorem F24_ok{x0 r}(h:F24 x0=XC r):aW XF 24 [.agg (dy x0)] [] (bJ [.c (ow 0 0 r)]) [iS 0 r]:=by
 rw[F24]at h
 refine zc a24 (by kernel_rfl) rfl (ww ?_)
 obtain⟨t1,ht1,h⟩:=bi h
 refine cN [] (F37_ok ht1) trivial (ww ?_)
 obtain⟨o2,ho,h⟩:=bi h
 refine bD (fun s=>s=⟨[(4,oc (ow 0 0 o2))],[iS 0 o2]⟩) ?_ ?_
 ·have h:=ho
  obtain⟨_,hk,h⟩:=bi h
  have hk:=cr hk
  refine ww ?_
  refine bL (fun j s=>∃(o2_1:Nat) (o2_0:List ByteArray),(o2_1≤t1.1.length∧j=t1.1.length-o2_1)∧s=⟨[(3,Pz 0),(4,oc (ow 3 0 o2_0)),(15,oc (ow 1 0 t1.1)),(16,oI (t1.1.length:Int)),(17,oI (o2_1:Int))],[xb (gW x0 (ow 1 0 t1.1) (ow 2 0 t1.2)),fj 0 t1.1,ba 0 t1.2,iS 0 o2_0]⟩∧F24_l2 t1 x0 (t1.1.drop o2_1) o2_1 o2_0=XC o2) (t1.1.length-0) [XC 1,XC 2,XC 3,XD] ⟨0,[],⟨hk.1,rfl⟩,rfl,h⟩ ?_
  rintro _ _ ⟨o2_1,o2_0,⟨hi,rfl⟩,rfl,h⟩
  refine ww ?_
  refine dq (fun c3=>?_) (fun c3=>?_)
  ·obtain⟨xo2,hxo2,hd⟩:=cW (show(o2_1:Int)<(t1.1.length:Int)from c3)
   rw[hd,F24_l2]at h
   refine ww ?_
   obtain⟨o4,ho,h⟩:=bi h
   refine bD (fun s=>s=⟨[(3,Pz 0),(4,oc (ow 3 0 o4)),(15,oc (ow 1 0 t1.1)),(16,oI (t1.1.length:Int)),(17,oI (o2_1:Int))],[xb (gW x0 (ow 1 0 t1.1) (ow 2 0 t1.2)),fj 0 t1.1,ba 0 t1.2,iS 0 o4]⟩) ?_ ?_
   ·have h:=ho
    refine ww ?_
    refine tO (enc:=bT) (xs:=t1.1) rfl rfl rfl hxo2 (ww ?_)
    refine cD.rd (aQ hxo2).2.1 (ww ?_)
    obtain⟨o5,ho,h⟩:=bi h
    refine bD (fun s=>s=⟨[(3,Pz 0),(4,oc (ow 3 0 o2_0)),(6,Pz 4),(15,oc (ow 1 0 t1.1)),(16,oI (t1.1.length:Int)),(17,oI (o2_1:Int)),(26,oB o5)],[xb (gW x0 (ow 1 0 t1.1) (ow 2 0 t1.2)),fj 0 t1.1,ba 0 t1.2,iS 0 o2_0,xb (gb xo2)]⟩) ?_ ?_
    ·have h:=ho
     refine ww ?_
     obtain⟨t6,ht6,h⟩:=bi h
     have qx:=q1 (cb hxo2)
     refine cQ [] (F62_ok ht6) (ww ?_)
     refine dK h (fun g7 h=>ww ?_) (fun g7 h=>ww ?_)
     ·cases h
      have qx:=q1 (cb hxo2)
      exact fI i5 rfl
     cases h
     have qx:=q1 (cb hxo2)
     exact fI i5 rfl
    rintro _ rfl
    refine ww ?_
    refine ct h (fun c8 h=>ww ?_) (fun c8 h=>ww ?_)
    ·cases h
     exact eM i4 rfl
    obtain⟨o9,ho,h⟩:=bi h
    refine bD (fun s=>s=⟨[(3,Pz 0),(4,oc (ow 3 0 o9)),(15,oc (ow 1 0 t1.1)),(16,oI (t1.1.length:Int)),(17,oI (o2_1:Int))],[xb (gW x0 (ow 1 0 t1.1) (ow 2 0 t1.2)),fj 0 t1.1,ba 0 t1.2,iS 0 o9]⟩) ?_ ?_
    ·have h:=ho
     obtain⟨_,hk,h⟩:=bi h
     have hk:=cr hk
     refine ww ?_
     refine bL (fun j s=>∃(o9_1:Nat) (o9_0:List ByteArray),(o9_1≤xo2.an.Spec.ad.length∧j=xo2.an.Spec.ad.length-o9_1)∧s=⟨[(3,Pz 0),(4,oc (ow 3 0 o9_0)),(6,Pz 4),(15,oc (ow 1 0 t1.1)),(16,oI (t1.1.length:Int)),(17,oI (o2_1:Int)),(30,oM (xo2.an.Spec.ad.map bo)),(31,oI (xo2.an.Spec.ad.length:Int)),(32,oI (o9_1:Int))],[xb (gW x0 (ow 1 0 t1.1) (ow 2 0 t1.2)),fj 0 t1.1,ba 0 t1.2,iS 0 o9_0,xb (gb xo2)]⟩∧F24_l9 t1 x0 xo2 (xo2.an.Spec.ad.drop o9_1) o9_1 o9_0=XC o9) (xo2.an.Spec.ad.length-0) i5 ⟨0,o2_0,⟨hk.1,rfl⟩,rfl,h⟩ ?_
     rintro _ _ ⟨o9_1,o9_0,⟨hi,rfl⟩,rfl,h⟩
     refine ww ?_
     refine dq (fun c10=>?_) (fun c10=>?_)
     ·obtain⟨xo9,hxo9,hd⟩:=cW (show(o9_1:Int)<(xo2.an.Spec.ad.length:Int)from c10)
      rw[hd,F24_l9]at h
      refine ww ?_
      obtain⟨o11,ho,h⟩:=bi h
      refine bD (fun s=>s=⟨[(3,Pz 0),(4,oc (ow 3 0 o11)),(6,Pz 4),(15,oc (ow 1 0 t1.1)),(16,oI (t1.1.length:Int)),(17,oI (o2_1:Int)),(30,oM (xo2.an.Spec.ad.map bo)),(31,oI (xo2.an.Spec.ad.length:Int)),(32,oI (o9_1:Int))],[xb (gW x0 (ow 1 0 t1.1) (ow 2 0 t1.2)),fj 0 t1.1,ba 0 t1.2,iS 0 o11,xb (gb xo2)]⟩) ?_ ?_
      ·have h:=ho
       refine ww ?_
       refine bI (enc:=bo) (xs:=xo2.an.Spec.ad) rfl rfl hxo9 rfl (ww ?_)
       obtain⟨o12,ho,h⟩:=bi h
       refine bD (fun s=>s=⟨[(3,Pz 0),(4,oc (ow 3 0 o9_0)),(6,Pz 4),(8,Pz 5),(15,oc (ow 1 0 t1.1)),(16,oI (t1.1.length:Int)),(17,oI (o2_1:Int)),(30,oM (xo2.an.Spec.ad.map bo)),(31,oI (xo2.an.Spec.ad.length:Int)),(32,oI (o9_1:Int)),(52,oB o12)],[xb (gW x0 (ow 1 0 t1.1) (ow 2 0 t1.2)),fj 0 t1.1,ba 0 t1.2,iS 0 o9_0,xb (gb xo2),xb (fG xo9)]⟩) ?_ ?_
       ·have h:=ho
        refine ww ?_
        obtain⟨y13,hy13,h⟩:=bi h
        refine bI (enc:=aC) (xs:=xo2.an.ae.ad) rfl rfl hy13 rfl (ww ?_)
        refine bR h (fun g14 h=>ww ?_) (fun g14 h=>ww ?_)
        ·obtain⟨t15,ht15,h⟩:=bi h
         refine cN [0,1,2] (F63v1_ok (e1:=0) (e2:=0) ht15) ⟨⟨(by first|rfl|(simp only[List.length_set];rfl)),by simp[bw.live,C.live,hp]⟩,⟨⟨rfl,trivial⟩,⟨⟨rfl,trivial⟩,trivial⟩⟩⟩ ?_
         refine ww ?_
         cases h
         exact eM i6 rfl
        cases h
        exact eM i6 rfl
       rintro _ rfl
       refine ww ?_
       refine ct h (fun c16 h=>ww ?_) (fun c16 h=>ww ?_)
       ·refine tB (enc:=eS) (ys:=[xo9.aw]) rfl rfl (ww ?_)
        obtain⟨a17,ha17,h⟩:=bi h
        refine tA (enc:=eS) (xs:=o9_0) rfl rfl rfl ha17 (ww ?_)
        cases h
        exact eM i5 rfl
       cases h
       exact eM i5 rfl
      rintro _ rfl
      refine ww ?_
      rw[cL (by omega)]
      exact jo (xo2.an.Spec.ad.length-(o9_1+1)) i5 ⟨o9_1+1,o11,⟨by omega,rfl⟩,rfl,h⟩ (by omega)
     rw[cX (show¬((o9_1:Int)<(xo2.an.Spec.ad.length:Int))from c10),F24_l9]at h
     refine ww ?_
     cases h
     exact eM i4 rfl
    rintro _ rfl
    refine ww ?_
    cases h
    exact eM i4 rfl
   rintro _ rfl
   refine ww ?_
   rw[cL (by omega)]
   exact jo (t1.1.length-(o2_1+1)) i4 ⟨o2_1+1,o4,⟨by omega,rfl⟩,rfl,h⟩ (by omega)
  rw[cX (show¬((o2_1:Int)<(t1.1.length:Int))from c3),F24_l2]at h
  refine ww ?_
  cases h
  exact eM [XC 3] rfl
 rintro _ rfl
 refine ww ?_
 obtain⟨t20,ht20,h⟩:=bi h
 refine cN [0] (F64_ok (e0:=0) ht20) ⟨⟨rfl,trivial⟩,trivial⟩ ?_
 refine ww ?_
 obtain⟨t21,ht21,h⟩:=bi h
 have qx:=q1 (xw ht20)
 refine cQ [0] (F65_ok (e0:=0) ht21) (ww ?_)
 cases h
 have qx:=q1 (xw ht20)
 exact tg [XC 0]
def F119(x0:aD)(x1:aD):Option (aD):=(F181v1 x0 x1).bind fun t1=>XC t1
def a119:dG:=⟨8,[(.cell 4 (XC 3))],
 (.seq (.reg [Qg 2 0,
Qg 3 1,
sq 4 (.zbox [dI 0,dI 0,dI 0])])
 (.seq (.reg [Qc 5 3 2,
Qc 6 3 3,
sq 7 (.call 181 [(.t 5),(.t 6),(.f 182)]),
su (.store 3 (.t 4) (.t 7))])
 .ret))⟩
theorem F119_ok{x0 x1 r}(h:F119 x0 x1=XC r):aW XF 119 [.agg (b6 x0),.agg (b6 x1)] [] (bJ [.agg (b6 (r))]) []:=by
 rw[F119]at h
 refine zc a119 (by kernel_rfl) rfl (ww ?_)
 obtain⟨t1,ht1,h⟩:=bi h
 refine cN [] (F181v1_ok ht1) trivial (ww ?_)
 cases h
 exact eF []
def F118(x0:aD)(x1:aD):Option (Bool):=(F119 x0 x1).bind fun t1=>XC (decide ((t1).de=0∧(t1).aG=0∧(t1).bF=0))
def a118:dG:=⟨10,[(.tmp 4)],
 (.seq (.reg [Qg 2 0,
Qg 3 1,
Qf 4 false])
 (.seq (.reg [Qc 5 3 2,
Qc 6 3 3,
Ql 7 119 5 6,
sq 8 (.build [dI 0,dI 0,dI 0] []),
sq 9 (.eqs false [(0,0),(1,0),(2,0)] (.t 7) (.t 8)),
Qa 4 9])
 .ret))⟩
theorem F118_ok{x0 x1 r}(h:F118 x0 x1=XC r):aW XF 118 [.agg (b6 x0),.agg (b6 x1)] [] (bJ [.c (dB r)]) []:=by
 rw[F118]at h
 refine zc a118 (by kernel_rfl) rfl (ww ?_)
 obtain⟨t1,ht1,h⟩:=bi h
 refine cN [] (F119_ok ht1) trivial (ww ?_)
 cases h
 exact eF []
end Go.Proofs.YtojbebejhgbfeaaGreat
