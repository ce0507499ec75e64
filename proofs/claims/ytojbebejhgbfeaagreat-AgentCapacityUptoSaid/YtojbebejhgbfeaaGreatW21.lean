/- Each Go function as a function over typed data, and its walk. -/
import Derived.Test.YtojbebejhgbfeaaGreatW0
import Derived.Test.YtojbebejhgbfeaaGreatW4
import Derived.Test.YtojbebejhgbfeaaGreatW7
import Derived.Test.YtojbebejhgbfeaaGreatW18
import Derived.Test.YtojbebejhgbfeaaGreatW19
open Option renaming some->XC,none->XD
open Go.IntKind renaming i64->XF
open Bool renaming true->XG,false->XH
namespace Go.Proofs.YtojbebejhgbfeaaGreat
open Go Go.Fw Go.Shelf
set_option maxRecDepth 100000
set_option maxHeartbeats 4000000
set_option linter.unusedSimpArgs false
set_option linter.unusedVariables false
def F46(x0:Int):Option (Unit):=XC (())
def a46:dG:=⟨6,[(.tmp 2)],
 (.seq (.reg [Qe 2 0])
 (.seq (.reg [Qa 3 0,
sq 4 (.max (kI 0) (.t 3)),
sq 5 (.min (kI 1000000000000000) (.t 4)),
Qa 2 5])
 .ret))⟩
theorem F46_ok{x0 r}(h:F46 x0=XC r):aW Tryz.prog 46 [.c (dI x0)] [] (bJ [.c (dI ((if(if 0<x0 then x0 else 0)<1000000000000000 then(if 0<x0 then x0 else 0)else 1000000000000000)))]) []:=by
 rw[F46]at h
 refine zc a46 (by kernel_rfl) rfl (ww ?_)
 cases h
 exact eF []
def F12(x0:aD)(x1:aD):Option (Int×Int×Int):=(F46 x0.de).bind fun t1=>(F46 x1.de).bind fun t2=>(F46 ((XF.wrap (((if(if 0<x0.de then x0.de else 0)<1000000000000000 then(if 0<x0.de then x0.de else 0)else 1000000000000000))+((if(if 0<x1.de then x1.de else 0)<1000000000000000 then(if 0<x1.de then x1.de else 0)else 1000000000000000)))))).bind fun t3=>(F46 x0.aG).bind fun t4=>(F46 x1.aG).bind fun t5=>(F46 ((XF.wrap (((if(if 0<x0.aG then x0.aG else 0)<1000000000000000 then(if 0<x0.aG then x0.aG else 0)else 1000000000000000))+((if(if 0<x1.aG then x1.aG else 0)<1000000000000000 then(if 0<x1.aG then x1.aG else 0)else 1000000000000000)))))).bind fun t6=>(F46 x0.bF).bind fun t7=>(F46 x1.bF).bind fun t8=>(F46 ((XF.wrap (((if(if 0<x0.bF then x0.bF else 0)<1000000000000000 then(if 0<x0.bF then x0.bF else 0)else 1000000000000000))+((if(if 0<x1.bF then x1.bF else 0)<1000000000000000 then(if 0<x1.bF then x1.bF else 0)else 1000000000000000)))))).bind fun t9=>XC (((if(if 0<((XF.wrap (((if(if 0<x0.de then x0.de else 0)<1000000000000000 then(if 0<x0.de then x0.de else 0)else 1000000000000000))+((if(if 0<x1.de then x1.de else 0)<1000000000000000 then(if 0<x1.de then x1.de else 0)else 1000000000000000)))))then((XF.wrap (((if(if 0<x0.de then x0.de else 0)<1000000000000000 then(if 0<x0.de then x0.de else 0)else 1000000000000000))+((if(if 0<x1.de then x1.de else 0)<1000000000000000 then(if 0<x1.de then x1.de else 0)else 1000000000000000)))))else 0)<1000000000000000 then(if 0<((XF.wrap (((if(if 0<x0.de then x0.de else 0)<1000000000000000 then(if 0<x0.de then x0.de else 0)else 1000000000000000))+((if(if 0<x1.de then x1.de else 0)<1000000000000000 then(if 0<x1.de then x1.de else 0)else 1000000000000000)))))then((XF.wrap (((if(if 0<x0.de then x0.de else 0)<1000000000000000 then(if 0<x0.de then x0.de else 0)else 1000000000000000))+((if(if 0<x1.de then x1.de else 0)<1000000000000000 then(if 0<x1.de then x1.de else 0)else 1000000000000000)))))else 0)else 1000000000000000),(if(if 0<((XF.wrap (((if(if 0<x0.aG then x0.aG else 0)<1000000000000000 then(if 0<x0.aG then x0.aG else 0)else 1000000000000000))+((if(if 0<x1.aG then x1.aG else 0)<1000000000000000 then(if 0<x1.aG then x1.aG else 0)else 1000000000000000)))))then((XF.wrap (((if(if 0<x0.aG then x0.aG else 0)<1000000000000000 then(if 0<x0.aG then x0.aG else 0)else 1000000000000000))+((if(if 0<x1.aG then x1.aG else 0)<1000000000000000 then(if 0<x1.aG then x1.aG else 0)else 1000000000000000)))))else 0)<1000000000000000 then(if 0<((XF.wrap (((if(if 0<x0.aG then x0.aG else 0)<1000000000000000 then(if 0<x0.aG then x0.aG else 0)else 1000000000000000))+((if(if 0<x1.aG then x1.aG else 0)<1000000000000000 then(if 0<x1.aG then x1.aG else 0)else 1000000000000000)))))then((XF.wrap (((if(if 0<x0.aG then x0.aG else 0)<1000000000000000 then(if 0<x0.aG then x0.aG else 0)else 1000000000000000))+((if(if 0<x1.aG then x1.aG else 0)<1000000000000000 then(if 0<x1.aG then x1.aG else 0)else 1000000000000000)))))else 0)else 1000000000000000),(if(if 0<((XF.wrap (((if(if 0<x0.bF then x0.bF else 0)<1000000000000000 then(if 0<x0.bF then x0.bF else 0)else 1000000000000000))+((if(if 0<x1.bF then x1.bF else 0)<1000000000000000 then(if 0<x1.bF then x1.bF else 0)else 1000000000000000)))))then((XF.wrap (((if(if 0<x0.bF then x0.bF else 0)<1000000000000000 then(if 0<x0.bF then x0.bF else 0)else 1000000000000000))+((if(if 0<x1.bF then x1.bF else 0)<1000000000000000 then(if 0<x1.bF then x1.bF else 0)else 1000000000000000)))))else 0)<1000000000000000 then(if 0<((XF.wrap (((if(if 0<x0.bF then x0.bF else 0)<1000000000000000 then(if 0<x0.bF then x0.bF else 0)else 1000000000000000))+((if(if 0<x1.bF then x1.bF else 0)<1000000000000000 then(if 0<x1.bF then x1.bF else 0)else 1000000000000000)))))then((XF.wrap (((if(if 0<x0.bF then x0.bF else 0)<1000000000000000 then(if 0<x0.bF then x0.bF else 0)else 1000000000000000))+((if(if 0<x1.bF then x1.bF else 0)<1000000000000000 then(if 0<x1.bF then x1.bF else 0)else 1000000000000000)))))else 0)else 1000000000000000)))
def a12:dG:=⟨30,[(.cell 4 (XC 3))],
 (.seq (.reg [Qg 2 0,
Qg 3 1,
sq 4 (.zbox [dI 0,dI 0,dI 0])])
 (.seq (.regd [Qb 5 0 2,
sd 6 (.load XD (.t 5)) [0],
zn 7 (.call 46 [(.t 6)]) [0,1] [0,1],
Qb 8 0 3,
sd 9 (.load XD (.t 8)) [3],
zn 10 (.call 46 [(.t 9)]) [0,1,2,3,4] [0,1,2,3,4],
sd 11 (.bin .add (.t 7) (.t 10)) [0,1,2,3,4,5],
zn 12 (.call 46 [(.t 11)]) [0,1,2,3,4,5,6] [0,1,2,3,4,5,6],
Qb 13 1 2,
sd 14 (.load XD (.t 13)) [8],
zn 15 (.call 46 [(.t 14)]) [0,1,2,3,4,5,6,7,8,9] [0,1,2,3,4,5,6,7,8,9],
Qb 16 1 3,
sd 17 (.load XD (.t 16)) [11],
zn 18 (.call 46 [(.t 17)]) [0,1,2,3,4,5,6,7,8,9,10,11,12] [0,1,2,3,4,5,6,7,8,9,10,11,12],
sd 19 (.bin .add (.t 15) (.t 18)) [0,1,2,3,4,5,6,7,8,9,10,11,12,13],
zn 20 (.call 46 [(.t 19)]) [0,1,2,3,4,5,6,7,8,9,10,11,12,13,14] [0,1,2,3,4,5,6,7,8,9,10,11,12,13,14],
Qb 21 2 2,
sd 22 (.load XD (.t 21)) [16],
zn 23 (.call 46 [(.t 22)]) [0,1,2,3,4,5,6,7,8,9,10,11,12,13,14,15,16,17] [0,1,2,3,4,5,6,7,8,9,10,11,12,13,14,15,16,17],
Qb 24 2 3,
sd 25 (.load XD (.t 24)) [19],
zl 26 (.call 46 [(.t 25)]) [0,1,2,3,4,5,6,7,8,9,10,11,12,13,14,15,16,17,18,19,20] [],
sd 27 (.bin .add (.t 23) (.t 26)) [0,1,2,3,4,5,6,7,8,9,10,11,12,13,14,15,16,17,18,19,20,21],
zl 28 (.call 46 [(.t 27)]) [0,1,2,3,4,5,6,7,8,9,10,11,12,13,14,15,16,17,18,19,20,21,22] [],
zl 29 (.build [dI 0,dI 0,dI 0] [(0,1,(.t 12)),(1,1,(.t 20)),(2,1,(.t 28))]) [0,1,2,3,4,5,6,7,8,9,10,11,12,13,14,15,16,17,18,19,20,21,22,23] [],
⟨XD,XD,.store 3 (.t 4) (.t 29),[0,1,2,3,4,5,6,7,8,9,10,11,12,13,14,15,16,17,18,19,20,21,22,23,24],(.lone [])⟩])
 .ret))⟩
theorem F12_ok{x0 x1 r}(h:F12 x0 x1=XC r):aW Tryz.prog 12 [.agg (b6 x0),.agg (b6 x1)] [] (bJ [.agg [dI r.1,dI r.2.1,dI r.2.2]]) []:=by
 rw[F12]at h
 refine zc a12 (by kernel_rfl) rfl (ww ?_)
 obtain⟨t1,ht1,h⟩:=bi h
 refine cN [] (F46_ok ht1) trivial (ww ?_)
 obtain⟨t2,ht2,h⟩:=bi h
 refine cN [] (F46_ok ht2) trivial (ww ?_)
 obtain⟨t3,ht3,h⟩:=bi h
 refine cN [] (F46_ok ht3) trivial (ww ?_)
 obtain⟨t4,ht4,h⟩:=bi h
 refine cN [] (F46_ok ht4) trivial (ww ?_)
 obtain⟨t5,ht5,h⟩:=bi h
 refine cN [] (F46_ok ht5) trivial (ww ?_)
 obtain⟨t6,ht6,h⟩:=bi h
 refine cN [] (F46_ok ht6) trivial (ww ?_)
 obtain⟨t7,ht7,h⟩:=bi h
 refine cN [] (F46_ok ht7) trivial (ww ?_)
 obtain⟨t8,ht8,h⟩:=bi h
 refine cN [] (F46_ok ht8) trivial (ww ?_)
 obtain⟨t9,ht9,h⟩:=bi h
 refine cN [] (F46_ok ht9) trivial (ww ?_)
 cases h
 exact eF []
def F13_l1:List aP→Nat→aD→Option (aD)
 |[],o1_1,o1_0=>XC o1_0
 |xo1::xs,o1_1,o1_0=>(F12 o1_0 xo1.gK).bind fun t3=>F13_l1 xs (o1_1+1) ((⟨t3.1,t3.2.1,t3.2.2⟩:aD))
def F13(x0:fw):Option (aD):=(((ck (0≤x0.ad.length∧x0.ad.length≤4294967290)).bind fun u4=>F13_l1 x0.ad 0 ((⟨0,0,0⟩:aD))).bind fun o1=>XC o1)
def a13:dG:=⟨22,[(.cell 2 (XC 3))],
 (.seq (.reg [Qg 1 0,
sq 2 (.zbox [dI 0,dI 0,dI 0])])
 (.seq (.reg [sq 5 (.build [dI 0,dI 0,dI 0] []),
sq 3 (.zbox [dI 0,dI 0,dI 0]),
su (.store 3 (.t 3) (.t 5))])
 (.seq (.seq (.reg [Qe 4 0])
 (.sem (.block 0 (.loop (.seq (.seq (.reg [Qa 6 4,
Qb 7 4 1,
Qd 8 7,
Qh 9 8,
Qn 10 6 9])
 (.cond (.t 10)
 .skip
 (.exit 0)))
 (.seq (.block 1 (.regd [Qc 13 3 3,
Qb 14 4 1,
sd 15 (.load XD (.t 14)) [1],
Qa 16 4,
sd 17 (.indexA 11 (.t 15) (.t 16)) [1,2,3],
sd 18 (.fieldA 2 (.t 17)) [1,2,3,4],
sd 19 (.load (XC 3) (.t 18)) [1,2,3,4,5],
zl 20 (.call 12 [(.t 13),(.t 19)]) [0,1,2,3,4,5,6] [],
⟨XD,XD,.store 3 (.t 3) (.t 20),[0,1,2,3,4,5,6,7],(.lone [])⟩]))
 (.reg [Qa 11 4,
Qm 12 11 1,
Qa 4 12])))))))
 (.seq (.reg [Qc 21 3 3,
⟨XD,XD,.store 3 (.t 2) (.t 21),[],(.lone [3])⟩])
 .ret))))⟩
theorem F13_ok{x0 r}(h:F13 x0=XC r):aW Tryz.prog 13 [.agg (wM x0)] [] (bJ [.agg (b6 (r))]) []:=by
 rw[F13]at h
 refine zc a13 (by kernel_rfl) rfl (ww ?_)
 obtain⟨o1,ho,h⟩:=bi h
 refine bD (fun s=>s=⟨[(2,Pz 0),(3,Pz 1)],[xb [dI 0,dI 0,dI 0],xb (b6 (o1))]⟩) ?_ ?_
 ·have h:=ho
  obtain⟨_,hk,h⟩:=bi h
  have hk:=cr hk
  refine ww ?_
  refine bL (fun j s=>∃(o1_1:Nat) (o1_0:aD),(o1_1≤x0.ad.length∧j=x0.ad.length-o1_1)∧s=⟨[(1,Pz 0),(2,Pz 1),(3,Pz 2),(4,oI (o1_1:Int))],[xb (wM x0),xb [dI 0,dI 0,dI 0],xb (b6 (o1_0))]⟩∧F13_l1 (x0.ad.drop o1_1) o1_1 o1_0=XC o1) (x0.ad.length-0) i3 ⟨0,(⟨0,0,0⟩:aD),⟨hk.1,rfl⟩,rfl,h⟩ ?_
  rintro _ _ ⟨o1_1,o1_0,⟨hi,rfl⟩,rfl,h⟩
  refine ww ?_
  refine dq (fun c2=>?_) (fun c2=>?_)
  ·obtain⟨xo1,hxo1,hd⟩:=cW (show(o1_1:Int)<(x0.ad.length:Int)from c2)
   rw[hd,F13_l1]at h
   refine ww ?_
   refine bI (enc:=bo) (xs:=x0.ad) rfl rfl hxo1 rfl (ww ?_)
   obtain⟨t3,ht3,h⟩:=bi h
   refine cN [] (F12_ok ht3) trivial (ww ?_)
   rw[cL (by omega)]
   exact jo (x0.ad.length-(o1_1+1)) i3 ⟨o1_1+1,(⟨t3.1,t3.2.1,t3.2.2⟩:aD),⟨by omega,rfl⟩,rfl,h⟩ (by omega)
  rw[cX (show¬((o1_1:Int)<(x0.ad.length:Int))from c2),F13_l1]at h
  refine ww ?_
  cases h
  exact eM [XC 1,XC 2] rfl
 rintro _ rfl
 refine ww ?_
 cases h
 exact eF []
def F14(x0:aD)(x1:aD):Option (Bool):=(((F46 x0.de).bind fun t2=>(F46 x1.de).bind fun t3=>(if(if(if 0<x0.de then x0.de else 0)<1000000000000000 then(if 0<x0.de then x0.de else 0)else 1000000000000000)≤(if(if 0<x1.de then x1.de else 0)<1000000000000000 then(if 0<x1.de then x1.de else 0)else 1000000000000000)then(F46 x0.aG).bind fun t5=>(F46 x1.aG).bind fun t6=>(if(if(if 0<x0.aG then x0.aG else 0)<1000000000000000 then(if 0<x0.aG then x0.aG else 0)else 1000000000000000)≤(if(if 0<x1.aG then x1.aG else 0)<1000000000000000 then(if 0<x1.aG then x1.aG else 0)else 1000000000000000)then(F46 x0.bF).bind fun t8=>(F46 x1.bF).bind fun t9=>XC (decide ((if(if 0<x0.bF then x0.bF else 0)<1000000000000000 then(if 0<x0.bF then x0.bF else 0)else 1000000000000000)≤(if(if 0<x1.bF then x1.bF else 0)<1000000000000000 then(if 0<x1.bF then x1.bF else 0)else 1000000000000000)))else XC XH)else XC XH)).bind fun o1=>XC o1)
def a14:dG:=⟨30,[(.tmp 4)],
 (.seq (.reg [Qg 2 0,
Qg 3 1,
Qf 4 XH])
 (.seq (.sem (.regd [Qb 5 0 2,
sd 6 (.load XD (.t 5)) [0],
zn 7 (.call 46 [(.t 6)]) [0,1] [0,1],
Qb 8 0 3,
sd 9 (.load XD (.t 8)) [3],
zl 10 (.call 46 [(.t 9)]) [0,1,2,3,4] [],
sd 11 (.bin .leq (.t 7) (.t 10)) [0,1,2,3,4,5],
sd 12 (.mv (.t 11)) [0,1,2,3,4,5,6],
⟨(XC 13),(XC (12,XG)),.fieldA 1 (.t 2),[0,1,2,3,4,5,6,7],(.new [])⟩,
⟨(XC 14),(XC (12,XG)),.load XD (.t 13),[0,1,2,3,4,5,6,7,8],(.new [])⟩,
⟨(XC 15),(XC (12,XG)),.call 46 [(.t 14)],[0,1,2,3,4,5,6,7,8,9],(.new [8,9])⟩,
⟨(XC 16),(XC (12,XG)),.fieldA 1 (.t 3),[0,1,2,3,4,5,6,7],(.new [])⟩,
⟨(XC 17),(XC (12,XG)),.load XD (.t 16),[0,1,2,3,4,5,6,7,11],(.new [])⟩,
⟨(XC 18),(XC (12,XG)),.call 46 [(.t 17)],[0,1,2,3,4,5,6,7,8,9,10,11,12],(.lone [])⟩,
⟨(XC 19),(XC (12,XG)),.bin .leq (.t 15) (.t 18),[0,1,2,3,4,5,6,7,8,9,10,11,12,13],(.new [])⟩,
zl 20 (.pick (.t 12) (.t 19) (kB XH)) [0,1,2,3,4,5,6,7,8,9,10,11,12,13,14] [],
sd 21 (.mv (.t 20)) [0,1,2,3,4,5,6,7,8,9,10,11,12,13,14,15],
⟨(XC 22),(XC (21,XG)),.fieldA 2 (.t 2),[0,1,2,3,4,5,6,7,8,9,10,11,12,13,14,15,16],(.new [])⟩,
⟨(XC 23),(XC (21,XG)),.load XD (.t 22),[0,1,2,3,4,5,6,7,8,9,10,11,12,13,14,15,16,17],(.new [])⟩,
⟨(XC 24),(XC (21,XG)),.call 46 [(.t 23)],[0,1,2,3,4,5,6,7,8,9,10,11,12,13,14,15,16,17,18],(.new [17,18])⟩,
⟨(XC 25),(XC (21,XG)),.fieldA 2 (.t 3),[0,1,2,3,4,5,6,7,8,9,10,11,12,13,14,15,16],(.new [])⟩,
⟨(XC 26),(XC (21,XG)),.load XD (.t 25),[0,1,2,3,4,5,6,7,8,9,10,11,12,13,14,15,16,20],(.new [])⟩,
⟨(XC 27),(XC (21,XG)),.call 46 [(.t 26)],[0,1,2,3,4,5,6,7,8,9,10,11,12,13,14,15,16,17,18,19,20,21],(.lone [])⟩,
⟨(XC 28),(XC (21,XG)),.bin .leq (.t 24) (.t 27),[0,1,2,3,4,5,6,7,8,9,10,11,12,13,14,15,16,17,18,19,20,21,22],(.new [])⟩,
zl 29 (.pick (.t 21) (.t 28) (kB XH)) [0,1,2,3,4,5,6,7,8,9,10,11,12,13,14,15,16,17,18,19,20,21,22,23] [],
sd 4 (.mv (.t 29)) [0,1,2,3,4,5,6,7,8,9,10,11,12,13,14,15,16,17,18,19,20,21,22,23,24]]))
 .ret))⟩
theorem F14_ok{x0 x1 r}(h:F14 x0 x1=XC r):aW Tryz.prog 14 [.agg (b6 x0),.agg (b6 x1)] [] (bJ [.c (dB r)]) []:=by
 rw[F14]at h
 refine zc a14 (by kernel_rfl) rfl (ww ?_)
 obtain⟨o1,ho,h⟩:=bi h
 refine bD (fun s=>s=⟨[(4,oB o1)],[]⟩) ?_ ?_
 ·have h:=ho
  refine ww ?_
  obtain⟨t2,ht2,h⟩:=bi h
  refine cN [] (F46_ok ht2) trivial (ww ?_)
  obtain⟨t3,ht3,h⟩:=bi h
  refine cN [] (F46_ok ht3) trivial (ww ?_)
  refine ib h (fun g4 h=>ww ?_) (fun g4 h=>ww ?_)
  ·obtain⟨t5,ht5,h⟩:=bi h
   refine cN [] (F46_ok ht5) trivial (ww ?_)
   obtain⟨t6,ht6,h⟩:=bi h
   refine cN [] (F46_ok ht6) trivial (ww ?_)
   refine ib h (fun g7 h=>ww ?_) (fun g7 h=>ww ?_)
   ·obtain⟨t8,ht8,h⟩:=bi h
    refine cN [] (F46_ok ht8) trivial (ww ?_)
    obtain⟨t9,ht9,h⟩:=bi h
    refine cN [] (F46_ok ht9) trivial (ww ?_)
    cases h
    exact eM [] rfl
   cases h
   exact eM [] rfl
  cases h
  exact eM [] rfl
 rintro _ rfl
 refine ww ?_
 cases h
 exact eF []
def F3_l8:List af→Nat→aD→Int→Option (aD×Int)
 |[],o8_2,o8_0,o8_1=>XC ((o8_0,o8_1))
 |xo8::xs,o8_2,o8_0,o8_1=>(((F11 xo8.an).bind fun t11=>(if(nb t11)=XG then(F13 xo8.an.Spec).bind fun t13=>(F12 o8_0 t13).bind fun t14=>XC (((⟨t14.1,t14.2.1,t14.2.2⟩:aD),(XF.wrap (o8_1+1))))else XC ((o8_0,o8_1)))).bind fun o10=>F3_l8 xs (o8_2+1) o10.1 o10.2)
def F3_l5(x0:eC):List aN→Nat→ByteArray→ByteArray→ByteArray→Int→Int→Int→Int→Bool→Int→((List Label))→((List mw))→((List ByteArray))→((List iV))→Int→Int→Int→Int→Bool→((List pH))→Bool→Int→Bool→Bool→((List aw))→Int→((List af))→(List aw)→Int→Int→Int→Option ((Bool) ⊕ (Unit))
 |[],o5_30,o5_0,o5_1,o5_2,o5_3,o5_4,o5_5,o5_6,o5_7,o5_8,o5_9,o5_10,o5_11,o5_12,o5_13,o5_14,o5_15,o5_16,o5_17,o5_18,o5_19,o5_20,o5_21,o5_22,o5_23,o5_24,o5_25,o5_26,o5_27,o5_28,o5_29=>XC (Sum.inr (()))
 |xo5::xs,o5_30,o5_0,o5_1,o5_2,o5_3,o5_4,o5_5,o5_6,o5_7,o5_8,o5_9,o5_10,o5_11,o5_12,o5_13,o5_14,o5_15,o5_16,o5_17,o5_18,o5_19,o5_20,o5_21,o5_22,o5_23,o5_24,o5_25,o5_26,o5_27,o5_28,o5_29=>(F10 ((⟨(⟨(⟨o5_0,o5_1,o5_2,o5_3,o5_4,o5_5,o5_6,o5_7,o5_8,o5_9,o5_10,o5_11,o5_12⟩:ak),(⟨o5_13,o5_14,o5_15⟩:aD),o5_16,o5_17,o5_18,o5_19,o5_20,o5_21,o5_22,o5_23⟩:eC),o5_24,o5_25,o5_26,o5_27,o5_28,o5_29⟩:ah)) xo5).bind fun t7=>(((ck (0≤t7.bq.length∧t7.bq.length≤4294967290)).bind fun u15=>F3_l8 t7.bq 0 ((⟨0,0,0⟩:aD)) 0).bind fun o8=>(((if 0<o8.2 then(if x0.cJ<o8.2 then XC XG else(F14 o8.1 x0.aJ).bind fun t19=>XC (nb t19))else XC XH)).bind fun o16=>(if o16=XG then(XC XH).map Sum.inl else F3_l5 x0 xs (o5_30+1) t7.Node.ak.bY t7.Node.ak.bE t7.Node.ak.aV t7.Node.ak.jH t7.Node.ak.cE t7.Node.ak.bA t7.Node.ak.cF t7.Node.ak.bP t7.Node.ak.bz t7.Node.ak.cS t7.Node.ak.cZ t7.Node.ak.bB t7.Node.ak.b9 t7.Node.aJ.de t7.Node.aJ.aG t7.Node.aJ.bF t7.Node.cJ t7.Node.cY t7.Node.dQ t7.Node.bd t7.Node.jR t7.Node.fa t7.Node.dU t7.Node.aM t7.cl t7.bq t7.aM t7.bW t7.bO t7.b8)))
def F3(x0:eC)(x1:Int)(x2:(List aN)):Option (Bool):=(F7 x0 x2).bind fun t1=>(if t1=XG then(F8).bind fun t3=>XC t3 else(F9 x0 x1).bind fun t4=>(((ck (0≤x2.length∧x2.length≤4294967290)).bind fun u21=>F3_l5 x0 x2 0 x0.ak.bY x0.ak.bE x0.ak.aV x0.ak.jH x0.ak.cE x0.ak.bA x0.ak.cF x0.ak.bP x0.ak.bz x0.ak.cS x0.ak.cZ x0.ak.bB x0.ak.b9 x0.aJ.de x0.aJ.aG x0.aJ.bF x0.cJ x0.cY x0.dQ x0.bd x0.jR x0.fa x0.dU x0.aM 0 ([]) t4 0 ((if x1<0 then 0 else x1)) 1:Option ((Bool) ⊕ (Unit))).bind fun o5=>match o5 with|Sum.inl f=>XC f|Sum.inr po5=>(F8).bind fun t22=>XC t22))
def a3:dG:=⟨74,[(.tmp 6)],
 (.seq (.reg [Qg 3 0,
Qf 6 XH])
 (.seq (.seq (.reg [Qc 12 24 3,
Qa 13 2,
zl 14 (.call 7 [(.t 12),(.t 13)]) [] [3]])
 (.cond (.t 14)
 (.seq (.reg [sq 15 (.call 8 []),
Qa 6 15])
 .ret)
 .skip))
 (.seq (.reg [Qc 16 24 3,
Qa 17 1,
Ql 18 9 16 17,
sq 7 (.zbox zQ),
su (.store 30 (.t 7) (.t 18))])
 (.seq (.seq (.reg [Qe 8 0])
 (.sem (.block 0 (.loop (.seq (.seq (.reg [Qa 19 8,
Qa 20 2,
Qh 21 20,
Qn 22 19 21])
 (.cond (.t 22)
 .skip
 (.exit 0)))
 (.seq (.block 1 (.seq (.regd [Qc 25 30 7,
Qa 26 2,
Qa 27 8,
sd 28 (.indexA 37 (.t 26) (.t 27)) [1,2],
sd 29 (.load (XC 37) (.t 28)) [1,2,3],
zl 30 (.call 10 [(.t 25),(.t 29)]) [0,1,2,3,4] [],
⟨XD,XD,.store 30 (.t 7) (.t 30),[0,1,2,3,4,5],(.lone [])⟩])
 (.seq (.reg [zl 9 (.zbox [dI 0,dI 0,dI 0]) [] []])
 (.seq (.reg [Qe 10 0])
 (.seq (.seq (.reg [Qe 11 0])
 (.sem (.block 2 (.loop (.seq (.seq (.reg [Qa 31 11,
Qb 32 25 7,
Qd 33 32,
Qh 34 33,
Qn 35 31 34])
 (.cond (.t 35)
 .skip
 (.exit 2)))
 (.seq (.sem (.block 3 (.seq (.reg [Qb 38 25 7,
Qd 39 38,
Qa 40 11,
Qp 41 36 39 40,
Qb 42 0 41,
Qc 43 32 42,
Qk 44 11 43,
Qq 45 44])
 (.cond (.t 45)
 (.seq (.regd [Qc 46 3 9,
Qb 47 25 7,
sd 48 (.load XD (.t 47)) [1],
Qa 49 11,
sd 50 (.indexA 36 (.t 48) (.t 49)) [1,2,3],
sd 51 (.fieldA 0 (.t 50)) [1,2,3,4],
sd 52 (.fieldA 13 (.t 51)) [1,2,3,4,5],
sd 53 (.load (XC 10) (.t 52)) [1,2,3,4,5,6],
zl 54 (.call 13 [(.t 53)]) [1,2,3,4,5,6,7] [9],
zl 55 (.call 12 [(.t 46),(.t 54)]) [0,1,2,3,4,5,6,7,8] [],
⟨XD,XD,.store 3 (.t 9) (.t 55),[0,1,2,3,4,5,6,7,8,9],(.lone [])⟩])
 (.reg [Qa 56 10,
Qm 57 56 1,
Qa 10 57]))
 .skip))))
 (.reg [Qa 36 11,
Qm 37 36 1,
Qa 11 37])))))))
 (.seq (.sem (.reg [Qa 58 10,
sq 59 (.bin .gtr (.t 58) (kI 0)),
Qa 60 59,
Qv 61 60 XG 10,
Qs 62 60 XG 16 3,
Qt 63 60 XG 62,
zg 64 60 XG (.bin .gtr (.t 61) (.t 63)),
Qv 65 60 XG 64,
Qu 66 65 XH 3 9,
Qs 67 65 XH 13 3,
Qu 68 65 XH 3 67,
zg 69 65 XH (.call 14 [(.t 66),(.t 68)]),
zg 70 65 XH (.not (.t 69)),
zg 71 60 XG (.pick (.t 65) (kB XG) (.t 70)),
Qi 72 60 71]))
 (.cond (.t 72)
 (.seq (.reg [Qf 6 XH])
 .ret)
 .skip)))))))
 (.reg [Qa 23 8,
Qm 24 23 1,
Qa 8 24])))))))
 (.seq (.reg [sq 73 (.call 8 []),
Qa 6 73])
 .ret)))))⟩
theorem F3_ok{x0 x1 x2 r}(h:F3 x0 x1 x2=XC r):aW Tryz.prog 3 [.agg (jy x0),.c (dI x1),.c (dM (x2.map bN))] [] (bJ [.c (dB r)]) []:=by
 rw[F3]at h
 refine zc a3 (by kernel_rfl) rfl (ww ?_)
 obtain⟨t1,ht1,h⟩:=bi h
 refine cN [] (F7_ok ht1) trivial (ww ?_)
 refine ct h (fun c2 h=>ww ?_) (fun c2 h=>ww ?_)
 ·obtain⟨t3,ht3,h⟩:=bi h
  refine cN [] (F8_ok ht3) trivial (ww ?_)
  cases h
  exact eF []
 obtain⟨t4,ht4,h⟩:=bi h
 refine cN [] (F9_ok ht4) trivial (ww ?_)
 obtain⟨o5,ho,h⟩:=bi h
 refine bD (fun s=>∃po5,o5=Sum.inr po5∧s=⟨[],[]⟩) ?_ ?_
 ·have h0o5:=h
  have h:=ho
  obtain⟨_,hk,h⟩:=bi h
  have hk:=cr hk
  refine ww ?_
  refine bL (fun j s=>∃(o5_30:Nat) (o5_0:ByteArray) (o5_1:ByteArray) (o5_2:ByteArray) (o5_3:Int) (o5_4:Int) (o5_5:Int) (o5_6:Int) (o5_7:Bool) (o5_8:Int) (o5_9:(List Label)) (o5_10:(List mw)) (o5_11:(List ByteArray)) (o5_12:(List iV)) (o5_13:Int) (o5_14:Int) (o5_15:Int) (o5_16:Int) (o5_17:Bool) (o5_18:(List pH)) (o5_19:Bool) (o5_20:Int) (o5_21:Bool) (o5_22:Bool) (o5_23:(List aw)) (o5_24:Int) (o5_25:(List af)) (o5_26:List aw) (o5_27:Int) (o5_28:Int) (o5_29:Int),(o5_30≤x2.length∧j=x2.length-o5_30)∧s=⟨[(2,oM (x2.map bN)),(3,Pz 0),(7,Pz 1),(8,oI (o5_30:Int))],[xb (jy x0),xb [dS o5_0,dS o5_1,dS o5_2,dI o5_3,dI o5_4,dI o5_5,dI o5_6,dB o5_7,dI o5_8,dM (o5_9.map cR),dM (o5_10.map cP),dM (o5_11.map eS),dM (o5_12.map bU),dI o5_13,dI o5_14,dI o5_15,dI o5_16,dB o5_17,dM (o5_18.map dP),dB o5_19,dI o5_20,dB o5_21,dB o5_22,dM (o5_23.map aR),dI o5_24,dM (o5_25.map bT),dM (o5_26.map aR),dI o5_27,dI o5_28,dI o5_29]]⟩∧F3_l5 x0 (x2.drop o5_30) o5_30 o5_0 o5_1 o5_2 o5_3 o5_4 o5_5 o5_6 o5_7 o5_8 o5_9 o5_10 o5_11 o5_12 o5_13 o5_14 o5_15 o5_16 o5_17 o5_18 o5_19 o5_20 o5_21 o5_22 o5_23 o5_24 o5_25 o5_26 o5_27 o5_28 o5_29=XC o5) (x2.length-0) [XC 0,XC 2] ⟨0,x0.ak.bY,x0.ak.bE,x0.ak.aV,x0.ak.jH,x0.ak.cE,x0.ak.bA,x0.ak.cF,x0.ak.bP,x0.ak.bz,x0.ak.cS,x0.ak.cZ,x0.ak.bB,x0.ak.b9,x0.aJ.de,x0.aJ.aG,x0.aJ.bF,x0.cJ,x0.cY,x0.dQ,x0.bd,x0.jR,x0.fa,x0.dU,x0.aM,0,[],t4,0,(if x1<0 then 0 else x1),1,⟨hk.1,rfl⟩,rfl,h⟩ ?_
  rintro _ _ ⟨o5_30,o5_0,o5_1,o5_2,o5_3,o5_4,o5_5,o5_6,o5_7,o5_8,o5_9,o5_10,o5_11,o5_12,o5_13,o5_14,o5_15,o5_16,o5_17,o5_18,o5_19,o5_20,o5_21,o5_22,o5_23,o5_24,o5_25,o5_26,o5_27,o5_28,o5_29,⟨hi,rfl⟩,rfl,h⟩
  refine ww ?_
  refine dq (fun c6=>?_) (fun c6=>?_)
  ·obtain⟨xo5,hxo5,hd⟩:=cW (show(o5_30:Int)<(x2.length:Int)from c6)
   rw[hd,F3_l5]at h
   refine ww ?_
   refine bI (enc:=bN) (xs:=x2) rfl rfl hxo5 rfl (ww ?_)
   obtain⟨t7,ht7,h⟩:=bi h
   refine cN [] (F10_ok ht7) trivial (ww ?_)
   obtain⟨o8,ho,h⟩:=bi h
   refine bD (fun s=>s=⟨[(2,oM (x2.map bN)),(3,Pz 0),(7,Pz 1),(8,oI (o5_30:Int)),(9,Pz 2),(10,oI o8.2)],[xb (jy x0),xb (dy t7),xb (b6 (o8.1))]⟩) ?_ ?_
   ·have h:=ho
    obtain⟨_,hk,h⟩:=bi h
    have hk:=cr hk
    refine ww ?_
    refine bL (fun j s=>∃(o8_2:Nat) (o8_0:aD) (o8_1:Int),(o8_2≤t7.bq.length∧j=t7.bq.length-o8_2)∧s=⟨[(2,oM (x2.map bN)),(3,Pz 0),(7,Pz 1),(8,oI (o5_30:Int)),(9,Pz 2),(10,oI o8_1),(11,oI (o8_2:Int))],[xb (jy x0),xb (dy t7),xb (b6 (o8_0))]⟩∧F3_l8 (t7.bq.drop o8_2) o8_2 o8_0 o8_1=XC o8) (t7.bq.length-0) i3 ⟨0,(⟨0,0,0⟩:aD),0,⟨hk.1,rfl⟩,rfl,h⟩ ?_
    rintro _ _ ⟨o8_2,o8_0,o8_1,⟨hi,rfl⟩,rfl,h⟩
    refine ww ?_
    refine dq (fun c9=>?_) (fun c9=>?_)
    ·obtain⟨xo8,hxo8,hd⟩:=cW (show(o8_2:Int)<(t7.bq.length:Int)from c9)
     rw[hd,F3_l8]at h
     refine ww ?_
     obtain⟨o10,ho,h⟩:=bi h
     refine bD (fun s=>s=⟨[(2,oM (x2.map bN)),(3,Pz 0),(7,Pz 1),(8,oI (o5_30:Int)),(9,Pz 2),(10,oI o10.2),(11,oI (o8_2:Int))],[xb (jy x0),xb (dy t7),xb (b6 (o10.1))]⟩) ?_ ?_
     ·have h:=ho
      refine ww ?_
      refine bI (enc:=bT) (xs:=t7.bq) rfl rfl hxo8 rfl (ww ?_)
      obtain⟨t11,ht11,h⟩:=bi h
      refine cN [] (F11_ok ht11) trivial (ww ?_)
      refine ct h (fun c12 h=>ww ?_) (fun c12 h=>ww ?_)
      ·refine bI (enc:=bT) (xs:=t7.bq) rfl rfl hxo8 rfl (ww ?_)
       obtain⟨t13,ht13,h⟩:=bi h
       refine cN [] (F13_ok ht13) trivial (ww ?_)
       obtain⟨t14,ht14,h⟩:=bi h
       refine cN [] (F12_ok ht14) trivial (ww ?_)
       cases h
       exact eM i3 rfl
      cases h
      exact eM i3 rfl
     rintro _ rfl
     refine ww ?_
     rw[cL (by omega)]
     exact jo (t7.bq.length-(o8_2+1)) i3 ⟨o8_2+1,o10.1,o10.2,⟨by omega,rfl⟩,rfl,h⟩ (by omega)
    rw[cX (show¬((o8_2:Int)<(t7.bq.length:Int))from c9),F3_l8]at h
    refine ww ?_
    cases h
    exact eM i3 rfl
   rintro _ rfl
   refine ww ?_
   obtain⟨o16,ho,h⟩:=bi h
   refine bD (fun s=>s=⟨[(2,oM (x2.map bN)),(3,Pz 0),(7,Pz 1),(8,oI (o5_30:Int)),(72,oB o16)],[xb (jy x0),xb (dy t7)]⟩) ?_ ?_
   ·have h:=ho
    refine ww ?_
    refine bR h (fun g17 h=>ww ?_) (fun g17 h=>ww ?_)
    ·refine bR h (fun g18 h=>ww ?_) (fun g18 h=>ww ?_)
     ·cases h
      exact eM i2 rfl
     obtain⟨t19,ht19,h⟩:=bi h
     refine cN [] (F14_ok ht19) trivial (ww ?_)
     cases h
     exact eM i2 rfl
    cases h
    exact eM i2 rfl
   rintro _ rfl
   refine ww ?_
   refine ct h (fun c20 h=>ww ?_) (fun c20 h=>ww ?_)
   ·obtain⟨fh0o5,hfh0o5,rfl⟩:=Option.map_eq_some_iff.1 h
    have h:=hfh0o5.trans h0o5
    cases h
    exact eF []
   rw[cL (by omega)]
   exact jo (x2.length-(o5_30+1)) i2 ⟨o5_30+1,t7.Node.ak.bY,t7.Node.ak.bE,t7.Node.ak.aV,t7.Node.ak.jH,t7.Node.ak.cE,t7.Node.ak.bA,t7.Node.ak.cF,t7.Node.ak.bP,t7.Node.ak.bz,t7.Node.ak.cS,t7.Node.ak.cZ,t7.Node.ak.bB,t7.Node.ak.b9,t7.Node.aJ.de,t7.Node.aJ.aG,t7.Node.aJ.bF,t7.Node.cJ,t7.Node.cY,t7.Node.dQ,t7.Node.bd,t7.Node.jR,t7.Node.fa,t7.Node.dU,t7.Node.aM,t7.cl,t7.bq,t7.aM,t7.bW,t7.bO,t7.b8,⟨by omega,rfl⟩,rfl,h⟩ (by omega)
  rw[cX (show¬((o5_30:Int)<(x2.length:Int))from c6),F3_l5]at h
  refine ww ?_
  cases h
  exact eM [] ⟨_,rfl,rfl⟩
 rintro _ ⟨po5,rfl,rfl⟩
 dsimp only at h
 refine ww ?_
 obtain⟨t22,ht22,h⟩:=bi h
 refine cN [] (F8_ok ht22) trivial (ww ?_)
 cases h
 exact eF []
end Go.Proofs.YtojbebejhgbfeaaGreat
