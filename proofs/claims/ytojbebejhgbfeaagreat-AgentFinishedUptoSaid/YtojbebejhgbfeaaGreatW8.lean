/- Each Go function as a function over typed data, and its walk. -/
import Derived.Test.YtojbebejhgbfeaaGreatW0
import Derived.Test.YtojbebejhgbfeaaGreatW1
import Derived.Test.YtojbebejhgbfeaaGreatW2
import Derived.Test.YtojbebejhgbfeaaGreatW3
import Derived.Test.YtojbebejhgbfeaaGreatW4
import Derived.Test.YtojbebejhgbfeaaGreatW5
import Derived.Test.YtojbebejhgbfeaaGreatW6
import Derived.Test.YtojbebejhgbfeaaGreatW7
open Option renaming some->XC,none->XD,bind_some->XF
open List renaming length_cons->XG,length_set->XH,length_nil->XI,length_eq_zero_iff->XJ,take_of_length_le->XK,length_append->XL,take_length->XM,take_left->XN
open Go.Proofs.Tryz renaming prog->XO
open Int renaming toNat_natCast->XP
open Bool renaming false->XQ,true->XR
open Go.IntKind renaming i64->XS
namespace Go.Proofs.YtojbebejhgbfeaaGreat
open Go Go.Fw Go.Shelf
set_option maxRecDepth 100000
set_option maxHeartbeats 4000000
set_option linter.unusedSimpArgs false
set_option linter.unusedVariables false
def F108(x0:(List aw))(b0:ByteArray):Option (Bool):=(F129 x0 b0).bind fun t1=>XC (decide (0≤t1))
def a108:dG:=⟨9,[(.tmp 4)],
 (.seq (.reg [Qf 4 XQ])
 (.seq (.reg [Qa 5 0,
Qa 6 1,
Ql 7 129 5 6,
sq 8 (.bin .geq (.t 7) (kI 0)),
Qa 4 8])
 .ret))⟩
theorem F108_ok{x0 b0 r}(h:F108 x0 b0=XC r):aW XO 108 [.c (dM (x0.map aR)),.c (.fn 109 [(0,0)])] [xb [dS b0]] (bJ [.c (dB r)]) [xb [dS b0]]:=by
 rw[F108]at h
 refine zc a108 (by kernel_rfl) rfl (ww ?_)
 obtain⟨t1,ht1,h⟩:=bi h
 refine cN [0] (F129_ok ht1) ⟨⟨(by first|rfl|(simp only[XH];rfl)),by simp[bw.live,C.live,hp]⟩,trivial⟩ ?_
 refine ww ?_
 cases h
 exact eF [XC 0]
def F32(x0:ByteArray)(x1:ByteArray):Option (Int):=(F69 x0 x1).bind fun t1=>XC t1
def a32:dG:=⟨8,[(.tmp 4)],
 (.seq (.reg [Qe 4 0])
 (.seq (.reg [Qa 5 0,
Qa 6 1,
Ql 7 69 5 6,
Qa 4 7])
 .ret))⟩
theorem F32_ok{x0 x1 r}(h:F32 x0 x1=XC r):aW XO 32 [.c (dS x0),.c (dS x1)] [] (bJ [.c (dI r)]) []:=by
 rw[F32]at h
 refine zc a32 (by kernel_rfl) rfl (ww ?_)
 obtain⟨t1,ht1,h⟩:=bi h
 refine cN [] (F69_ok ht1) trivial (ww ?_)
 cases h
 exact eF []
def F181(x0:aD)(x1:aD):Option (aD):=(F183 x0.de).bind fun t1=>(F183 x1.de).bind fun t2=>(F194 ((if 1000000000000000<(if x0.de<0 then 0 else x0.de)then 1000000000000000 else(if x0.de<0 then 0 else x0.de))) ((if 1000000000000000<(if x1.de<0 then 0 else x1.de)then 1000000000000000 else(if x1.de<0 then 0 else x1.de)))).bind fun t3=>(F183 x0.aG).bind fun t4=>(F183 x1.aG).bind fun t5=>(F194 ((if 1000000000000000<(if x0.aG<0 then 0 else x0.aG)then 1000000000000000 else(if x0.aG<0 then 0 else x0.aG))) ((if 1000000000000000<(if x1.aG<0 then 0 else x1.aG)then 1000000000000000 else(if x1.aG<0 then 0 else x1.aG)))).bind fun t6=>(F183 x0.bF).bind fun t7=>(F183 x1.bF).bind fun t8=>(F194 ((if 1000000000000000<(if x0.bF<0 then 0 else x0.bF)then 1000000000000000 else(if x0.bF<0 then 0 else x0.bF))) ((if 1000000000000000<(if x1.bF<0 then 0 else x1.bF)then 1000000000000000 else(if x1.bF<0 then 0 else x1.bF)))).bind fun t9=>XC ((⟨t3,t6,t9⟩:aD))
def a181:dG:=⟨32,[(.cell 6 (XC 3))],
 (.seq (.reg [Qg 3 0,
Qg 4 1,
sq 6 (.zbox [dI 0,dI 0,dI 0])])
 (.seq (.regd [Qa 7 2,
Qb 8 0 3,
sd 9 (.load XD (.t 8)) [1],
zn 10 (.call 183 [(.t 9)]) [1,2] [1,2],
Qb 11 0 4,
sd 12 (.load XD (.t 11)) [4],
zn 13 (.call 183 [(.t 12)]) [1,2,3,4,5] [1,2,3,4,5],
zn 14 (.callv (.t 7) [(.t 10),(.t 13)]) [0,1,2,3,4,5,6] [0,1,2,3,4,5,6],
Qa 15 2,
Qb 16 1 3,
sd 17 (.load XD (.t 16)) [9],
zn 18 (.call 183 [(.t 17)]) [0,1,2,3,4,5,6,7,9,10] [0,1,2,3,4,5,6,7,9,10],
Qb 19 1 4,
sd 20 (.load XD (.t 19)) [12],
zn 21 (.call 183 [(.t 20)]) [0,1,2,3,4,5,6,7,9,10,11,12,13] [0,1,2,3,4,5,6,7,9,10,11,12,13],
zn 22 (.callv (.t 15) [(.t 18),(.t 21)]) [0,1,2,3,4,5,6,7,8,9,10,11,12,13,14] [0,1,2,3,4,5,6,7,8,9,10,11,12,13,14],
Qa 23 2,
Qb 24 2 3,
sd 25 (.load XD (.t 24)) [17],
zn 26 (.call 183 [(.t 25)]) [0,1,2,3,4,5,6,7,8,9,10,11,12,13,14,15,17,18] [0,1,2,3,4,5,6,7,8,9,10,11,12,13,14,15,17,18],
Qb 27 2 4,
sd 28 (.load XD (.t 27)) [20],
zl 29 (.call 183 [(.t 28)]) [0,1,2,3,4,5,6,7,8,9,10,11,12,13,14,15,17,18,19,20,21] [],
zl 30 (.callv (.t 23) [(.t 26),(.t 29)]) [0,1,2,3,4,5,6,7,8,9,10,11,12,13,14,15,16,17,18,19,20,21,22] [],
zl 31 (.build [dI 0,dI 0,dI 0] [(0,1,(.t 14)),(1,1,(.t 22)),(2,1,(.t 30))]) [0,1,2,3,4,5,6,7,8,9,10,11,12,13,14,15,16,17,18,19,20,21,22,23] [],
⟨XD,XD,.store 3 (.t 6) (.t 31),[0,1,2,3,4,5,6,7,8,9,10,11,12,13,14,15,16,17,18,19,20,21,22,23,24],(.lone [])⟩])
 .ret))⟩
theorem F181_ok{x0 x1 r}(h:F181 x0 x1=XC r):aW XO 181 [.agg (b6 x0),.agg (b6 x1),.c (.fn 194 [])] [] (bJ [.agg (b6 (r))]) []:=by
 rw[F181]at h
 refine zc a181 (by kernel_rfl) rfl (ww ?_)
 obtain⟨t1,ht1,h⟩:=bi h
 refine cN [] (F183_ok ht1) trivial (ww ?_)
 obtain⟨t2,ht2,h⟩:=bi h
 refine cN [] (F183_ok ht2) trivial (ww ?_)
 obtain⟨t3,ht3,h⟩:=bi h
 refine cN [] (F194_ok ht3) trivial (ww ?_)
 obtain⟨t4,ht4,h⟩:=bi h
 refine cN [] (F183_ok ht4) trivial (ww ?_)
 obtain⟨t5,ht5,h⟩:=bi h
 refine cN [] (F183_ok ht5) trivial (ww ?_)
 obtain⟨t6,ht6,h⟩:=bi h
 refine cN [] (F194_ok ht6) trivial (ww ?_)
 obtain⟨t7,ht7,h⟩:=bi h
 refine cN [] (F183_ok ht7) trivial (ww ?_)
 obtain⟨t8,ht8,h⟩:=bi h
 refine cN [] (F183_ok ht8) trivial (ww ?_)
 obtain⟨t9,ht9,h⟩:=bi h
 refine cN [] (F194_ok ht9) trivial (ww ?_)
 cases h
 exact eF []
def F127_l1(x0:(List aw))(x1:(List ByteArray)):List aw→Nat→Int→Option (Int)
 |[],o1_1,o1_0=>XC o1_0
 |xo1::xs,o1_1,o1_0=>(((((F191 x1 xo1.aV).bind fun t5=>(if(nb t5)=XR then(if o1_0<0 then XC XR else(cI x0 o1_0).bind fun y8=>XC (decide (xo1.ik<y8.ik)))else XC XQ)).bind fun o4=>(if o4=XR then XC ((o1_1:Int))else XC o1_0))).bind fun o3=>F127_l1 x0 x1 xs (o1_1+1) o3)
def F127(x0:(List aw))(x1:(List ByteArray)):Option (Int):=(((ck (0≤x0.length∧x0.length≤4294967290)).bind fun u10=>F127_l1 x0 x1 x0 0 ((-1))).bind fun o1=>XC o1)
def a127:dG:=⟨37,[(.tmp 4)],
 (.seq (.reg [Qe 4 0])
 (.seq (.reg [sq 5 (.mv (kI (-1)))])
 (.seq (.seq (.reg [Qa 8 0,
Qh 9 8,
Qe 10 0])
 (.sem (.block 0 (.loop (.seq (.reg [Qn 11 10 9])
 (.seq (.cond (.t 11)
 .skip
 (.exit 0))
 (.seq (.sem (.block 1 (.seq (.reg [Qa 12 10,
Qp 13 3 8 10,
Qc 14 3 13,
sq 7 (.zbox [dS ⟨#[]⟩,dI 0,dI 0]),
Qa 6 12,
su (.store 3 (.t 7) (.t 14))])
 (.seq (.sem (.regd [Qa 15 1,
Qb 16 0 7,
sd 17 (.load XD (.t 16)) [1],
zl 18 (.call 191 [(.t 15),(.t 17)]) [0,1,2] [],
sd 19 (.not (.t 18)) [0,1,2,3],
sd 20 (.mv (.t 19)) [0,1,2,3,4],
⟨(XC 21),(XC (20,XR)),.mv (.t 5),[0,1,2,3,4,5],(.new [])⟩,
⟨(XC 22),(XC (20,XR)),.bin .lss (.t 21) (kI 0),[0,1,2,3,4,5,6],(.new [])⟩,
⟨(XC 23),(XC (20,XR)),.mv (.t 22),[0,1,2,3,4,5,6,7],(.new [])⟩,
⟨(XC 24),(XC (23,XQ)),.fieldA 2 (.t 7),[0,1,2,3,4,5,6,7,8],(.new [])⟩,
⟨(XC 25),(XC (23,XQ)),.load XD (.t 24),[0,1,2,3,4,5,6,7,8,9],(.new [])⟩,
⟨(XC 26),(XC (23,XQ)),.mv (.t 0),[0,1,2,3,4,5,6,7,8],(.new [])⟩,
⟨(XC 27),(XC (23,XQ)),.mv (.t 5),[0,1,2,3,4,5,6,7,8],(.new [])⟩,
⟨(XC 28),(XC (23,XQ)),.indexA 3 (.t 26) (.t 27),[0,1,2,3,4,5,6,7,8,11,12],(.new [])⟩,
⟨(XC 29),(XC (23,XQ)),.fieldA 2 (.t 28),[0,1,2,3,4,5,6,7,8,11,12,13],(.new [])⟩,
⟨(XC 30),(XC (23,XQ)),.load XD (.t 29),[0,1,2,3,4,5,6,7,8,11,12,13,14],(.new [])⟩,
⟨(XC 31),(XC (23,XQ)),.bin .lss (.t 25) (.t 30),[0,1,2,3,4,5,6,7,8,9,10,11,12,13,14,15],(.new [])⟩,
⟨(XC 32),(XC (20,XR)),.pick (.t 23) (kB XR) (.t 31),[0,1,2,3,4,5,6,7,8,9,10,11,12,13,14,15,16],(.lone [])⟩,
zl 33 (.pick (.t 20) (.t 32) (kB XQ)) [0,1,2,3,4,5,6,7,8,9,10,11,12,13,14,15,16,17] []]))
 (.cond (.t 33)
 (.reg [Qa 34 6,
Qa 5 34])
 .skip)))))
 (.reg [Qm 35 10 1,
Qa 10 35]))))))))
 (.seq (.reg [Qa 36 5,
Qa 4 36])
 .ret))))⟩
theorem F127_ok{x0 x1 r}(h:F127 x0 x1=XC r):aW XO 127 [.c (dM (x0.map aR)),.c (dM (x1.map eS))] [] (bJ [.c (dI r)]) []:=by
 rw[F127]at h
 refine zc a127 (by kernel_rfl) rfl (ww ?_)
 obtain⟨o1,ho,h⟩:=bi h
 refine bD (fun s=>s=⟨[(5,oI o1)],[]⟩) ?_ ?_
 ·have h:=ho
  obtain⟨_,hk,h⟩:=bi h
  have hk:=cr hk
  refine ww ?_
  refine bL (fun j s=>∃(o1_1:Nat) (o1_0:Int),(o1_1≤x0.length∧j=x0.length-o1_1)∧s=⟨[(0,oM (x0.map aR)),(1,oM (x1.map eS)),(5,oI o1_0),(8,oM (x0.map aR)),(9,oI (x0.length:Int)),(10,oI (o1_1:Int))],[]⟩∧F127_l1 x0 x1 (x0.drop o1_1) o1_1 o1_0=XC o1) (x0.length-0) [] ⟨0,(-1),⟨hk.1,rfl⟩,rfl,h⟩ ?_
  rintro _ _ ⟨o1_1,o1_0,⟨hi,rfl⟩,rfl,h⟩
  refine ww ?_
  refine dq (fun c2=>?_) (fun c2=>?_)
  ·obtain⟨xo1,hxo1,hd⟩:=cW (show(o1_1:Int)<(x0.length:Int)from c2)
   rw[hd,F127_l1]at h
   refine ww ?_
   obtain⟨o3,ho,h⟩:=bi h
   refine bD (fun s=>s=⟨[(0,oM (x0.map aR)),(1,oM (x1.map eS)),(5,oI o3),(8,oM (x0.map aR)),(9,oI (x0.length:Int)),(10,oI (o1_1:Int))],[]⟩) ?_ ?_
   ·have h:=ho
    refine ww ?_
    refine bI (enc:=aR) (xs:=x0) rfl rfl hxo1 rfl (ww ?_)
    obtain⟨o4,ho,h⟩:=bi h
    refine bD (fun s=>s=⟨[(0,oM (x0.map aR)),(1,oM (x1.map eS)),(5,oI o1_0),(6,oI (o1_1:Int)),(8,oM (x0.map aR)),(9,oI (x0.length:Int)),(10,oI (o1_1:Int)),(33,oB o4)],[]⟩) ?_ ?_
    ·have h:=ho
     refine ww ?_
     obtain⟨t5,ht5,h⟩:=bi h
     refine cN [] (F191_ok ht5) trivial (ww ?_)
     refine iH h (fun g6 h=>ww ?_) (fun g6 h=>ww ?_)
     ·refine ib h (fun g7 h=>ww ?_) (fun g7 h=>ww ?_)
      ·cases h
       exact eM [] rfl
      obtain⟨y8,hy8,h⟩:=bi h
      refine bI (enc:=aR) (xs:=x0) rfl rfl hy8 rfl (ww ?_)
      cases h
      exact eM [] rfl
     cases h
     exact eM [] rfl
    rintro _ rfl
    refine ww ?_
    refine ct h (fun c9 h=>ww ?_) (fun c9 h=>ww ?_)
    ·cases h
     exact eM [] rfl
    cases h
    exact eM [] rfl
   rintro _ rfl
   refine ww ?_
   rw[cL (by omega)]
   exact jo (x0.length-(o1_1+1)) [] ⟨o1_1+1,o3,⟨by omega,rfl⟩,rfl,h⟩ (by omega)
  rw[cX (show¬((o1_1:Int)<(x0.length:Int))from c2),F127_l1]at h
  refine ww ?_
  cases h
  exact eM [] rfl
 rintro _ rfl
 refine ww ?_
 cases h
 exact eF []
def F78(x0:au)(x1:ByteArray):Option (Int):=(F121 x0.an.Spec.ad x1).bind fun t1=>XC t1
def a78:dG:=⟨11,[(.tmp 4)],
 (.seq (.reg [Qg 2 0,
Qg 3 1,
Qe 4 0])
 (.seq (.reg [Qb 5 0 2,
Qb 6 13 5,
Qb 7 4 6,
Qd 8 7,
sq 9 (.fn 122 [(.t 3)]),
Ql 10 121 8 9,
Qa 4 10])
 .ret))⟩
theorem F78_ok{x0 x1 r}(h:F78 x0 x1=XC r):aW XO 78 [.agg (cv x0),.c (dS x1)] [] (bJ [.c (dI r)]) []:=by
 rw[F78]at h
 refine zc a78 (by kernel_rfl) rfl (ww ?_)
 obtain⟨t1,ht1,h⟩:=bi h
 refine cN [1] (F121_ok ht1) ⟨⟨(by first|rfl|(simp only[XH];rfl)),by simp[bw.live,C.live,hp]⟩,trivial⟩ ?_
 refine ww ?_
 cases h
 exact eF []
def F108v1(x0:(List aw))(b1:ByteArray):Option (Bool):=(F129v2 x0 b1).bind fun t1=>XC (decide (0≤t1))
def a108v1:dG:=⟨9,[(.tmp 4)],
 (.seq (.reg [Qf 4 XQ])
 (.seq (.reg [Qa 5 0,
Qa 6 1,
Ql 7 129 5 6,
sq 8 (.bin .geq (.t 7) (kI 0)),
Qa 4 8])
 .ret))⟩
theorem a108v1_ok:nv XO 108=XC a108v1.er:=by kernel_rfl
theorem F108v1_ok{x0 b1 r}{e0:Nat}(h:F108v1 x0 b1=XC r):aW XO 108 [.c (ow 0 e0 x0),.c (.fn 109 [(1,0)])] [ba e0 x0,xb [dS b1]] (bJ [.c (dB r)]) [ba e0 x0,xb [dS b1]]:=by
 refine pF a108v1_ok (by simp[a108v1]) ?_
 rw[F108v1]at h
 simp only[a108v1,VW.down,Nat.reduceEqDiff,reduceCtorEq,Nat.reduceAdd,Nat.reduceLeDiff,Nat.reduceLT,Nat.reduceBEq,Nat.reduceSub,EE.down]
 obtain⟨t1,ht1,h⟩:=bi h
 refine cN [0,1] (F129v2_ok (e0:=e0) ht1) ⟨⟨rfl,trivial⟩,⟨⟨(by first|rfl|(simp only[XH];rfl)),by simp[bw.live,C.live,hp]⟩,trivial⟩⟩ ?_
 refine ww ?_
 cases h
 exact eF i2
def Mn:cq:=sq 31 (.slice 3 (.t 29) (XC (.t 30)) XD XD)
def Mm:cq:=Qa 6 31
def Ml:cq:=sq 64 (.slice 3 (.t 62) XD (XC (.t 63)) XD)
def Mk:cq:=Qa 4 64
abbrev GN(e:Nat)(xs:List aw)(k:Int):St:=⟨[(0,oc (.own 0 e 0 (xs.length) XD)),(1,oc (.fn 34 [])),(5,oI k)],[XC (.arr e 3 (xs.map aR))]⟩
abbrev GM(e:Nat)(xs:List aw)(k:Int)(k0:Nat)(vv:List aw)(q:Int):St:=⟨[(0,oc (.own 0 e 0 (xs.length) XD)),(1,oc (.fn 34 [])),(5,oI k),(6,oc (.own 0 e k0 (vv.length) XD)),(7,oI q)],[XC (.arr e 3 (xs.map aR))]⟩
def Qw:AC:= .seq (.seq Kc (.cond (.t 35) .skip (.exit 2))) (.seq (.block 3 (.seq Kb (.cond (.t 49) (.seq Ka J9) .skip))) J8)
def P9:AC:= .seq (.reg (opsOf Ke++([Mn]++[Mm]))) (.seq (.seq Kd (.block 2 (.loop Qw))) (.seq J7 (.seq (.reg (opsOf J6++([Ml]++[Mk]))) .ret)))
def Qx:AC:= .seq (.seq Kg (.cond (.t 15) .skip (.exit 0))) (.seq (.block 1 (.seq Kf (.cond (.t 28) P9 .skip))) J5)
def a33:dG:=⟨66,[.tmp 4],.seq Kj (.seq Ki (.seq (.seq Kh (.block 0 (.loop Qx))) (.seq J4 .ret)))⟩
theorem a33_ok:nv XO 33=XC a33.er:=by kernel_rfl
def zx(p:aw):List aw→List aw
 |[]=>[]
 |x::r=>if x.aV=p.aV then zx x r else x::zx x r
def sf:List aw→List aw
 |[]=>[]
 |x::r=>x::zx x r
def Oh(xs:List aw):Option (List aw):=if xs.length≤4294967290 then XC (sf xs)else XD
theorem Gf{xs:List aw}(h:xs.length<2):sf xs=xs:=by
 match xs,h with
 |[],_=>rfl
 |[x],_=>rfl
theorem F34_eq(x y:aw):∃t,F34 x y=XC t:=⟨_,rfl⟩
theorem SE.Ha{P:Program}{n m:Nat}{B:pr}{s:St}{l:List (Option AE)}{st:cq}{T:St→List (Option AE)→Prop}{d sz id ep len:Nat}{x:O}{lo hi:Option O}{α:Type}{enc:α→List D}{xs v:List α}{lo' hi':Int}(hst:st.op= .slice sz x lo hi XD)(hg:st.guard=XD)(hd:st.dst=XC d)
 (hx:s.e9 x=XC (.own id ep 0 len XD)) (hH:hp s.heap id=XC (.arr ep sz (xs.map enc))) (hl:len=xs.length) (hlo:gg s lo 0=XC lo') (hhi:gg s hi len=XC hi') (hc:qV xs lo' hi'=XC v)
 (h:T ⟨(d,oc (.own id ep lo'.toNat v.length XD))::s.aO,s.heap⟩ l):SE P n m B [st] T s l:=by
 refine SE.ops (K1:=fun s'=>s'=⟨(d,oc (.own id ep lo'.toNat v.length XD))::s.aO,s.heap⟩) ?_ (fun s' e=>by subst e;exact Te.refl h)
 simp only[gF,hg,hst,AN,hd,St.apply]
 have:=nD (P:=P) (K:=fun out=>(⟨match out.val with|some v=>(d,v)::s.aO|none=>List.filter (fun x=>x.fst !=d) s.aO,fE s.heap out.wr⟩:St)=⟨(d,oc (.own id ep lo'.toNat v.length XD))::s.aO,s.heap⟩) hx hH hl hlo hhi hc rfl
 rw[MA]at this
 exact this
theorem Te.N0{α:Type}{n:Nat}{B:pr}{e sz k:Nat}{enc:α→List D}{ys:List α}{sl:List (Nat×AV)}{l:List (Option AE)}{t:Nat}(hk:k≤ys.length)(hs:lk sl t=XC (oc (.own 0 e 0 k XD))):
 Te n 1 B (fun s' l'=>s'=⟨[(t,oc (.own 0 (e+1) 0 (ys.take k).length XD))],[XC (.arr (e+1) sz ((ys.take k).map enc))]⟩∧l'=l) ⟨sl,[XC (.arr e sz (ys.map enc))]⟩ l:=by
 refine Te.view (s:=⟨sl,[XC (.arr e sz (ys.map enc))]⟩) (View.re [0] ?_ (by decide) ?_ ?_)
 ·simp only[pw,Ey,hp,List.getElem?_cons_zero,Option.join_some,true_and,and_true]
  exact .inr ⟨(ys.drop k).map enc,by rw[←List.map_append,List.take_append_drop]⟩
 ·simp[keeps,nr]
 ·simp only[Lw,hs,and_true]
  simp[P3,KP,KO,hp,hk]
theorem N2{xs r:List aw}{e:Nat}(h:Oh xs=XC r):aW XO 33 [.c (.own 0 e 0 xs.length XD),.c (.fn 34 [])] [XC (.arr e 3 (xs.map aR))] (bJ [.c (.own 0 (e+1) 0 r.length XD)]) [XC (.arr (e+1) 3 (r.map aR))]:=by
 refine jI.I0 (iJ a33_ok (by simp[a33]) fun B=>?_)
 unfold Oh at h
 split at h
 case isFalse=>cases h
 rename_i hn
 cases h
 have fin:∀(ys:List aw) (k:Nat) (sl:List (Nat×AV)),k≤ys.length→ys.take k=sf xs→lk sl 4=XC (oc (.own 0 e 0 k XD))→
  VE XO 66 1 B .ret (zr [.tmp 4] fun r G (l:List (Option AE))=>r=bJ [.c (.own 0 (e+1) 0 (sf xs).length XD)]∧G=[XC (.arr (e+1) 3 ((sf xs).map aR))]∧∀(i:Nat) (e:AE),l[i]?≠XC (XC e)) ⟨sl,[XC (.arr e 3 (ys.map aR))]⟩ []:=by
  intro ys k sl hk he hs
  refine VE.tell (Te.N0 hk hs) ?_
  rintro _ _ ⟨rfl,rfl⟩
  rw[he]
  exact VE.ret ⟨rfl,rfl,by simp⟩
 refine VE.dV (F33a_ok (e:=e) (xs:=xs) rfl) (fun s hs=>?_) xN gr
 subst hs
 refine VE.dV (F33b_ok (e:=e) (xs:=xs) (r:=if(xs.length:Int)<2 then .inl ()else .inr ()) (by unfold F33b;split<;>rfl)) (fun s hs=>?_) xN (fun s hs=>?_)
 rotate_left
 ·obtain⟨o,ho,rfl⟩:=hs
  split at ho
  ·rename_i hlt
   refine(Te.N0 (k:=xs.length) (t:=4) (Nat.le_refl _) rfl).trans ?_
   rintro _ _ ⟨rfl,rfl⟩
   rw[XM,Gf (xs:=xs) (by omega)]
   exact Te.refl ⟨rfl,rfl,by simp⟩
  ·cases ho
 obtain⟨o,ho,rfl⟩:=hs
 split at ho
 case isTrue=>cases ho
 rename_i hlt
 refine VE.seq (VE.dV (F33c_ok (e:=e) (xs:=xs) rfl) (fun s hs=>?_) xN gr)
 subst hs
 obtain⟨x0,r0,rfl⟩:∃x r,xs=x::r:=by
  cases xs with
  |nil=>simp at hlt
  |cons x r=>exact⟨x,r,rfl⟩
 generalize hxs:x0::r0=xs at*
 refine VE.block (VE.loop (fun j s l=>∃(A:List aw) (p:aw) (C:List aw),xs=A++p::C∧sf xs=A++p::zx p C∧j=C.length∧s=GN e xs ((A.length+1:Nat):Int)∧l=[]) ⟨r0.length,[],x0,r0,hxs.symm,by rw[←hxs];rfl,rfl,rfl,rfl⟩ ?_)
 rintro j _ _ ⟨A,p,C,h1,h2,rfl,rfl,rfl⟩
 have hlen:xs.length=A.length+1+C.length:=by rw[h1];simp;omega
 refine VE.seq (VE.dV (F33d_ok (e:=e) (xs:=xs) (k:=((A.length+1:Nat):Int)) rfl) (fun s hs=>?_) xN gr)
 subst hs
 refine VE.cond (t:=decide (((A.length+1:Nat):Int)<(xs.length:Int))) rfl (fun ht=>?_) fun ht=>?_
 ·have ht:=of_decide_eq_true ht
  cases C with
  |nil=>simp only[XI]at hlen;omega
  |cons y C=>
   simp only[XG]at hlen
   refine VE.skip ?_
   refine VE.tell (Te.to 1 (GN e xs ((A.length+1:Nat):Int)) ⟨rfl,rfl,rfl,trivial⟩ rfl rfl rfl rfl) ?_
   rintro _ _ ⟨rfl,rfl⟩
   have hy:cI xs ((A.length+1:Nat):Int)=XC y:=by
    rw[h1,show A++p::y::C=(A++[p])++y::C by simp];exact nL (by simp)
   have hp':cI xs (XS.wrap (((A.length+1:Nat):Int)-1))=XC p:=by
    rw[show XS.wrap (((A.length+1:Nat):Int)-1)=((A.length:Nat):Int)from by rw[show((A.length+1:Nat):Int)-1=((A.length:Nat):Int)by omega];exact dc (by omega) (by omega)]
    rw[h1];exact nL rfl
   refine VE.seq (VE.block (VE.dV (F33e_ok (e:=e) (xs:=xs) (k:=((A.length+1:Nat):Int)) (r:=decide (y.aV=p.aV)) (by simp only[F33e,hy,hp',XF];rfl)) (fun s hs=>?_) xN gr))
   subst hs
   refine VE.cond (t:=decide (y.aV=p.aV)) rfl (fun hq=>?_) fun hq=>?_
   ·have hq:=of_decide_eq_true hq
    refine VE.tell (Te.to 1 (GN e xs ((A.length+1:Nat):Int)) ⟨rfl,rfl,rfl,trivial⟩ rfl rfl rfl rfl) ?_
    rintro _ _ ⟨rfl,rfl⟩
    refine VE.seq (VE.ws (SE.append (SE.pc (F33f_ok (e:=e) (xs:=xs) (k:=((A.length+1:Nat):Int)) rfl) fun s hs=>?_)))
    subst hs
    have hsl:qV xs ((A.length+1:Nat):Int) (xs.length:Int)=XC (y::C):=by
     unfold qV;rw[if_pos (by omega)]
     simp only[XP]
     rw[h1,show A++p::y::C=(A++[p])++(y::C)by simp,List.drop_left' (by simp),XK (by simp;omega)]
    refine Te.refl (SE.append (SE.Ha (st:=Mn) (d:=31) (id:=0) (ep:=e) (len:=xs.length) (enc:=aR) (xs:=xs) (v:=y::C) (lo':=((A.length+1:Nat):Int)) (hi':=(xs.length:Int)) rfl rfl rfl rfl rfl rfl rfl rfl hsl ?_))
    refine SE.mv (st:=Mm) (d:=6) (d':=31) rfl rfl rfl rfl ?_
    have hv:(A.length+1)+(y::C).length≤xs.length:=by simp;omega
    refine VE.tell (Te.to 1 ⟨[(0,oc (.own 0 e 0 xs.length XD)),(1,oc (.fn 34 [])),(5,oI ((A.length+1:Nat):Int)),(6,oc (.own 0 e (A.length+1) (y::C).length XD))],[XC (.arr e 3 (xs.map aR))]⟩ ⟨rfl,rfl,rfl,rfl,trivial⟩ rfl rfl rfl rfl) ?_
    rintro _ _ ⟨rfl,rfl⟩
    refine VE.seq (VE.seq (VE.pc (F33g_ok (e:=e) (xs:=xs) (k:=((A.length+1:Nat):Int)) (k0:=A.length+1) (vv:=y::C) hv rfl) (fun s hs=>?_) xN gr))
    subst hs
    rw[h1]at h2
    have h2:sf xs=(A++[p])++zx y C:=by rw[h1,h2];simp[zx,hq]
    refine Te.refl (VE.block (VE.loop (fun j s l=>∃(ys O M:List aw) (p':aw) (C':List aw),ys=O++(M++p'::C')∧ys.length=xs.length∧O.length+M.length+1+C'.length=xs.length∧A.length+1≤O.length+M.length∧sf xs=O++zx p' C'∧j=C'.length∧s=GM e ys ((O.length:Nat):Int) (A.length+1) (y::C) ((O.length+M.length-A.length:Nat):Int)∧l=[])
     ⟨C.length,xs,A++[p],[],y,C,by rw[h1];simp,rfl,by simp;omega,by simp,h2,rfl,by
       have:(A++[p]).length+([]:List aw).length-A.length=1:=by simp
       rw[this,XL];rfl,rfl⟩ ?_))
    rintro j _ _ ⟨ys,O,M,p',C',g1,g2,g3,g4,g5,rfl,rfl,rfl⟩
    have hv':(A.length+1)+(y::C).length≤ys.length:=by rw[g2];exact hv
    refine VE.seq (VE.dV (F33h_ok (e:=e) (xs:=ys) (k:=((O.length:Nat):Int)) (k0:=A.length+1) (vv:=y::C) (q:=((O.length+M.length-A.length:Nat):Int)) hv' rfl) (fun s hs=>?_) xN gr)
    subst hs
    refine VE.cond (t:=decide (((O.length+M.length-A.length:Nat):Int)<((y::C).length:Int))) rfl (fun ht=>?_) fun ht=>?_
    ·have ht:=of_decide_eq_true ht
     simp only[XG]at ht
     cases C' with
     |nil=>simp only[XI]at g3;omega
     |cons z C'=>
      refine VE.skip ?_
      refine VE.tell (Te.to 1 (GM e ys ((O.length:Nat):Int) (A.length+1) (y::C) ((O.length+M.length-A.length:Nat):Int)) ⟨rfl,rfl,rfl,rfl,rfl,trivial⟩ rfl rfl rfl rfl) ?_
      rintro _ _ ⟨rfl,rfl⟩
      have hz:HP ys (A.length+1) (y::C).length ((O.length+M.length-A.length:Nat):Int)=XC z:=by
       unfold HP
       rw[if_pos (by simp;omega),XP,show A.length+1+(O.length+M.length-A.length)=(O++(M++[p'])).length by simp;omega,g1,show O++(M++p'::z::C')=(O++(M++[p']))++z::C' by simp]
       exact nL rfl
      have hw:XS.wrap (((O.length+M.length-A.length:Nat):Int)-1)=((O.length+M.length-A.length-1:Nat):Int):=by
       rw[show((O.length+M.length-A.length:Nat):Int)-1=((O.length+M.length-A.length-1:Nat):Int)by omega]
       exact dc (by omega) (by omega)
      have hp2:HP ys (A.length+1) (y::C).length (XS.wrap (((O.length+M.length-A.length:Nat):Int)-1))=XC p':=by
       unfold HP
       rw[hw,if_pos (by simp;omega),XP,show A.length+1+(O.length+M.length-A.length-1)=(O++M).length by simp;omega,g1,show O++(M++p'::z::C')=(O++M)++p'::z::C' by simp]
       exact nL rfl
      have hO:cI ys ((O.length:Nat):Int)=XC ((M++p'::z::C').head (by simp)):=by
       rw[g1]
       cases M with
       |nil=>exact nL rfl
       |cons m M=>exact nL rfl
      refine VE.seq (VE.block (VE.post (R':=fun ex s' l'=>ex= .normal∧∃(ys' O' M':List aw),ys'=O'++(M'++z::C')∧ys'.length=xs.length∧O'.length+M'.length=O.length+M.length+1∧sf xs=O'++zx z C'∧s'=GM e ys' ((O'.length:Nat):Int) (A.length+1) (y::C) ((O.length+M.length-A.length:Nat):Int)∧l'=[]) ?_ ?_))
      ·refine VE.dV (F33i_ok (e:=e) (xs:=ys) (k:=((O.length:Nat):Int)) (k0:=A.length+1) (vv:=y::C) (q:=((O.length+M.length-A.length:Nat):Int)) hv' (r:=decide (¬z.aV=p'.aV)) (by simp only[F33i,hz,hp2,XF];rfl)) (fun s hs=>?_) xN gr
       subst hs
       refine VE.cond (t:=decide (¬z.aV=p'.aV)) rfl (fun hq=>?_) fun hq=>?_
       ·have hq:=of_decide_eq_true hq
        refine VE.tell (Te.to 1 (GM e ys ((O.length:Nat):Int) (A.length+1) (y::C) ((O.length+M.length-A.length:Nat):Int)) ⟨rfl,rfl,rfl,rfl,rfl,trivial⟩ rfl rfl rfl rfl) ?_
        rintro _ _ ⟨rfl,rfl⟩
        refine VE.dV (F33j_ok (e:=e) (xs:=ys) (k:=((O.length:Nat):Int)) (k0:=A.length+1) (vv:=y::C) (q:=((O.length+M.length-A.length:Nat):Int)) hv' (r:=ys.set O.length z) (by simp only[F33j,hz,hO,XF];rfl)) (fun s hs=>?_) xN gr
        subst hs
        refine VE.pc (F33k_ok (e:=e) (xs:=ys.set O.length z) (k:=((O.length:Nat):Int)) (k0:=A.length+1) (vv:=y::C) (q:=((O.length+M.length-A.length:Nat):Int)) (by rw[XH];exact hv') rfl) (fun s hs=>?_) xN gr
        subst hs
        rw[kA (by omega)]
        refine Te.refl ⟨rfl,ys.set O.length z,O++[z],?_⟩
        have e1:((O.length+1:Nat):Int)=(((O++[z]).length:Nat):Int):=by simp
        cases M with
        |nil=>exact⟨[],by rw[g1];simp,by simpa using g2,by simp,by rw[g5];simp[zx,hq],by rw[←e1]<;>rfl,rfl⟩
        |cons m M=>exact⟨M++[p'],by rw[g1];simp,by simpa using g2,by simp;omega,by rw[g5];simp[zx,hq],by rw[←e1]<;>rfl,rfl⟩
       ·have hq:=of_decide_eq_false hq
        have hq:z.aV=p'.aV:=by simpa using hq
        refine VE.tell (Te.to 1 (GM e ys ((O.length:Nat):Int) (A.length+1) (y::C) ((O.length+M.length-A.length:Nat):Int)) ⟨rfl,rfl,rfl,rfl,rfl,trivial⟩ rfl rfl rfl rfl) ?_
        rintro _ _ ⟨rfl,rfl⟩
        exact VE.skip ⟨rfl,ys,O,M++[p'],by rw[g1];simp,g2,by simp;omega,by rw[g5];simp[zx,hq],rfl,rfl⟩
      ·rintro ex s' l' ⟨rfl,ys',O',M',k1,k2,k3,k4,rfl,rfl⟩
       refine Te.refl (VE.pc (F33o_ok (e:=e) (xs:=ys') (k:=((O'.length:Nat):Int)) (k0:=A.length+1) (vv:=y::C) (q:=((O.length+M.length-A.length:Nat):Int)) (by rw[k2];exact hv) rfl) (fun s hs=>?_) xN gr)
       subst hs
       rw[kA (by omega)]
       simp only[XG]at g3
       refine Te.refl ⟨C'.length,by simp,ys',O',M',z,C',k1,k2,by omega,by omega,k4,rfl,?_,rfl⟩
       rw[show O'.length+M'.length-A.length=O.length+M.length-A.length+1 by omega]<;>rfl
    ·have ht:=of_decide_eq_false ht
     simp only[XG]at ht
     have hC:C'=[]:=XJ.1 (by omega)
     subst hC
     simp only[XI]at g3
     refine VE.exit (iw (iw (jx ?_)))
     refine VE.tell (Te.to 1 (GN e ys ((O.length:Nat):Int)) ⟨rfl,rfl,rfl,trivial⟩ rfl rfl rfl rfl) ?_
     rintro _ _ ⟨rfl,rfl⟩
     have hOl:O.length≤ys.length:=by omega
     have hs2:qV ys ((O.length:Nat):Int) (ys.length:Int)=XC (M++[p']):=by
      unfold qV;rw[if_pos (by omega)]
      simp only[XP]
      rw[g1,List.drop_left,XK (by simp)]
     refine VE.dV (F33p_ok (e:=e) (xs:=ys) (k:=((O.length:Nat):Int)) (r:=xm ys ((O.length:Nat):Int).toNat (M++[p']).length (⟨⟨#[]⟩,0,0⟩:aw)) (by simp only[F33p,hs2,XF])) (fun s hs=>?_) xN gr
     subst hs
     have hcl:(xm ys O.length (M++[p']).length (⟨⟨#[]⟩,0,0⟩:aw)).length=ys.length:=fW (by rw[g1];simp)
     generalize hzs:xm ys ((O.length:Nat):Int).toNat (M++[p']).length (⟨⟨#[]⟩,0,0⟩:aw)=zs
     rw[XP]at hzs
     rw[hzs]at hcl
     have hzt:zs.take O.length=O:=by rw[←hzs,xm,g1,XN,List.append_assoc,XN]
     refine VE.seq (VE.ws (SE.append (SE.pc (F33q_ok (e:=e) (xs:=zs) (k:=((O.length:Nat):Int)) rfl) fun s hs=>?_)))
     subst hs
     have hs3:qV zs 0 ((O.length:Nat):Int)=XC (zs.take O.length):=by
      unfold qV;rw[if_pos (by omega)];simp
     refine Te.refl (SE.append (SE.Ha (st:=Ml) (d:=64) (id:=0) (ep:=e) (len:=zs.length) (enc:=aR) (xs:=zs) (v:=zs.take O.length) (lo':=0) (hi':=((O.length:Nat):Int)) rfl rfl rfl rfl rfl rfl rfl rfl hs3 ?_))
     refine SE.mv (st:=Mk) (d:=4) (d':=64) rfl rfl rfl rfl ?_
     refine VE.tell (Te.N0 (ys:=zs) (enc:=aR) (k:=O.length) (t:=4) (by omega) (by
      show XC (oc (.own 0 e 0 (zs.take O.length).length XD))=_
      rw[List.length_take,Nat.min_eq_left (by omega)])) ?_
     rintro _ _ ⟨rfl,rfl⟩
     rw[show zs.take O.length=sf xs by rw[hzt,g5];simp[zx]]
     exact VE.ret ⟨rfl,rfl,by simp⟩
   ·have hq:=of_decide_eq_false hq
    refine VE.tell (Te.to 1 (GN e xs ((A.length+1:Nat):Int)) ⟨rfl,rfl,rfl,trivial⟩ rfl rfl rfl rfl) ?_
    rintro _ _ ⟨rfl,rfl⟩
    refine VE.skip (VE.pc (F33r_ok (e:=e) (xs:=xs) (k:=((A.length+1:Nat):Int)) rfl) (fun s hs=>?_) xN gr)
    subst hs
    rw[kA (by omega)]
    refine Te.refl ⟨C.length,by simp,A++[p],y,C,by rw[h1];simp,by rw[h2];simp[zx,hq],rfl,?_,rfl⟩
    rw[XL];rfl
 ·have ht:=of_decide_eq_false ht
  have hC:C=[]:=XJ.1 (by omega)
  subst hC
  refine VE.exit (iw (iw (jx ?_)))
  refine VE.tell (Te.to 1 ⟨[(0,oc (.own 0 e 0 xs.length XD)),(1,oc (.fn 34 []))],[XC (.arr e 3 (xs.map aR))]⟩ ⟨rfl,rfl,trivial⟩ rfl rfl rfl rfl) ?_
  rintro _ _ ⟨rfl,rfl⟩
  refine VE.dV (F33z_ok (e:=e) (xs:=xs) rfl) (fun s hs=>?_) xN gr
  subst hs
  exact fin xs xs.length _ (Nat.le_refl _) (by rw[XM,h2,h1];rfl) rfl
theorem F33_ok{xs r:List aw}{e0:Nat}(h:Oh xs=XC r):aW XO 33 [.c (.own 0 e0 0 xs.length XD),.c (.fn 34 [])] [XC (.arr e0 3 (xs.map aR))] (bJ [.c (.own 0 (e0+1) 0 r.length XD)]) [XC (.arr (e0+1) 3 (r.map aR))]:=N2 (e:=e0) h
def I2:AC:=(.regd [Qa 115 0,
Qa 116 0,
sd 117 (.fieldA 0 (.t 116)) [1],
sd 118 (.fieldA 0 (.t 117)) [1,2],
sd 119 (.fieldA 25 (.t 118)) [1,2,3],
sd 120 (.load XD (.t 119)) [1,2,3,4],
Qa 121 1,
Qc 122 36 8,
zl 123 (.bslice 36 [(.t 122)]) [7] [116,117,118,119],
zl 124 (.call 120 [(.t 120),(.t 121),(.t 123)]) [1,2,3,4,5,6,7,8] [],
sd 125 (.fieldA 0 (.t 115)) [0,1,2,3,4,5,6,7,8,9],
sd 126 (.fieldA 0 (.t 125)) [0,1,2,3,4,5,6,7,8,9,10],
sd 127 (.fieldA 25 (.t 126)) [0,1,2,3,4,5,6,7,8,9,10,11],
⟨XD,XD,.store 1 (.t 127) (.t 124),[0,1,2,3,4,5,6,7,8,9,10,11,12],(.lone [])⟩])
def F75f(e1:Nat)(b0:aj)(pods:List au)(i:Int)(y:au):Option ((List au)):=(lL pods i y).bind fun t1=>XC t1
theorem F75f_ok{e1 b0 pods i y r}(h:F75f e1 b0 pods i y=XC r):sK XO 128 2 I2 [] (sM 128 2 (fun s=>s=⟨[(0,Pz 0)],[xb (aA b0 (ow 1 (e1+1) r)),ai (e1+1) r]⟩) (xQ 128 2 (fun _ _=>False) (fun _=>False)))
 ⟨[(0,Pz 0),(1,oI i),(8,Pz 2)],[xb (aA b0 (ow 1 e1 pods)),ai e1 pods,xb (cv y)]⟩:=by
 rw[F75f]at h
 unfold I2
 refine ww ?_
 refine tB (enc:=aS) (ys:=[y]) rfl rfl (ww ?_)
 obtain⟨t1,ht1,h⟩:=bi h
 refine cN [1,3] (F120_ok (e0:=e1) (e1:=0) ht1) ⟨⟨rfl,trivial⟩,⟨⟨rfl,trivial⟩,trivial⟩⟩ ?_
 refine ww ?_
 cases h
 exact eM i2 rfl
end Go.Proofs.YtojbebejhgbfeaaGreat
