/- Each Go function as a function over typed data, and its walk. -/
import Derived.Test.YtojbebejhgbfeaaGreatW0
import Derived.Test.YtojbebejhgbfeaaGreatW2
import Derived.Test.YtojbebejhgbfeaaGreatW3
import Derived.Test.YtojbebejhgbfeaaGreatW4
import Derived.Test.YtojbebejhgbfeaaGreatW5
import Derived.Test.YtojbebejhgbfeaaGreatW6
import Derived.Test.YtojbebejhgbfeaaGreatW7
open Go.IntKind renaming i64->XC
open Option renaming some->XD,none->XF
open Bool renaming false->XG,true->XH
open Go.Proofs.Tryz renaming prog->XI
namespace Go.Proofs.YtojbebejhgbfeaaGreat
open Go Go.Fw Go.Shelf
set_option maxRecDepth 100000
set_option maxHeartbeats 4000000
set_option linter.unusedSimpArgs false
set_option linter.unusedVariables false
def F123(x0:cp)(x1:Int)(x2:Int)(x3:Int):Option (Int×Int):=(F186 x1).bind fun t1=>(F187 x2 x3 ((if 1000000000000000<(XC.wrap (((if 1000000000000000<(if x0.cM<0 then 0 else x0.cM)then 1000000000000000 else(if x0.cM<0 then 0 else x0.cM)))+1))then 1000000000000000 else(XC.wrap (((if 1000000000000000<(if x0.cM<0 then 0 else x0.cM)then 1000000000000000 else(if x0.cM<0 then 0 else x0.cM)))+1))))).bind fun t2=>(F186 ((XC.wrap (((if 1000000000000<(if x1<0 then 0 else x1)then 1000000000000 else(if x1<0 then 0 else x1)))+t2)))).bind fun t3=>XD (((if 1000000000000000<(XC.wrap (((if 1000000000000000<(if x0.cM<0 then 0 else x0.cM)then 1000000000000000 else(if x0.cM<0 then 0 else x0.cM)))+1))then 1000000000000000 else(XC.wrap (((if 1000000000000000<(if x0.cM<0 then 0 else x0.cM)then 1000000000000000 else(if x0.cM<0 then 0 else x0.cM)))+1))),(if 1000000000000<(if((XC.wrap (((if 1000000000000<(if x1<0 then 0 else x1)then 1000000000000 else(if x1<0 then 0 else x1)))+t2)))<0 then 0 else((XC.wrap (((if 1000000000000<(if x1<0 then 0 else x1)then 1000000000000 else(if x1<0 then 0 else x1)))+t2))))then 1000000000000 else(if((XC.wrap (((if 1000000000000<(if x1<0 then 0 else x1)then 1000000000000 else(if x1<0 then 0 else x1)))+t2)))<0 then 0 else((XC.wrap (((if 1000000000000<(if x1<0 then 0 else x1)then 1000000000000 else(if x1<0 then 0 else x1)))+t2)))))))
def a123:dG:=⟨26,[(.cell 8 (XD 2))],
 (.seq (.reg [Qg 4 0,
sq 8 (.zbox [dI 0,dI 0])])
 (.seq (.reg [Qb 10 0 4,
Qd 11 10,
sq 12 (.max (.t 11) (kI 0)),
sq 13 (.min (.t 12) (kI 1000000000000000)),
Qm 14 13 1,
sq 15 (.min (.t 14) (kI 1000000000000000)),
Qa 9 15])
 (.seq (.reg [Qa 16 9,
Qa 17 1,
Qk 18 186 17,
Qa 19 2,
Qa 20 3,
Qa 21 9,
sq 22 (.call 187 [(.t 19),(.t 20),(.t 21)]),
sq 23 (.bin .add (.t 18) (.t 22)),
Qk 24 186 23,
sq 25 (.build [dI 0,dI 0] [(0,1,(.t 16)),(1,1,(.t 24))]),
su (.store 2 (.t 8) (.t 25))])
 .ret)))⟩
theorem F123_ok{x0 x1 x2 x3 r}(h:F123 x0 x1 x2 x3=XD r):aW XI 123 [.agg [dI x0.cM,dI x0.At],.c (dI x1),.c (dI x2),.c (dI x3)] [] (bJ [.agg [dI r.1,dI r.2]]) []:=by
 rw[F123]at h
 refine zc a123 (by kernel_rfl) rfl (ww ?_)
 obtain⟨t1,ht1,h⟩:=bi h
 refine cN [] (F186_ok ht1) trivial (ww ?_)
 obtain⟨t2,ht2,h⟩:=bi h
 refine cN [] (F187_ok ht2) trivial (ww ?_)
 obtain⟨t3,ht3,h⟩:=bi h
 refine cN [] (F186_ok ht3) trivial (ww ?_)
 cases h
 exact eF []
def F135(x0:Probe)(x1:Int):Option (Int):=(F189 x0.gA 0 1000000000000).bind fun t1=>(F190 x1 ((if(1000000000000:Int)<(if x0.gA<(0:Int)then(0:Int)else x0.gA)then(1000000000000:Int)else(if x0.gA<(0:Int)then(0:Int)else x0.gA)))).bind fun t2=>XD t2
def a135:dG:=⟨11,[(.cell 4 (XD 4))],
 (.seq (.reg [Qg 2 0,
sq 4 (.zbox [dI 0,dI 0,dB XG,dI 0])])
 (.seq (.reg [Qa 5 1,
Qb 6 0 2,
Qd 7 6,
sq 8 (.call 189 [(.t 7),(kI 0),(kI 1000000000000)]),
Ql 9 190 5 8,
sq 10 (.build [dI 0,dI 0,dB XG,dI 0] [(3,1,(.t 9))]),
su (.store 4 (.t 4) (.t 10))])
 .ret))⟩
theorem F135_ok{x0 x1 r}(h:F135 x0 x1=XD r):aW XI 135 [.agg (zJ x0),.c (dI x1)] [] (bJ [.agg [dI 0,dI 0,dB XG,dI r]]) []:=by
 rw[F135]at h
 refine zc a135 (by kernel_rfl) rfl (ww ?_)
 obtain⟨t1,ht1,h⟩:=bi h
 refine cN [] (F189_ok ht1) trivial (ww ?_)
 obtain⟨t2,ht2,h⟩:=bi h
 refine cN [] (F190_ok ht2) trivial (ww ?_)
 cases h
 exact eF []
def F125(x0:Probe)(x1:aF)(x2:Bool)(x3:Int):Option (aF):=(F189 x0.bb 1 1000000000000).bind fun t1=>(F190 x3 ((if(1000000000000:Int)<(if x0.bb<(1:Int)then(1:Int)else x0.bb)then(1000000000000:Int)else(if x0.bb<(1:Int)then(1:Int)else x0.bb)))).bind fun t2=>(if x2=XH then(F188 x1.fC).bind fun t4=>(((if x1.Good=XH then XD XH else XD (decide ((if x0.lB<1 then 1 else x0.lB)≤t4)))).bind fun o5=>XD ((⟨t4,0,o5,t2⟩:aF)))else(F188 x1.fg).bind fun t7=>(((if x1.Good=XH then XD (decide (t7<(if x0.fe<1 then 1 else x0.fe)))else XD XG)).bind fun o8=>XD ((⟨0,t7,o8,t2⟩:aF))))
def a125:dG:=⟨54,[(.cell 8 (XD 4))],
 (.seq (.reg [Qg 4 0,
Qg 5 1,
sq 8 (.zbox [dI 0,dI 0,dB XG,dI 0])])
 (.seq (.reg [zl 9 (.mv (.f 188)) [] []])
 (.seq (.regd [Qb 11 2 5,
sd 12 (.load XF (.t 11)) [0],
Qa 13 3,
Qb 14 1 4,
sd 15 (.load XF (.t 14)) [3],
zn 16 (.call 189 [(.t 15),(kI 1),(kI 1000000000000)]) [3,4] [3,4],
zn 17 (.call 190 [(.t 13),(.t 16)]) [2,3,4,5] [2,3,4,5],
sd 18 (.build [dI 0,dI 0,dB XG,dI 0] [(2,1,(.t 12)),(3,1,(.t 17))]) [0,1,2,3,4,5,6],
sq 10 (.zbox [dI 0,dI 0,dB XG,dI 0]),
⟨XF,XF,.store 4 (.t 10) (.t 18),[0,1,2,3,4,5,6,7,8],(.lone [])⟩])
 (.seq (.seq (.reg [Qa 19 2])
 (.cond (.t 19)
 (.seq (.reg [Qa 20 9,
Qb 21 0 5,
Qd 22 21,
sq 23 (.callv (.t 20) [(.t 22)]),
Qb 24 0 10,
su (.store 1 (.t 24) (.t 23))])
 (.seq (.sem (.reg [Qb 25 2 5,
Qd 26 25,
Qa 27 26,
Qs 28 27 XG 0 10,
Qt 29 27 XG 28,
Qs 30 27 XG 2 4,
Qt 31 27 XG 30,
zg 32 27 XG (.max (.t 31) (kI 1)),
zg 33 27 XG (.bin .geq (.t 29) (.t 32)),
Qj 34 27 33,
Qb 35 2 10,
su (.store 1 (.t 35) (.t 34))]))
 (.seq (.reg [Qc 36 4 10,
⟨XF,XF,.store 4 (.t 8) (.t 36),[],(.lone [10])⟩])
 .ret)))
 .skip))
 (.seq (.reg [Qa 37 9,
Qb 38 1 5,
Qd 39 38,
sq 40 (.callv (.t 37) [(.t 39)]),
Qb 41 1 10,
su (.store 1 (.t 41) (.t 40))])
 (.seq (.sem (.reg [Qb 42 2 5,
Qd 43 42,
Qa 44 43,
Qs 45 44 XH 1 10,
Qt 46 44 XH 45,
Qs 47 44 XH 3 4,
Qt 48 44 XH 47,
zg 49 44 XH (.max (.t 48) (kI 1)),
zg 50 44 XH (.bin .lss (.t 46) (.t 49)),
Qi 51 44 50,
Qb 52 2 10,
su (.store 1 (.t 52) (.t 51))]))
 (.seq (.reg [Qc 53 4 10,
⟨XF,XF,.store 4 (.t 8) (.t 53),[],(.lone [10])⟩])
 .ret)))))))⟩
theorem F125_ok{x0 x1 x2 x3 r}(h:F125 x0 x1 x2 x3=XD r):aW XI 125 [.agg (zJ x0),.agg (iK x1),.c (dB x2),.c (dI x3)] [] (bJ [.agg (iK (r))]) []:=by
 rw[F125]at h
 refine zc a125 (by kernel_rfl) rfl (ww ?_)
 obtain⟨t1,ht1,h⟩:=bi h
 refine cN [] (F189_ok ht1) trivial (ww ?_)
 obtain⟨t2,ht2,h⟩:=bi h
 refine cN [] (F190_ok ht2) trivial (ww ?_)
 refine iu (by simp[fE,gO,cH]) (ww ?_)
 refine ct h (fun c3 h=>ww ?_) (fun c3 h=>ww ?_)
 ·obtain⟨t4,ht4,h⟩:=bi h
  refine cN [] (F188_ok ht4) trivial (ww ?_)
  obtain⟨o5,ho,h⟩:=bi h
  refine bD (fun s=>s=⟨[(8,Pz 0),(10,Pz 1)],[xb [dI 0,dI 0,dB XG,dI 0],xb [dI t4,dI 0,dB o5,dI t2]]⟩) ?_ ?_
  ·have h:=ho
   refine ww ?_
   refine dK h (fun g6 h=>ww ?_) (fun g6 h=>ww ?_)
   ·cases h
    exact eM [XD 2,XD 3] rfl
   cases h
   exact eM [XD 2,XD 3] rfl
  rintro _ rfl
  refine ww ?_
  cases h
  exact eF []
 obtain⟨t7,ht7,h⟩:=bi h
 refine cN [] (F188_ok ht7) trivial (ww ?_)
 obtain⟨o8,ho,h⟩:=bi h
 refine bD (fun s=>s=⟨[(8,Pz 0),(10,Pz 1)],[xb [dI 0,dI 0,dB XG,dI 0],xb [dI 0,dI t7,dB o8,dI t2]]⟩) ?_ ?_
 ·have h:=ho
  refine ww ?_
  refine dK h (fun g9 h=>ww ?_) (fun g9 h=>ww ?_)
  ·cases h
   exact eM [XD 2,XD 3] rfl
  cases h
  exact eM [XD 2,XD 3] rfl
 rintro _ rfl
 refine ww ?_
 cases h
 exact eF []
def F82(x0:(List aw))(x1:ByteArray)(x2:Int)(x3:Int):Option ((List aw)):=(gw x0).bind fun t1=>(F129v1 t1 x1).bind fun t2=>(((if 0≤t2 then(cI t1 t2).bind fun y5=>XD (decide (y5.aV=x1))else XD XG)).bind fun o3=>(if o3=XH then(cI t1 t2).bind fun y7=>XD ((t1.set t2.toNat ((⟨x1,(if 1000000000000000<(if x2<0 then 0 else x2)then 1000000000000000 else(if x2<0 then 0 else x2)),(if(if 1000000000000<(if x3<0 then 0 else x3)then 1000000000000 else(if x3<0 then 0 else x3))<y7.ik then y7.ik else(if 1000000000000<(if x3<0 then 0 else x3)then 1000000000000 else(if x3<0 then 0 else x3)))⟩:aw))))else(if 64≤(t1.length:Int)then XD t1 else(if t2<0 then(jz t1 ([(⟨x1,(if 1000000000000000<(if x2<0 then 0 else x2)then 1000000000000000 else(if x2<0 then 0 else x2)),(if 1000000000000<(if x3<0 then 0 else x3)then 1000000000000 else(if x3<0 then 0 else x3))⟩:aw)])).bind fun a10=>XD a10 else(lL t1 t2 ((⟨x1,(if 1000000000000000<(if x2<0 then 0 else x2)then 1000000000000000 else(if x2<0 then 0 else x2)),(if 1000000000000<(if x3<0 then 0 else x3)then 1000000000000 else(if x3<0 then 0 else x3))⟩:aw))).bind fun t11=>XD t11))))
def a82:dG:=⟨67,[(.tmp 8)],
 (.seq (.reg [Qg 5 1,
sq 8 (.mv kN)])
 (.seq (.reg [Qa 12 0,
Qk 13 29 12,
Qa 9 13])
 (.seq (.reg [Qd 14 5,
Qa 15 2,
sq 16 (.max (.t 15) (kI 0)),
sq 17 (.min (.t 16) (kI 1000000000000000)),
Qa 18 3,
sq 19 (.max (.t 18) (kI 0)),
sq 20 (.min (.t 19) (kI 1000000000000)),
sq 21 (.build [dS ⟨#[]⟩,dI 0,dI 0] [(0,1,(.t 14)),(1,1,(.t 17)),(2,1,(.t 20))]),
sq 10 (.zbox [dS ⟨#[]⟩,dI 0,dI 0]),
su (.store 3 (.t 10) (.t 21))])
 (.seq (.reg [Qa 22 9,
sq 23 (.fn 130 [(.t 5)]),
Ql 24 129 22 23,
Qa 11 24])
 (.seq (.block 0 (.seq (.sem (.regd [Qa 31 11,
sd 32 (.bin .geq (.t 31) (kI 0)) [0],
sd 33 (.mv (.t 32)) [0,1],
⟨(XD 34),(XD (33,XH)),.mv (.t 9),[0,1,2],(.new [])⟩,
⟨(XD 35),(XD (33,XH)),.mv (.t 11),[0,1,2],(.new [])⟩,
⟨(XD 36),(XD (33,XH)),.indexA 3 (.t 34) (.t 35),[0,1,2,3,4],(.new [])⟩,
⟨(XD 37),(XD (33,XH)),.fieldA 0 (.t 36),[0,1,2,3,4,5],(.new [])⟩,
⟨(XD 38),(XD (33,XH)),.load XF (.t 37),[0,1,2,3,4,5,6],(.new [])⟩,
⟨(XD 39),(XD (33,XH)),.load XF (.t 5),[0,1,2],(.new [])⟩,
⟨(XD 40),(XD (33,XH)),.bin .eql (.t 38) (.t 39),[0,1,2,3,4,5,6,7,8],(.new [])⟩,
zl 41 (.pick (.t 33) (.t 40) (kB XG)) [0,1,2,3,4,5,6,7,8,9] [],
sd 30 (.mv (.t 41)) [0,1,2,3,4,5,6,7,8,9,10]]))
 (.cond (.t 30)
 (.seq (.regd [Qb 42 2 10,
sd 43 (.load XF (.t 42)) [0],
Qa 44 9,
Qa 45 11,
sd 46 (.indexA 3 (.t 44) (.t 45)) [2,3],
sd 47 (.fieldA 2 (.t 46)) [2,3,4],
sd 48 (.load XF (.t 47)) [2,3,4,5],
sd 49 (.max (.t 43) (.t 48)) [0,1,2,3,4,5,6],
sd 50 (.fieldA 2 (.t 10)) [0,1,2,3,4,5,6,7],
⟨XF,XF,.store 1 (.t 50) (.t 49),[0,1,2,3,4,5,6,7,8],(.lone [])⟩])
 (.reg [Qa 51 9,
Qa 52 11,
Qc 53 3 10,
Qp 54 3 51 52,
⟨XF,XF,.store 3 (.t 54) (.t 53),[],(.lone [10,51])⟩]))
 (.seq (.reg [Qa 56 9,
Qh 57 56,
sq 58 (.bin .geq (.t 57) (kI 64)),
Qa 55 58])
 (.cond (.t 55)
 .skip
 (.seq (.reg [Qa 60 11,
sq 61 (.bin .lss (.t 60) (kI 0)),
Qa 59 61])
 (.cond (.t 59)
 (.reg [Qa 62 9,
Qc 63 3 10,
sq 64 (.bslice 3 [(.t 63)]),
sq 65 (.app 3 32 (.t 62) (.t 64)),
Qa 9 65])
 (.reg [Qa 25 9,
Qa 26 11,
Qc 27 3 10,
sq 28 (.bslice 3 [(.t 27)]),
sq 29 (.call 131 [(.t 25),(.t 26),(.t 28)]),
Qa 9 29]))))))))
 (.seq (.reg [Qa 66 9,
Qa 8 66])
 .ret))))))⟩
theorem F82_ok{x0 x1 x2 x3 r}(h:F82 x0 x1 x2 x3=XD r):aW XI 82 [.c (dM (x0.map aR)),.c (dS x1),.c (dI x2),.c (dI x3)] [] (bJ [.c (ow 0 0 r)]) [ba 0 r]:=by
 rw[F82]at h
 refine zc a82 (by kernel_rfl) rfl (ww ?_)
 obtain⟨t1,ht1,h⟩:=bi h
 refine cN [] (F29_ok ht1) trivial (ww ?_)
 obtain⟨t2,ht2,h⟩:=bi h
 refine cN [1,0] (F129v1_ok (e0:=1) ht2) ⟨⟨rfl,trivial⟩,⟨⟨(by first|rfl|(simp only[List.length_set];rfl)),by simp[bw.live,C.live,hp]⟩,trivial⟩⟩ ?_
 refine ww ?_
 obtain⟨o3,ho,h⟩:=bi h
 refine bD (fun s=>s=⟨[(9,oc (ow 0 0 t1)),(10,Pz 1),(11,oI t2),(30,oB o3)],[ba 0 t1,xb [dS x1,dI ((if 1000000000000000<(if x2<0 then 0 else x2)then 1000000000000000 else(if x2<0 then 0 else x2))),dI ((if 1000000000000<(if x3<0 then 0 else x3)then 1000000000000 else(if x3<0 then 0 else x3)))]]⟩) ?_ ?_
 ·have h:=ho
  refine ww ?_
  refine ib h (fun g4 h=>ww ?_) (fun g4 h=>ww ?_)
  ·obtain⟨y5,hy5,h⟩:=bi h
   refine tO (enc:=aR) (xs:=t1) rfl rfl rfl hy5 (ww ?_)
   refine cD.rd (aQ hy5).2.1 (ww ?_)
   cases h
   have qx:=q1 (bc hy5)
   exact fI [XD 1,XD 2] rfl
  cases h
  exact eM [XD 1,XD 2] rfl
 rintro _ rfl
 refine ww ?_
 refine ct h (fun c6 h=>ww ?_) (fun c6 h=>ww ?_)
 ·obtain⟨y7,hy7,h⟩:=bi h
  refine tO (enc:=aR) (xs:=t1) rfl rfl rfl hy7 (ww ?_)
  refine cD.rd (aQ hy7).2.1 (ww ?_)
  have qx:=q1 (bc hy7)
  refine lV (enc:=aR) (xs:=t1) rfl rfl rfl hy7 (ww ?_)
  refine eu.rd (y':=(⟨x1,(if 1000000000000000<(if x2<0 then 0 else x2)then 1000000000000000 else(if x2<0 then 0 else x2)),(if(if 1000000000000<(if x3<0 then 0 else x3)then 1000000000000 else(if x3<0 then 0 else x3))<y7.ik then y7.ik else(if 1000000000000<(if x3<0 then 0 else x3)then 1000000000000 else(if x3<0 then 0 else x3)))⟩:aw)) (aQ hy7).2.1 (by simp[EE.down]) (by first|rfl|(simp only[b5];rfl)) (ww ?_)
  cases h
  have qx:=q1 (bc hy7)
  exact tg [XD 0]
 refine bG h (fun c8 h=>ww ?_) (fun c8 h=>ww ?_)
 ·cases h
  exact eF [XD 0]
 refine bG h (fun c9 h=>ww ?_) (fun c9 h=>ww ?_)
 ·refine tB (enc:=aR) (ys:=[(⟨x1,(if 1000000000000000<(if x2<0 then 0 else x2)then 1000000000000000 else(if x2<0 then 0 else x2)),(if 1000000000000<(if x3<0 then 0 else x3)then 1000000000000 else(if x3<0 then 0 else x3))⟩:aw)]) rfl rfl (ww ?_)
  obtain⟨a10,ha10,h⟩:=bi h
  refine tA (enc:=aR) (xs:=t1) rfl rfl rfl ha10 (ww ?_)
  cases h
  exact eF [XD 0]
 refine tB (enc:=aR) (ys:=[(⟨x1,(if 1000000000000000<(if x2<0 then 0 else x2)then 1000000000000000 else(if x2<0 then 0 else x2)),(if 1000000000000<(if x3<0 then 0 else x3)then 1000000000000 else(if x3<0 then 0 else x3))⟩:aw)]) rfl rfl (ww ?_)
 obtain⟨t11,ht11,h⟩:=bi h
 refine cN [0,2] (F131_ok (e0:=0) (e1:=0) ht11) ⟨⟨rfl,trivial⟩,⟨⟨rfl,trivial⟩,trivial⟩⟩ ?_
 refine ww ?_
 cases h
 exact eF [XD 0]
def F19_l2:List aw→Nat→Int→Option (Int)
 |[],o2_1,o2_0=>XD o2_0
 |xo2::xs,o2_1,o2_0=>(F35 xo2.dW).bind fun t4=>(F35 ((XC.wrap (o2_0+((if 1000000000000000<(if xo2.dW<0 then 0 else xo2.dW)then 1000000000000000 else(if xo2.dW<0 then 0 else xo2.dW))))))).bind fun t5=>F19_l2 xs (o2_1+1) ((if 1000000000000000<(if((XC.wrap (o2_0+((if 1000000000000000<(if xo2.dW<0 then 0 else xo2.dW)then 1000000000000000 else(if xo2.dW<0 then 0 else xo2.dW))))))<0 then 0 else((XC.wrap (o2_0+((if 1000000000000000<(if xo2.dW<0 then 0 else xo2.dW)then 1000000000000000 else(if xo2.dW<0 then 0 else xo2.dW)))))))then 1000000000000000 else(if((XC.wrap (o2_0+((if 1000000000000000<(if xo2.dW<0 then 0 else xo2.dW)then 1000000000000000 else(if xo2.dW<0 then 0 else xo2.dW))))))<0 then 0 else((XC.wrap (o2_0+((if 1000000000000000<(if xo2.dW<0 then 0 else xo2.dW)then 1000000000000000 else(if xo2.dW<0 then 0 else xo2.dW)))))))))
def F19_l10:List af→Nat→Bool→Bool→(List an)→Option (Bool×Bool×(List an))
 |[],o10_3,o10_0,o10_1,o10_2=>XD ((o10_0,o10_1,o10_2))
 |xo10::xs,o10_3,o10_0,o10_1,o10_2=>(jz o10_2 ([xo10.an])).bind fun a12=>F19_l10 xs (o10_3+1) o10_0 o10_1 a12
def F19(x0:ah):Option (Bool×Bool×(List aw)×(List an)):=(F37 x0).bind fun t1=>(((ck (0≤t1.2.length∧t1.2.length≤4294967290)).bind fun u6=>F19_l2 t1.2 0 0).bind fun o2=>(F35 x0.bW).bind fun t7=>(F35 x0.Node.aJ.aG).bind fun t8=>(F35 x0.bO).bind fun t9=>(((ck (0≤t1.1.length∧t1.1.length≤4294967290)).bind fun u13=>F19_l10 t1.1 0 (decide ((XC.wrap (90*((if 1000000000000000<(if x0.Node.aJ.aG<0 then 0 else x0.Node.aJ.aG)then 1000000000000000 else(if x0.Node.aJ.aG<0 then 0 else x0.Node.aJ.aG)))))<(XC.wrap (100*((if 1000000000000000<(if x0.bW<0 then 0 else x0.bW)then 1000000000000000 else(if x0.bW<0 then 0 else x0.bW))))))) (decide ((XC.wrap (90*((if 1000000000000000<(if x0.bO<0 then 0 else x0.bO)then 1000000000000000 else(if x0.bO<0 then 0 else x0.bO)))))<(XC.wrap (100*o2)))) ([])).bind fun o10=>XD ((o10.1,o10.2.1,t1.2,o10.2.2))))
def a19:dG:=⟨92,[(.cell 2 (XD 24)),(.tmp 3)],
 (.seq (.reg [Qg 1 0,
sq 2 (.zbox MV),
sq 3 (.mv kN)])
 (.seq (.reg [Qc 12 30 1,
Qk 13 37 12,
Qa 4 13])
 (.seq (.reg [Qa 14 4,
Qb 15 0 14,
Qb 16 0 15,
Qb 17 0 16,
Qc 18 24 17,
sq 5 (.zbox MV),
su (.store 24 (.t 5) (.t 18))])
 (.seq (.regd [Qa 19 4,
sd 20 (.fieldA 0 (.t 19)) [0],
sd 21 (.fieldA 0 (.t 20)) [0,1],
sd 22 (.fieldA 24 (.t 21)) [0,1,2],
sd 23 (.load XF (.t 22)) [0,1,2,3],
Qa 24 4,
sd 25 (.fieldA 0 (.t 24)) [5],
sd 26 (.fieldA 0 (.t 25)) [5,6],
sd 27 (.fieldA 26 (.t 26)) [5,6,7],
sd 28 (.load XF (.t 27)) [5,6,7,8],
Qb 29 19 5,
⟨XF,XF,.store 1 (.t 29) (kB XH),[10],(.lone [19,20,21,22,24,25,26,27])⟩,
sd 30 (.fieldA 20 (.t 5)) [0,1,2,3,4,10,11],
⟨XF,XF,.store 1 (.t 30) (.t 23),[0,1,2,3,4,10,11,12],(.lone [24,25,26,27])⟩,
sd 31 (.fieldA 23 (.t 5)) [0,1,2,3,4,5,6,7,8,9,10,11,12,13],
⟨XF,XF,.store 1 (.t 31) (.t 28),[0,1,2,3,4,5,6,7,8,9,10,11,12,13,14],(.lone [])⟩])
 (.seq (.reg [Qe 6 0])
 (.seq (.seq (.reg [Qa 32 4,
Qb 33 0 32,
Qb 34 0 33,
Qb 35 26 34,
Qd 36 35,
Qh 37 36,
Qe 38 0])
 (.sem (.block 0 (.loop (.seq (.reg [Qn 39 38 37])
 (.seq (.cond (.t 39)
 .skip
 (.exit 0))
 (.seq (.block 1 (.seq (.reg [Qp 40 3 36 38,
Qc 41 3 40,
sq 8 (.zbox [dS ⟨#[]⟩,dI 0,dI 0]),
su (.store 3 (.t 8) (.t 41))])
 (.reg [Qa 42 6,
Qb 43 1 8,
Qd 44 43,
Qk 45 35 44,
sq 46 (.bin .add (.t 42) (.t 45)),
Qk 47 35 46,
Qa 6 47])))
 (.reg [Qm 48 38 1,
Qa 38 48]))))))))
 (.seq (.regd [Qa 49 4,
sd 50 (.fieldA 0 (.t 49)) [0],
sd 51 (.fieldA 0 (.t 50)) [0,1],
sd 52 (.fieldA 27 (.t 51)) [0,1,2],
sd 53 (.load XF (.t 52)) [0,1,2,3],
zn 54 (.call 35 [(.t 53)]) [0,1,2,3,4] [0,1,2,3,4],
sd 55 (.bin .mul (kI 100) (.t 54)) [0,1,2,3,4,5],
Qb 56 13 5,
sd 57 (.fieldA 1 (.t 56)) [7],
sd 58 (.load XF (.t 57)) [7,8],
zl 59 (.call 35 [(.t 58)]) [0,1,2,3,4,5,7,8,9] [],
sd 60 (.bin .mul (kI 90) (.t 59)) [0,1,2,3,4,5,7,8,9,10],
sd 61 (.bin .gtr (.t 55) (.t 60)) [0,1,2,3,4,5,6,7,8,9,10,11],
sd 62 (.fieldA 21 (.t 5)) [0,1,2,3,4,5,6,7,8,9,10,11,12],
⟨XF,XF,.store 1 (.t 62) (.t 61),[0,1,2,3,4,5,6,7,8,9,10,11,12,13],(.lone [])⟩])
 (.seq (.reg [Qa 63 6,
sq 64 (.bin .mul (kI 100) (.t 63)),
Qa 65 4,
Qb 66 0 65,
Qb 67 0 66,
Qb 68 28 67,
Qd 69 68,
Qk 70 35 69,
sq 71 (.bin .mul (kI 90) (.t 70)),
sq 72 (.bin .gtr (.t 64) (.t 71)),
Qb 73 22 5,
su (.store 1 (.t 73) (.t 72))])
 (.seq (.reg [sq 9 (.mv kN)])
 (.seq (.seq (.reg [Qa 74 4,
Qb 75 0 74,
Qb 76 0 75,
Qb 77 25 76,
Qd 78 77,
Qh 79 78,
Qe 80 0])
 (.sem (.block 2 (.loop (.seq (.reg [Qn 81 80 79])
 (.seq (.cond (.t 81)
 .skip
 (.exit 2))
 (.seq (.block 3 (.seq (.reg [Qp 82 36 78 80,
Qc 83 36 82,
sq 11 (.zbox Fk),
su (.store 36 (.t 11) (.t 83))])
 (.reg [Qa 84 9,
Qb 85 0 11,
Qc 86 32 85,
sq 87 (.bslice 32 [(.t 86)]),
sq 88 (.app 32 480 (.t 84) (.t 87)),
Qa 9 88])))
 (.reg [Qm 89 80 1,
Qa 80 89]))))))))
 (.seq (.reg [Qc 90 24 5,
Qa 91 9,
su (.store 24 (.t 2) (.t 90)),
Qa 3 91])
 .ret)))))))))))⟩
theorem F19_ok{x0 r}(h:F19 x0=XD r):aW XI 19 [.agg (dy x0)] [] (bJ [.agg [dS x0.Node.ak.bY,dS x0.Node.ak.bE,dS x0.Node.ak.aV,dI x0.Node.ak.jH,dI x0.Node.ak.cE,dI x0.Node.ak.bA,dI x0.Node.ak.cF,dB x0.Node.ak.bP,dI x0.Node.ak.bz,dM (x0.Node.ak.cS.map cR),dM (x0.Node.ak.cZ.map cP),dM (x0.Node.ak.bB.map eS),dM (x0.Node.ak.b9.map bU),dI x0.Node.aJ.de,dI x0.Node.aJ.aG,dI x0.Node.aJ.bF,dI x0.Node.cJ,dB x0.Node.cY,dM (x0.Node.dQ.map dP),dB XH,dI x0.cl,dB r.1,dB r.2.1,ow 0 0 r.2.2.1],.c (ow 1 0 r.2.2.2)]) [ba 0 r.2.2.1,xD 0 r.2.2.2]:=by
 rw[F19]at h
 refine zc a19 (by kernel_rfl) rfl (ww ?_)
 obtain⟨t1,ht1,h⟩:=bi h
 refine cN [] (F37_ok ht1) trivial (ww ?_)
 obtain⟨o2,ho,h⟩:=bi h
 refine bD (fun s=>s=⟨[(2,Pz 0),(4,Pz 1),(5,Pz 4),(6,oI o2)],[xb L7,xb (gW x0 (ow 2 0 t1.1) (ow 3 0 t1.2)),fj 0 t1.1,ba 0 t1.2,xb [dS x0.Node.ak.bY,dS x0.Node.ak.bE,dS x0.Node.ak.aV,dI x0.Node.ak.jH,dI x0.Node.ak.cE,dI x0.Node.ak.bA,dI x0.Node.ak.cF,dB x0.Node.ak.bP,dI x0.Node.ak.bz,dM (x0.Node.ak.cS.map cR),dM (x0.Node.ak.cZ.map cP),dM (x0.Node.ak.bB.map eS),dM (x0.Node.ak.b9.map bU),dI x0.Node.aJ.de,dI x0.Node.aJ.aG,dI x0.Node.aJ.bF,dI x0.Node.cJ,dB x0.Node.cY,dM (x0.Node.dQ.map dP),dB XH,dI x0.cl,dB x0.Node.fa,dB x0.Node.dU,ow 3 0 t1.2]]⟩) ?_ ?_
 ·have h:=ho
  obtain⟨_,hk,h⟩:=bi h
  have hk:=cr hk
  refine ww ?_
  refine bL (fun j s=>∃(o2_1:Nat) (o2_0:Int),(o2_1≤t1.2.length∧j=t1.2.length-o2_1)∧s=⟨[(2,Pz 0),(4,Pz 1),(5,Pz 4),(6,oI o2_0),(36,oc (ow 3 0 t1.2)),(37,oI (t1.2.length:Int)),(38,oI (o2_1:Int))],[xb L7,xb (gW x0 (ow 2 0 t1.1) (ow 3 0 t1.2)),fj 0 t1.1,ba 0 t1.2,xb [dS x0.Node.ak.bY,dS x0.Node.ak.bE,dS x0.Node.ak.aV,dI x0.Node.ak.jH,dI x0.Node.ak.cE,dI x0.Node.ak.bA,dI x0.Node.ak.cF,dB x0.Node.ak.bP,dI x0.Node.ak.bz,dM (x0.Node.ak.cS.map cR),dM (x0.Node.ak.cZ.map cP),dM (x0.Node.ak.bB.map eS),dM (x0.Node.ak.b9.map bU),dI x0.Node.aJ.de,dI x0.Node.aJ.aG,dI x0.Node.aJ.bF,dI x0.Node.cJ,dB x0.Node.cY,dM (x0.Node.dQ.map dP),dB XH,dI x0.cl,dB x0.Node.fa,dB x0.Node.dU,ow 3 0 t1.2]]⟩∧F19_l2 (t1.2.drop o2_1) o2_1 o2_0=XD o2) (t1.2.length-0) [XD 1,XD 2,XD 3,XD 4,XD 5] ⟨0,0,⟨hk.1,rfl⟩,rfl,h⟩ ?_
  rintro _ _ ⟨o2_1,o2_0,⟨hi,rfl⟩,rfl,h⟩
  refine ww ?_
  refine dq (fun c3=>?_) (fun c3=>?_)
  ·obtain⟨xo2,hxo2,hd⟩:=cW (show(o2_1:Int)<(t1.2.length:Int)from c3)
   rw[hd,F19_l2]at h
   refine ww ?_
   refine tO (enc:=aR) (xs:=t1.2) rfl rfl rfl hxo2 (ww ?_)
   refine cD.rd (aQ hxo2).2.1 (ww ?_)
   obtain⟨t4,ht4,h⟩:=bi h
   have qx:=q1 (cb hxo2)
   refine cQ [] (F35_ok ht4) (ww ?_)
   obtain⟨t5,ht5,h⟩:=bi h
   have qx:=q1 (cb hxo2)
   refine cQ [] (F35_ok ht5) (ww ?_)
   rw[cL (by omega)]
   have qx:=q1 (cb hxo2)
   exact iI (t1.2.length-(o2_1+1)) i5 ⟨o2_1+1,(if 1000000000000000<(if((XC.wrap (o2_0+((if 1000000000000000<(if xo2.dW<0 then 0 else xo2.dW)then 1000000000000000 else(if xo2.dW<0 then 0 else xo2.dW))))))<0 then 0 else((XC.wrap (o2_0+((if 1000000000000000<(if xo2.dW<0 then 0 else xo2.dW)then 1000000000000000 else(if xo2.dW<0 then 0 else xo2.dW)))))))then 1000000000000000 else(if((XC.wrap (o2_0+((if 1000000000000000<(if xo2.dW<0 then 0 else xo2.dW)then 1000000000000000 else(if xo2.dW<0 then 0 else xo2.dW))))))<0 then 0 else((XC.wrap (o2_0+((if 1000000000000000<(if xo2.dW<0 then 0 else xo2.dW)then 1000000000000000 else(if xo2.dW<0 then 0 else xo2.dW)))))))),⟨by omega,rfl⟩,rfl,h⟩ (by omega)
  rw[cX (show¬((o2_1:Int)<(t1.2.length:Int))from c3),F19_l2]at h
  refine ww ?_
  cases h
  exact eM i5 rfl
 rintro _ rfl
 refine ww ?_
 obtain⟨t7,ht7,h⟩:=bi h
 refine cN [] (F35_ok ht7) trivial (ww ?_)
 obtain⟨t8,ht8,h⟩:=bi h
 refine cN [] (F35_ok ht8) trivial (ww ?_)
 obtain⟨t9,ht9,h⟩:=bi h
 refine cN [] (F35_ok ht9) trivial (ww ?_)
 obtain⟨o10,ho,h⟩:=bi h
 refine bD (fun s=>s=⟨[(2,Pz 0),(5,Pz 1),(9,oc (ow 3 0 o10.2.2))],[xb L7,xb [dS x0.Node.ak.bY,dS x0.Node.ak.bE,dS x0.Node.ak.aV,dI x0.Node.ak.jH,dI x0.Node.ak.cE,dI x0.Node.ak.bA,dI x0.Node.ak.cF,dB x0.Node.ak.bP,dI x0.Node.ak.bz,dM (x0.Node.ak.cS.map cR),dM (x0.Node.ak.cZ.map cP),dM (x0.Node.ak.bB.map eS),dM (x0.Node.ak.b9.map bU),dI x0.Node.aJ.de,dI x0.Node.aJ.aG,dI x0.Node.aJ.bF,dI x0.Node.cJ,dB x0.Node.cY,dM (x0.Node.dQ.map dP),dB XH,dI x0.cl,dB o10.1,dB o10.2.1,ow 2 0 t1.2],ba 0 t1.2,xD 0 o10.2.2]⟩) ?_ ?_
 ·have h:=ho
  obtain⟨_,hk,h⟩:=bi h
  have hk:=cr hk
  refine ww ?_
  refine bL (fun j s=>∃(o10_3:Nat) (o10_0:Bool) (o10_1:Bool) (o10_2:List an),(o10_3≤t1.1.length∧j=t1.1.length-o10_3)∧s=⟨[(2,Pz 0),(5,Pz 1),(9,oc (ow 3 0 o10_2)),(78,oc (ow 4 0 t1.1)),(79,oI (t1.1.length:Int)),(80,oI (o10_3:Int))],[xb L7,xb [dS x0.Node.ak.bY,dS x0.Node.ak.bE,dS x0.Node.ak.aV,dI x0.Node.ak.jH,dI x0.Node.ak.cE,dI x0.Node.ak.bA,dI x0.Node.ak.cF,dB x0.Node.ak.bP,dI x0.Node.ak.bz,dM (x0.Node.ak.cS.map cR),dM (x0.Node.ak.cZ.map cP),dM (x0.Node.ak.bB.map eS),dM (x0.Node.ak.b9.map bU),dI x0.Node.aJ.de,dI x0.Node.aJ.aG,dI x0.Node.aJ.bF,dI x0.Node.cJ,dB x0.Node.cY,dM (x0.Node.dQ.map dP),dB XH,dI x0.cl,dB o10_0,dB o10_1,ow 2 0 t1.2],ba 0 t1.2,xD 0 o10_2,fj 0 t1.1]⟩∧F19_l10 (t1.1.drop o10_3) o10_3 o10_0 o10_1 o10_2=XD o10) (t1.1.length-0) [XD 0,XD 4,XD 3,XF,XD 2] ⟨0,decide ((XC.wrap (90*((if 1000000000000000<(if x0.Node.aJ.aG<0 then 0 else x0.Node.aJ.aG)then 1000000000000000 else(if x0.Node.aJ.aG<0 then 0 else x0.Node.aJ.aG)))))<(XC.wrap (100*((if 1000000000000000<(if x0.bW<0 then 0 else x0.bW)then 1000000000000000 else(if x0.bW<0 then 0 else x0.bW)))))),decide ((XC.wrap (90*((if 1000000000000000<(if x0.bO<0 then 0 else x0.bO)then 1000000000000000 else(if x0.bO<0 then 0 else x0.bO)))))<(XC.wrap (100*o2))),[],⟨hk.1,rfl⟩,rfl,h⟩ ?_
  rintro _ _ ⟨o10_3,o10_0,o10_1,o10_2,⟨hi,rfl⟩,rfl,h⟩
  refine ww ?_
  refine dq (fun c11=>?_) (fun c11=>?_)
  ·obtain⟨xo10,hxo10,hd⟩:=cW (show(o10_3:Int)<(t1.1.length:Int)from c11)
   rw[hd,F19_l10]at h
   refine ww ?_
   refine tO (enc:=bT) (xs:=t1.1) rfl rfl rfl hxo10 (ww ?_)
   refine cD.rd (aQ hxo10).2.1 (ww ?_)
   refine tB (enc:=wu) (ys:=[xo10.an]) rfl rfl (ww ?_)
   obtain⟨a12,ha12,h⟩:=bi h
   have qx:=q1 (cb hxo10)
   refine Me (enc:=wu) (xs:=o10_2) rfl rfl rfl ha12 (ww ?_)
   rw[cL (by omega)]
   have qx:=q1 (cb hxo10)
   exact iI (t1.1.length-(o10_3+1)) i5 ⟨o10_3+1,o10_0,o10_1,a12,⟨by omega,rfl⟩,rfl,h⟩ (by omega)
  rw[cX (show¬((o10_3:Int)<(t1.1.length:Int))from c11),F19_l10]at h
  refine ww ?_
  cases h
  exact eM i4 rfl
 rintro _ rfl
 refine ww ?_
 cases h
 exact eF [XD 2,XD 3]
def F87(x0:(List ag)):Option (Bool):=(F136 x0).bind fun t1=>XD (decide (0≤t1))
def a87:dG:=⟨9,[(.tmp 4)],
 (.seq (.reg [Qf 4 XG])
 (.seq (.reg [Qa 5 0,
Qa 6 1,
Ql 7 136 5 6,
sq 8 (.bin .geq (.t 7) (kI 0)),
Qa 4 8])
 .ret))⟩
theorem F87_ok{x0 r}(h:F87 x0=XD r):aW XI 87 [.c (dM (x0.map aC)),.c (.fn 88 [])] [] (bJ [.c (dB r)]) []:=by
 rw[F87]at h
 refine zc a87 (by kernel_rfl) rfl (ww ?_)
 obtain⟨t1,ht1,h⟩:=bi h
 refine cN [] (F136_ok ht1) trivial (ww ?_)
 cases h
 exact eF []
def F181v1(x0:aD)(x1:aD):Option (aD):=(F183 x0.de).bind fun t1=>(F183 x1.de).bind fun t2=>(F182 ((if 1000000000000000<(if x0.de<0 then 0 else x0.de)then 1000000000000000 else(if x0.de<0 then 0 else x0.de))) ((if 1000000000000000<(if x1.de<0 then 0 else x1.de)then 1000000000000000 else(if x1.de<0 then 0 else x1.de)))).bind fun t3=>(F183 x0.aG).bind fun t4=>(F183 x1.aG).bind fun t5=>(F182 ((if 1000000000000000<(if x0.aG<0 then 0 else x0.aG)then 1000000000000000 else(if x0.aG<0 then 0 else x0.aG))) ((if 1000000000000000<(if x1.aG<0 then 0 else x1.aG)then 1000000000000000 else(if x1.aG<0 then 0 else x1.aG)))).bind fun t6=>(F183 x0.bF).bind fun t7=>(F183 x1.bF).bind fun t8=>(F182 ((if 1000000000000000<(if x0.bF<0 then 0 else x0.bF)then 1000000000000000 else(if x0.bF<0 then 0 else x0.bF))) ((if 1000000000000000<(if x1.bF<0 then 0 else x1.bF)then 1000000000000000 else(if x1.bF<0 then 0 else x1.bF)))).bind fun t9=>XD ((⟨t3,t6,t9⟩:aD))
def a181v1:dG:=⟨32,[(.cell 6 (XD 3))],
 (.seq (.reg [Qg 3 0,
Qg 4 1,
sq 6 (.zbox [dI 0,dI 0,dI 0])])
 (.seq (.regd [Qa 7 2,
Qb 8 0 3,
sd 9 (.load XF (.t 8)) [1],
zn 10 (.call 183 [(.t 9)]) [1,2] [1,2],
Qb 11 0 4,
sd 12 (.load XF (.t 11)) [4],
zn 13 (.call 183 [(.t 12)]) [1,2,3,4,5] [1,2,3,4,5],
zn 14 (.callv (.t 7) [(.t 10),(.t 13)]) [0,1,2,3,4,5,6] [0,1,2,3,4,5,6],
Qa 15 2,
Qb 16 1 3,
sd 17 (.load XF (.t 16)) [9],
zn 18 (.call 183 [(.t 17)]) [0,1,2,3,4,5,6,7,9,10] [0,1,2,3,4,5,6,7,9,10],
Qb 19 1 4,
sd 20 (.load XF (.t 19)) [12],
zn 21 (.call 183 [(.t 20)]) [0,1,2,3,4,5,6,7,9,10,11,12,13] [0,1,2,3,4,5,6,7,9,10,11,12,13],
zn 22 (.callv (.t 15) [(.t 18),(.t 21)]) [0,1,2,3,4,5,6,7,8,9,10,11,12,13,14] [0,1,2,3,4,5,6,7,8,9,10,11,12,13,14],
Qa 23 2,
Qb 24 2 3,
sd 25 (.load XF (.t 24)) [17],
zn 26 (.call 183 [(.t 25)]) [0,1,2,3,4,5,6,7,8,9,10,11,12,13,14,15,17,18] [0,1,2,3,4,5,6,7,8,9,10,11,12,13,14,15,17,18],
Qb 27 2 4,
sd 28 (.load XF (.t 27)) [20],
zl 29 (.call 183 [(.t 28)]) [0,1,2,3,4,5,6,7,8,9,10,11,12,13,14,15,17,18,19,20,21] [],
zl 30 (.callv (.t 23) [(.t 26),(.t 29)]) [0,1,2,3,4,5,6,7,8,9,10,11,12,13,14,15,16,17,18,19,20,21,22] [],
zl 31 (.build [dI 0,dI 0,dI 0] [(0,1,(.t 14)),(1,1,(.t 22)),(2,1,(.t 30))]) [0,1,2,3,4,5,6,7,8,9,10,11,12,13,14,15,16,17,18,19,20,21,22,23] [],
⟨XF,XF,.store 3 (.t 6) (.t 31),[0,1,2,3,4,5,6,7,8,9,10,11,12,13,14,15,16,17,18,19,20,21,22,23,24],(.lone [])⟩])
 .ret))⟩
theorem a181v1_ok:nv XI 181=XD a181v1.er:=by kernel_rfl
theorem F181v1_ok{x0 x1 r}(h:F181v1 x0 x1=XD r):aW XI 181 [.agg (b6 x0),.agg (b6 x1),.c (.fn 182 [])] [] (bJ [.agg (b6 (r))]) []:=by
 refine pF a181v1_ok (by simp[a181v1]) ?_
 rw[F181v1]at h
 simp only[a181v1,VW.down,Nat.reduceEqDiff,reduceCtorEq,Nat.reduceAdd,Nat.reduceLeDiff,Nat.reduceLT,Nat.reduceBEq,Nat.reduceSub,EE.down]
 obtain⟨t1,ht1,h⟩:=bi h
 refine cN [] (F183_ok ht1) trivial (ww ?_)
 obtain⟨t2,ht2,h⟩:=bi h
 refine cN [] (F183_ok ht2) trivial (ww ?_)
 obtain⟨t3,ht3,h⟩:=bi h
 refine cN [] (F182_ok ht3) trivial (ww ?_)
 obtain⟨t4,ht4,h⟩:=bi h
 refine cN [] (F183_ok ht4) trivial (ww ?_)
 obtain⟨t5,ht5,h⟩:=bi h
 refine cN [] (F183_ok ht5) trivial (ww ?_)
 obtain⟨t6,ht6,h⟩:=bi h
 refine cN [] (F182_ok ht6) trivial (ww ?_)
 obtain⟨t7,ht7,h⟩:=bi h
 refine cN [] (F183_ok ht7) trivial (ww ?_)
 obtain⟨t8,ht8,h⟩:=bi h
 refine cN [] (F183_ok ht8) trivial (ww ?_)
 obtain⟨t9,ht9,h⟩:=bi h
 refine cN [] (F182_ok ht9) trivial (ww ?_)
 cases h
 exact eF []
end Go.Proofs.YtojbebejhgbfeaaGreat
