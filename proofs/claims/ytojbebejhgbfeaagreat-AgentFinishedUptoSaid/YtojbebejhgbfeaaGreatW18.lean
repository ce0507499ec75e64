/- Each Go function as a function over typed data, and its walk. -/
import Derived.Test.YtojbebejhgbfeaaGreatW0
import Derived.Test.YtojbebejhgbfeaaGreatW3
import Derived.Test.YtojbebejhgbfeaaGreatW4
import Derived.Test.YtojbebejhgbfeaaGreatW6
import Derived.Test.YtojbebejhgbfeaaGreatW8
import Derived.Test.YtojbebejhgbfeaaGreatW14
import Derived.Test.YtojbebejhgbfeaaGreatW15
open Nat renaming reduceLeDiff->XC,reduceEqDiff->XD,reduceBNe->XF,reduceAdd->XG,reduceLT->XH
open Option renaming some->XI,none->XJ
open List renaming length_set->XK
namespace Go.Proofs.YtojbebejhgbfeaaGreat
open Go Go.Fw Go.Shelf
set_option maxRecDepth 100000
set_option maxHeartbeats 4000000
set_option linter.unusedSimpArgs false
set_option linter.unusedVariables false
def F30i(x0:(List aw)):Option ((List aw)):=(F68 x0 ((x0.length:Int))).bind fun t1=>XI t1
def F30(x0:(List aw)):Option ((List aw)):=(F30i x0).bind fun r=>if r.length=x0.length then XI r else XJ
theorem F30_len0{x0:(List aw)}{r:(List aw)}(h:F30 x0=XI r):r.length=x0.length:=(bp h).2
def a30:dG:=⟨9,[],
 (.reg [Qa 4 0,
Qa 5 0,
Qh 6 5,
Qa 7 1,
zl 8 (.call 68 [(.t 4),(.t 6),(.t 7)]) [] [5]])⟩
theorem F30_ok{x0 r}{e0:Nat}(h:F30 x0=XI r):aW Tryz.prog 30 [.c (ow 0 e0 x0),.c (.fn 31 [])] [ba e0 x0] (bJ []) [ba e0 r]:=by
 replace h:=(bp h).1
 rw[F30i]at h
 refine zc a30 (by kernel_rfl) rfl (ww ?_)
 obtain⟨t1,ht1,h⟩:=bi h
 refine cN [0] (F68_ok (e0:=e0) ht1) ⟨⟨rfl,trivial⟩,trivial⟩ ?_
 refine ww ?_
 cases h
 have qx:=q1 (F68_len0 ht1)
 exact tg [XI 0]
def F9_l5:List aw→Nat→(List aw)→Option ((List aw))
 |[],o5_1,o5_0=>XI o5_0
 |xo5::xs,o5_1,o5_0=>(F35 xo5.dW).bind fun t7=>(F36 xo5.ik).bind fun t8=>(jz o5_0 ([(⟨xo5.aV,(if 1000000000000000<(if xo5.dW<0 then 0 else xo5.dW)then 1000000000000000 else(if xo5.dW<0 then 0 else xo5.dW)),(if 1000000000000<(if xo5.ik<0 then 0 else xo5.ik)then 1000000000000 else(if xo5.ik<0 then 0 else xo5.ik))⟩:aw)])).bind fun a9=>F9_l5 xs (o5_1+1) a9
def F9(x0:eC)(x1:Int):Option ((List aw)):=(gw x0.aM).bind fun t1=>(F30 t1).bind fun t2=>(Oh t2).bind fun t3=>(qV t3 0 ((if 64<(t3.length:Int)then 64 else(t3.length:Int)))).bind fun s4=>(((ck (0≤s4.length∧s4.length≤4294967290)).bind fun u10=>F9_l5 s4 0 ([])).bind fun o5=>XI o5)
def a9:dG:=⟨46,[(.cell 4 (XI 30))],
 (.seq (.reg [Qg 2 0,
sq 4 (.zbox zQ)])
 (.seq (.reg [Qc 9 24 2,
Qa 10 1,
sq 11 (.max (.t 10) (kI 0)),
sq 12 (.build zQ [(0,24,(.t 9)),(28,1,(.t 11)),(29,1,(kI 1))]),
sq 5 (.zbox zQ),
su (.store 30 (.t 5) (.t 12))])
 (.seq (.reg [Qb 13 23 2,
Qd 14 13,
Qk 15 29 14,
Qa 6 15])
 (.seq (.reg [Qa 16 6,
zl 17 (.call 30 [(.t 16),(.f 31)]) [] []])
 (.seq (.reg [Qa 18 6,
sq 19 (.call 33 [(.t 18),(.f 34)]),
Qa 6 19])
 (.seq (.seq (.reg [Qa 20 6,
Qa 21 6,
Qh 22 21,
sq 23 (.min (.t 22) (kI 64)),
sq 24 (.slice 3 (.t 20) XJ (XI (.t 23)) XJ),
Qh 25 24,
Qe 26 0])
 (.sem (.block 0 (.loop (.seq (.reg [Qn 27 26 25])
 (.seq (.cond (.t 27)
 .skip
 (.exit 0))
 (.seq (.block 1 (.seq (.reg [Qp 28 3 24 26,
Qc 29 3 28,
sq 8 (.zbox [dS ⟨#[]⟩,dI 0,dI 0]),
su (.store 3 (.t 8) (.t 29))])
 (.regd [Qb 30 26 5,
sd 31 (.load XJ (.t 30)) [0],
Qb 32 0 8,
sd 33 (.load XJ (.t 32)) [2],
Qb 34 1 8,
sd 35 (.load XJ (.t 34)) [4],
zn 36 (.call 35 [(.t 35)]) [4,5] [4,5],
Qb 37 2 8,
sd 38 (.load XJ (.t 37)) [7],
zl 39 (.call 36 [(.t 38)]) [4,5,6,7,8] [5,30,8,32],
zl 40 (.build [dS ⟨#[]⟩,dI 0,dI 0] [(0,1,(.t 33)),(1,1,(.t 36)),(2,1,(.t 39))]) [2,3,4,5,6,7,8,9] [5,30],
zl 41 (.bslice 3 [(.t 40)]) [2,3,4,5,6,7,8,9,10] [5,30],
zl 42 (.app 3 32 (.t 31) (.t 41)) [0,1,2,3,4,5,6,7,8,9,10,11] [],
sd 43 (.fieldA 26 (.t 5)) [0,1,2,3,4,5,6,7,8,9,10,11,12],
⟨XJ,XJ,.store 1 (.t 43) (.t 42),[0,1,2,3,4,5,6,7,8,9,10,11,12,13],(.lone [])⟩])))
 (.reg [Qm 44 26 1,
Qa 26 44]))))))))
 (.seq (.reg [Qc 45 30 5,
⟨XJ,XJ,.store 30 (.t 4) (.t 45),[],(.lone [5])⟩])
 .ret)))))))⟩
theorem F9_ok{x0 x1 r}(h:F9 x0 x1=XI r):aW Tryz.prog 9 [.agg (jy x0),.c (dI x1)] [] (bJ [.agg [dS x0.ak.bY,dS x0.ak.bE,dS x0.ak.aV,dI x0.ak.jH,dI x0.ak.cE,dI x0.ak.bA,dI x0.ak.cF,dB x0.ak.bP,dI x0.ak.bz,dM (x0.ak.cS.map cR),dM (x0.ak.cZ.map cP),dM (x0.ak.bB.map eS),dM (x0.ak.b9.map bU),dI x0.aJ.de,dI x0.aJ.aG,dI x0.aJ.bF,dI x0.cJ,dB x0.cY,dM (x0.dQ.map dP),dB x0.bd,dI x0.jR,dB x0.fa,dB x0.dU,dM (x0.aM.map aR),dI 0,dM (([]:List af).map bT),ow 0 0 r,dI 0,dI ((if x1<0 then 0 else x1)),dI 1]]) [ba 0 r]:=by
 rw[F9]at h
 refine zc a9 (by kernel_rfl) rfl (ww ?_)
 obtain⟨t1,ht1,h⟩:=bi h
 refine cN [] (F29_ok ht1) trivial (ww ?_)
 obtain⟨t2,ht2,h⟩:=bi h
 refine cN [3] (F30_ok (e0:=1) ht2) ⟨⟨rfl,trivial⟩,trivial⟩ ?_
 refine ww ?_
 obtain⟨t3,ht3,h⟩:=bi h
 have qx:=q1 (F30_len0 ht2)
 refine cQ [3] (F33_ok (e0:=1) ht3) (ww ?_)
 obtain⟨s4,hs4,h⟩:=bi h
 refine nD (enc:=aR) (xs:=t3) rfl rfl (by first|rfl|simp only[XK,F30_len0 ht2]|exact(fW (fZ (by assumption))).symm) rfl (by first|rfl|simp only[gg,XK,F30_len0 ht2]) hs4 (ww ?_)
 obtain⟨o5,ho,h⟩:=bi h
 refine bD (fun s=>s=⟨[(4,Pz 0),(5,Pz 1)],[xb gx,xb [dS x0.ak.bY,dS x0.ak.bE,dS x0.ak.aV,dI x0.ak.jH,dI x0.ak.cE,dI x0.ak.bA,dI x0.ak.cF,dB x0.ak.bP,dI x0.ak.bz,dM (x0.ak.cS.map cR),dM (x0.ak.cZ.map cP),dM (x0.ak.bB.map eS),dM (x0.ak.b9.map bU),dI x0.aJ.de,dI x0.aJ.aG,dI x0.aJ.bF,dI x0.cJ,dB x0.cY,dM (x0.dQ.map dP),dB x0.bd,dI x0.jR,dB x0.fa,dB x0.dU,dM (x0.aM.map aR),dI 0,dN,ow 2 0 o5,dI 0,dI ((if x1<0 then 0 else x1)),dI 1],ba 0 o5]⟩) ?_ ?_
 ·have h:=ho
  obtain⟨_,hk,h⟩:=bi h
  have hk:=cr hk
  refine ww ?_
  refine bL (fun j s=>∃(o5_1:Nat) (o5_0:List aw),(o5_1≤s4.length∧j=s4.length-o5_1)∧s=⟨[(4,Pz 0),(5,Pz 1),(24,oc (ow 3 0 s4)),(25,oI (s4.length:Int)),(26,oI (o5_1:Int))],[xb gx,xb [dS x0.ak.bY,dS x0.ak.bE,dS x0.ak.aV,dI x0.ak.jH,dI x0.ak.cE,dI x0.ak.bA,dI x0.ak.cF,dB x0.ak.bP,dI x0.ak.bz,dM (x0.ak.cS.map cR),dM (x0.ak.cZ.map cP),dM (x0.ak.bB.map eS),dM (x0.ak.b9.map bU),dI x0.aJ.de,dI x0.aJ.aG,dI x0.aJ.bF,dI x0.cJ,dB x0.cY,dM (x0.dQ.map dP),dB x0.bd,dI x0.jR,dB x0.fa,dB x0.dU,dM (x0.aM.map aR),dI 0,dN,ow 2 0 o5_0,dI 0,dI ((if x1<0 then 0 else x1)),dI 1],ba 0 o5_0,ba 0 s4]⟩∧F9_l5 (s4.drop o5_1) o5_1 o5_0=XI o5) (s4.length-0) [XI 1,XI 2,XJ,XI 3] ⟨0,[],⟨hk.1,rfl⟩,rfl,h⟩ ?_ (hB:=by simp only[ZZ.down,XD,reduceCtorEq,XG,XC,XH,XF,EE.down,Eb hs4,Aa hs4,Ec hs4,F30_len0 ht2]) (hs:=by simp only[ZZ.down,XD,reduceCtorEq,XG,XC,XH,XF,EE.down,Eb hs4,Aa hs4,Ec hs4,F30_len0 ht2])
  rintro _ _ ⟨o5_1,o5_0,⟨hi,rfl⟩,rfl,h⟩
  refine ww ?_
  refine dq (fun c6=>?_) (fun c6=>?_)
  ·obtain⟨xo5,hxo5,hd⟩:=cW (show(o5_1:Int)<(s4.length:Int)from c6)
   rw[hd,F9_l5]at h
   refine ww ?_
   have qx:=q1 (F30_len0 ht2)
   refine lV (enc:=aR) (xs:=s4) rfl rfl rfl hxo5 (ww ?_)
   refine cD.rd (aQ hxo5).2.1 (ww ?_)
   obtain⟨t7,ht7,h⟩:=bi h
   have qx:=q2 (F30_len0 ht2) (cb hxo5)
   refine cQ [] (F35_ok ht7) (ww ?_)
   obtain⟨t8,ht8,h⟩:=bi h
   have qx:=q2 (F30_len0 ht2) (cb hxo5)
   refine cQ [] (F36_ok ht8) (ww ?_)
   refine tB (enc:=aR) (ys:=[(⟨xo5.aV,(if 1000000000000000<(if xo5.dW<0 then 0 else xo5.dW)then 1000000000000000 else(if xo5.dW<0 then 0 else xo5.dW)),(if 1000000000000<(if xo5.ik<0 then 0 else xo5.ik)then 1000000000000 else(if xo5.ik<0 then 0 else xo5.ik))⟩:aw)]) rfl rfl (ww ?_)
   obtain⟨a9,ha9,h⟩:=bi h
   have qx:=q2 (F30_len0 ht2) (cb hxo5)
   refine Me (enc:=aR) (xs:=o5_0) rfl rfl rfl ha9 (ww ?_)
   rw[cL (by omega)]
   have qx:=q2 (F30_len0 ht2) (cb hxo5)
   exact iI (s4.length-(o5_1+1)) i4 ⟨o5_1+1,a9,⟨by omega,rfl⟩,rfl,h⟩ (by omega)
  rw[cX (show¬((o5_1:Int)<(s4.length:Int))from c6),F9_l5]at h
  refine ww ?_
  cases h
  have qx:=q1 (F30_len0 ht2)
  exact fI i3 rfl
 rintro _ rfl
 refine ww ?_
 cases h
 have qx:=q1 (F30_len0 ht2)
 exact tg [XI 2]
def Jy:AC:=(.reg [Qa 81 0,
Qa 82 9,
Ql 83 39 81 82,
Qa 80 83,
Qo 84 80 0,
Qo 85 80 1,
Qa 10 84,
Qa 11 85])
def F43i(e1:Nat)(b0:aj)(pods:List au)(ks:List ByteArray)(i:Int)(w:ByteArray):Option (Int):=(F39 w ((⟨(⟨b0.ah.Node,b0.ah.cl,pods,b0.ah.aM,b0.ah.bW,b0.ah.bO,b0.ah.b8⟩:jn)⟩:gM))).bind fun t1=>XI t1.1
theorem F43i_ok{e1 b0 pods ks i w r}(h:F43i e1 b0 pods ks i w=XI r):sK Tryz.prog 118 2 Jy [] (sM 118 2 (fun s=>s=⟨[(0,Pz 0),(10,oI r),(74,oc (ow 2 0 ks)),(75,oI (ks.length:Int)),(76,oI i)],[xb (aA b0 (ow 1 e1 pods)),ai e1 pods,iS 0 ks]⟩) (xQ 118 2 (fun _ _=>False) (fun _=>False)))
 ⟨[(0,Pz 0),(9,oS w),(74,oc (ow 2 0 ks)),(75,oI (ks.length:Int)),(76,oI i)],[xb (aA b0 (ow 1 e1 pods)),ai e1 pods,iS 0 ks]⟩:=by
 rw[F43i]at h
 unfold Jy
 refine ww ?_
 obtain⟨t1,ht1,h⟩:=bi h
 refine cN [0,1] (F39_ok (e1:=e1) ht1) ⟨⟨(by first|rfl|(simp only[XK];rfl)),by simp[bw.live,C.live,hp]⟩,⟨⟨rfl,trivial⟩,trivial⟩⟩ ?_
 refine ww ?_
 cases h
 exact eM i3 rfl
def JQ:AC:=(.reg [Qa 8 0,
Qb 9 0 3,
Qc 10 13 9,
Qk 11 74 10,
Ql 12 39 8 11,
Qa 7 12,
Qo 13 7 0,
Qo 14 7 1,
Qa 4 13,
Qa 5 14])
def F38b(e1:Nat)(b0:aj)(pods:List au)(v:an):Option (Int×Bool):=(F74 v.ak).bind fun t1=>(F39 t1 ((⟨(⟨b0.ah.Node,b0.ah.cl,pods,b0.ah.aM,b0.ah.bW,b0.ah.bO,b0.ah.b8⟩:jn)⟩:gM))).bind fun t2=>XI ((t2.1,t2.2))
theorem F38b_ok{e1 b0 pods v r}(h:F38b e1 b0 pods v=XI r):sK Tryz.prog 93 2 JQ [] (sM 93 2 (fun s=>s=⟨[(0,Pz 0),(3,Pz 2),(4,oI r.1),(5,oB r.2)],[xb (aA b0 (ow 1 e1 pods)),ai e1 pods,xb (jD v)]⟩) (xQ 93 2 (fun _ _=>False) (fun _=>False)))
 ⟨[(0,Pz 0),(3,Pz 2)],[xb (aA b0 (ow 1 e1 pods)),ai e1 pods,xb (jD v)]⟩:=by
 rw[F38b]at h
 unfold JQ
 refine ww ?_
 obtain⟨t1,ht1,h⟩:=bi h
 refine cN [] (F74_ok ht1) trivial (ww ?_)
 obtain⟨t2,ht2,h⟩:=bi h
 refine cN [0,1] (F39_ok (e1:=e1) ht2) ⟨⟨(by first|rfl|(simp only[XK];rfl)),by simp[bw.live,C.live,hp]⟩,⟨⟨rfl,trivial⟩,trivial⟩⟩ ?_
 refine ww ?_
 cases h
 exact eM i3 rfl
end Go.Proofs.YtojbebejhgbfeaaGreat
