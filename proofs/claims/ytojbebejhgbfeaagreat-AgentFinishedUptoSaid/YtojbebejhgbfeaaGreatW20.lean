/- Each Go function as a function over typed data, and its walk. -/
import Derived.Test.YtojbebejhgbfeaaGreatW0
import Derived.Test.YtojbebejhgbfeaaGreatW4
import Derived.Test.YtojbebejhgbfeaaGreatW7
import Derived.Test.YtojbebejhgbfeaaGreatW18
import Derived.Test.YtojbebejhgbfeaaGreatW19
open Option renaming some->XC,map_eq_some_iff->XD,none->XF
open Bool renaming false->XG,true->XH
open Sum renaming inr->XI,inl->XJ
open Go.IntKind renaming i64->XK
namespace Go.Proofs.YtojbebejhgbfeaaGreat
open Go Go.Fw Go.Shelf
set_option maxRecDepth 100000
set_option maxHeartbeats 4000000
set_option linter.unusedSimpArgs false
set_option linter.unusedVariables false
def F47(x0:ByteArray)(x1:ByteArray)(x2:ByteArray):Option (ByteArray):=(ue x0 ((⟨#[47]⟩:ByteArray))).bind fun s1=>(ue s1 x1).bind fun s2=>(ue s2 ((⟨#[47]⟩:ByteArray))).bind fun s3=>(ue s3 x2).bind fun s4=>XC s4
def a47:dG:=⟨14,[(.tmp 6)],
 (.seq (.reg [sq 6 (.mv (kS ⟨#[]⟩))])
 (.seq (.reg [Qa 7 0,
sq 8 (.bin .add (.t 7) (kS ⟨#[47]⟩)),
Qa 9 1,
sq 10 (.bin .add (.t 8) (.t 9)),
sq 11 (.bin .add (.t 10) (kS ⟨#[47]⟩)),
Qa 12 2,
sq 13 (.bin .add (.t 11) (.t 12)),
Qa 6 13])
 .ret))⟩
theorem F47_ok{x0 x1 x2 r}(h:F47 x0 x1 x2=XC r):aW Tryz.prog 47 [.c (dS x0),.c (dS x1),.c (dS x2)] [] (bJ [.c (dS r)]) []:=by
 rw[F47]at h
 refine zc a47 (by kernel_rfl) rfl (ww ?_)
 obtain⟨s1,hs1,h⟩:=bi h
 obtain⟨hle,es1⟩:=kg hs1
 refine⟨hle,?_⟩
 first|rw[←es1]|subst es1
 refine ww ?_
 obtain⟨s2,hs2,h⟩:=bi h
 obtain⟨hle,es2⟩:=kg hs2
 refine⟨hle,?_⟩
 first|rw[←es2]|subst es2
 refine ww ?_
 obtain⟨s3,hs3,h⟩:=bi h
 obtain⟨hle,es3⟩:=kg hs3
 refine⟨hle,?_⟩
 first|rw[←es3]|subst es3
 refine ww ?_
 obtain⟨s4,hs4,h⟩:=bi h
 obtain⟨hle,es4⟩:=kg hs4
 refine⟨hle,?_⟩
 first|rw[←es4]|subst es4
 refine ww ?_
 cases h
 exact eF []
def F15(x0:ak):Option (ByteArray):=(F47 x0.bY x0.bE x0.aV).bind fun t1=>XC t1
def a15:dG:=⟨10,[(.tmp 2)],
 (.seq (.reg [Qg 1 0,
sq 2 (.mv (kS ⟨#[]⟩))])
 (.seq (.reg [Qb 3 0 1,
Qd 4 3,
Qb 5 1 1,
Qd 6 5,
Qb 7 2 1,
Qd 8 7,
sq 9 (.call 47 [(.t 4),(.t 6),(.t 8)]),
Qa 2 9])
 .ret))⟩
theorem F15_ok{x0 r}(h:F15 x0=XC r):aW Tryz.prog 15 [.agg (MR x0)] [] (bJ [.c (dS r)]) []:=by
 rw[F15]at h
 refine zc a15 (by kernel_rfl) rfl (ww ?_)
 obtain⟨t1,ht1,h⟩:=bi h
 refine cN [] (F47_ok ht1) trivial (ww ?_)
 cases h
 exact eF []
def F4_l13(t7:ah)(y12:af):Nat→Int→Option ((((Bool) ⊕ (Unit)) ⊕ (Unit)) ⊕ (Unit))
 |0,_=>XF
 |k+1,o13_0=>(((if o13_0<(t7.bq.length:Int)then(F11 y12.an).bind fun t16=>XC t16 else XC XG)).bind fun o14=>(if o14=XH then(cI t7.bq o13_0).bind fun y18=>(((F15 y12.an.ak).bind fun t20=>(F15 y18.an.ak).bind fun t21=>(if t20=t21 then(if¬(y12.an.ae.bC=y18.an.ae.bC)then XC XH else(if¬(y12.an.ae.b7=y18.an.ae.b7)then XC XH else XC (decide (¬(y12.an.ae.bu=y18.an.ae.bu)))))else XC XG)).bind fun o19=>(if o19=XH then(((XC XG).map XJ).map XJ).map XJ else F4_l13 t7 y12 k ((XK.wrap (o13_0+1)))))else XC (XI (()))))
def F4_l8(o5_25:(List af))(t7:ah)(xo5:aN):Nat→Int→Option (((Bool) ⊕ (Unit)) ⊕ (Unit))
 |0,_=>XF
 |k+1,o8_0=>(((if o8_0<(o5_25.length:Int)then XC (decide (¬(xo5.bY=3)))else XC XG)).bind fun o9=>(if o9=XH then(cI o5_25 o8_0).bind fun y12=>((F4_l13 t7 y12 1099511627776 0:Option ((((Bool) ⊕ (Unit)) ⊕ (Unit)) ⊕ (Unit))).bind fun o13=>match o13 with|XJ f=>XC f|XI po13=>F4_l8 o5_25 t7 xo5 k ((XK.wrap (o8_0+1))))else XC (XI (()))))
def F4_l5:List aN→Nat→ByteArray→ByteArray→ByteArray→Int→Int→Int→Int→Bool→Int→((List Label))→((List mw))→((List ByteArray))→((List iV))→Int→Int→Int→Int→Bool→((List pH))→Bool→Int→Bool→Bool→((List aw))→Int→((List af))→(List aw)→Int→Int→Int→Option ((Bool) ⊕ (Unit))
 |[],o5_30,o5_0,o5_1,o5_2,o5_3,o5_4,o5_5,o5_6,o5_7,o5_8,o5_9,o5_10,o5_11,o5_12,o5_13,o5_14,o5_15,o5_16,o5_17,o5_18,o5_19,o5_20,o5_21,o5_22,o5_23,o5_24,o5_25,o5_26,o5_27,o5_28,o5_29=>XC (XI (()))
 |xo5::xs,o5_30,o5_0,o5_1,o5_2,o5_3,o5_4,o5_5,o5_6,o5_7,o5_8,o5_9,o5_10,o5_11,o5_12,o5_13,o5_14,o5_15,o5_16,o5_17,o5_18,o5_19,o5_20,o5_21,o5_22,o5_23,o5_24,o5_25,o5_26,o5_27,o5_28,o5_29=>(F10 ((⟨(⟨(⟨o5_0,o5_1,o5_2,o5_3,o5_4,o5_5,o5_6,o5_7,o5_8,o5_9,o5_10,o5_11,o5_12⟩:ak),(⟨o5_13,o5_14,o5_15⟩:aD),o5_16,o5_17,o5_18,o5_19,o5_20,o5_21,o5_22,o5_23⟩:eC),o5_24,o5_25,o5_26,o5_27,o5_28,o5_29⟩:ah)) xo5).bind fun t7=>((F4_l8 o5_25 t7 xo5 1099511627776 0:Option (((Bool) ⊕ (Unit)) ⊕ (Unit))).bind fun o8=>match o8 with|XJ f=>XC f|XI po8=>F4_l5 xs (o5_30+1) t7.Node.ak.bY t7.Node.ak.bE t7.Node.ak.aV t7.Node.ak.jH t7.Node.ak.cE t7.Node.ak.bA t7.Node.ak.cF t7.Node.ak.bP t7.Node.ak.bz t7.Node.ak.cS t7.Node.ak.cZ t7.Node.ak.bB t7.Node.ak.b9 t7.Node.aJ.de t7.Node.aJ.aG t7.Node.aJ.bF t7.Node.cJ t7.Node.cY t7.Node.dQ t7.Node.bd t7.Node.jR t7.Node.fa t7.Node.dU t7.Node.aM t7.cl t7.bq t7.aM t7.bW t7.bO t7.b8)
def F4(x0:eC)(x1:Int)(x2:(List aN)):Option (Bool):=(F7 x0 x2).bind fun t1=>(if t1=XH then(F8).bind fun t3=>XC t3 else(F9 x0 x1).bind fun t4=>(((ck (0≤x2.length∧x2.length≤4294967290)).bind fun u26=>F4_l5 x2 0 x0.ak.bY x0.ak.bE x0.ak.aV x0.ak.jH x0.ak.cE x0.ak.bA x0.ak.cF x0.ak.bP x0.ak.bz x0.ak.cS x0.ak.cZ x0.ak.bB x0.ak.b9 x0.aJ.de x0.aJ.aG x0.aJ.bF x0.cJ x0.cY x0.dQ x0.bd x0.jR x0.fa x0.dU x0.aM 0 ([]) t4 0 ((if x1<0 then 0 else x1)) 1:Option ((Bool) ⊕ (Unit))).bind fun o5=>match o5 with|XJ f=>XC f|XI po5=>(F8).bind fun t27=>XC t27))
def a4:dG:=⟨107,[(.tmp 6)],
 (.seq (.reg [Qg 3 0,
Qf 6 XG])
 (.seq (.seq (.reg [Qc 14 24 3,
Qa 15 2,
zl 16 (.call 7 [(.t 14),(.t 15)]) [] [3]])
 (.cond (.t 16)
 (.seq (.reg [sq 17 (.call 8 []),
Qa 6 17])
 .ret)
 .skip))
 (.seq (.reg [Qc 18 24 3,
Qa 19 1,
Ql 20 9 18 19,
sq 7 (.zbox zQ),
su (.store 30 (.t 7) (.t 20))])
 (.seq (.seq (.reg [Qe 8 0])
 (.sem (.block 0 (.loop (.seq (.seq (.reg [Qa 21 8,
Qa 22 2,
Qh 23 22,
Qn 24 21 23])
 (.cond (.t 24)
 .skip
 (.exit 0)))
 (.seq (.block 1 (.seq (.regd [Qc 27 30 7,
Qa 28 2,
Qa 29 8,
sd 30 (.indexA 37 (.t 28) (.t 29)) [1,2],
sd 31 (.load (XC 37) (.t 30)) [1,2,3],
zn 32 (.call 10 [(.t 27),(.t 31)]) [0,1,2,3,4] [0,1,2,3,4],
sq 9 (.zbox zQ),
⟨XF,XF,.store 30 (.t 9) (.t 32),[0,1,2,3,4,5,6],(.lone [])⟩])
 (.seq (.seq (.reg [Qe 10 0])
 (.sem (.block 2 (.loop (.seq (.seq (.sem (.reg [Qa 33 10,
Qb 34 25 7,
Qd 35 34,
Qh 36 35,
Qn 37 33 36,
Qa 38 37,
Qv 39 38 XH 2,
Qv 40 38 XH 8,
zg 41 38 XH (.indexA 37 (.t 39) (.t 40)),
Qs 42 38 XH 0 41,
Qt 43 38 XH 42,
zg 44 38 XH (.bin .neq (.t 43) (kI 3)),
zl 45 (.pick (.t 38) (.t 44) (kB XG)) [] [7,34,35,39,41,42]]))
 (.cond (.t 45)
 .skip
 (.exit 2)))
 (.seq (.block 3 (.seq (.reg [Qb 48 25 7,
Qd 49 48,
Qa 50 10,
Qp 51 36 49 50,
Qb 52 0 51,
Qc 53 32 52,
sq 11 (.zbox L8),
su (.store 32 (.t 11) (.t 53))])
 (.seq (.reg [Qe 12 0])
 (.sem (.block 4 (.loop (.seq (.seq (.sem (.reg [Qa 54 12,
Qb 55 25 9,
Qd 56 55,
Qh 57 56,
Qn 58 54 57,
Qa 59 58,
Qu 60 59 XH 32 11,
zg 61 59 XH (.call 11 [(.t 60)]),
Qi 62 59 61]))
 (.cond (.t 62)
 .skip
 (.exit 4)))
 (.seq (.block 5 (.seq (.reg [Qb 65 25 9,
Qd 66 65,
Qa 67 12,
Qp 68 36 66 67,
Qb 69 0 68,
Qc 70 32 69,
sq 13 (.zbox L8),
su (.store 32 (.t 13) (.t 70))])
 (.seq (.sem (.regd [Qb 71 0 11,
sd 72 (.load (XC 13) (.t 71)) [0],
zn 73 (.call 15 [(.t 72)]) [0,1] [0,1],
Qb 74 0 13,
sd 75 (.load (XC 13) (.t 74)) [3],
zl 76 (.call 15 [(.t 75)]) [0,1,2,3,4] [],
sd 77 (.bin .eql (.t 73) (.t 76)) [0,1,2,3,4,5],
sd 78 (.mv (.t 77)) [0,1,2,3,4,5,6],
⟨(XC 79),(XC (78,XH)),.fieldA 23 (.t 11),[0,1,2,3,4,5,6,7],(.new [])⟩,
⟨(XC 80),(XC (78,XH)),.fieldA 0 (.t 79),[0,1,2,3,4,5,6,7,8],(.new [])⟩,
⟨(XC 81),(XC (78,XH)),.load XF (.t 80),[0,1,2,3,4,5,6,7,8,9],(.new [])⟩,
⟨(XC 82),(XC (78,XH)),.fieldA 23 (.t 13),[0,1,2,3,4,5,6,7],(.new [])⟩,
⟨(XC 83),(XC (78,XH)),.fieldA 0 (.t 82),[0,1,2,3,4,5,6,7,11],(.new [])⟩,
⟨(XC 84),(XC (78,XH)),.load XF (.t 83),[0,1,2,3,4,5,6,7,11,12],(.new [])⟩,
⟨(XC 85),(XC (78,XH)),.bin .neq (.t 81) (.t 84),[0,1,2,3,4,5,6,7,8,9,10,11,12,13],(.new [])⟩,
⟨(XC 86),(XC (78,XH)),.mv (.t 85),[0,1,2,3,4,5,6,7,8,9,10,11,12,13,14],(.new [])⟩,
⟨(XC 87),(XC (86,XG)),.fieldA 23 (.t 11),[0,1,2,3,4,5,6,7,8,9,10,11,12,13,14,15],(.new [])⟩,
⟨(XC 88),(XC (86,XG)),.fieldA 8 (.t 87),[0,1,2,3,4,5,6,7,8,9,10,11,12,13,14,15,16],(.new [])⟩,
⟨(XC 89),(XC (86,XG)),.load XF (.t 88),[0,1,2,3,4,5,6,7,8,9,10,11,12,13,14,15,16,17],(.new [])⟩,
⟨(XC 90),(XC (86,XG)),.fieldA 23 (.t 13),[0,1,2,3,4,5,6,7,8,9,10,11,12,13,14,15],(.new [])⟩,
⟨(XC 91),(XC (86,XG)),.fieldA 8 (.t 90),[0,1,2,3,4,5,6,7,8,9,10,11,12,13,14,15,19],(.new [])⟩,
⟨(XC 92),(XC (86,XG)),.load XF (.t 91),[0,1,2,3,4,5,6,7,8,9,10,11,12,13,14,15,19,20],(.new [])⟩,
⟨(XC 93),(XC (86,XG)),.bin .neq (.t 89) (.t 92),[0,1,2,3,4,5,6,7,8,9,10,11,12,13,14,15,16,17,18,19,20,21],(.new [])⟩,
⟨(XC 94),(XC (78,XH)),.pick (.t 86) (kB XH) (.t 93),[0,1,2,3,4,5,6,7,8,9,10,11,12,13,14,15,16,17,18,19,20,21,22],(.lone [])⟩,
⟨(XC 95),(XC (78,XH)),.mv (.t 94),[0,1,2,3,4,5,6,7,8,9,10,11,12,13,14,15,16,17,18,19,20,21,22,23],(.new [])⟩,
⟨(XC 96),(XC (95,XG)),.fieldA 23 (.t 11),[0,1,2,3,4,5,6,7,8,9,10,11,12,13,14,15,16,17,18,19,20,21,22,23,24],(.new [])⟩,
⟨(XC 97),(XC (95,XG)),.fieldA 4 (.t 96),[0,1,2,3,4,5,6,7,8,9,10,11,12,13,14,15,16,17,18,19,20,21,22,23,24,25],(.new [])⟩,
⟨(XC 98),(XC (95,XG)),.load XF (.t 97),[0,1,2,3,4,5,6,7,8,9,10,11,12,13,14,15,16,17,18,19,20,21,22,23,24,25,26],(.new [])⟩,
⟨(XC 99),(XC (95,XG)),.fieldA 23 (.t 13),[0,1,2,3,4,5,6,7,8,9,10,11,12,13,14,15,16,17,18,19,20,21,22,23,24],(.new [])⟩,
⟨(XC 100),(XC (95,XG)),.fieldA 4 (.t 99),[0,1,2,3,4,5,6,7,8,9,10,11,12,13,14,15,16,17,18,19,20,21,22,23,24,28],(.new [])⟩,
⟨(XC 101),(XC (95,XG)),.load XF (.t 100),[0,1,2,3,4,5,6,7,8,9,10,11,12,13,14,15,16,17,18,19,20,21,22,23,24,28,29],(.new [])⟩,
⟨(XC 102),(XC (95,XG)),.bin .neq (.t 98) (.t 101),[0,1,2,3,4,5,6,7,8,9,10,11,12,13,14,15,16,17,18,19,20,21,22,23,24,25,26,27,28,29,30],(.new [])⟩,
⟨(XC 103),(XC (78,XH)),.pick (.t 95) (kB XH) (.t 102),[0,1,2,3,4,5,6,7,8,9,10,11,12,13,14,15,16,17,18,19,20,21,22,23,24,25,26,27,28,29,30,31],(.lone [])⟩,
zl 104 (.pick (.t 78) (.t 103) (kB XG)) [0,1,2,3,4,5,6,7,8,9,10,11,12,13,14,15,16,17,18,19,20,21,22,23,24,25,26,27,28,29,30,31,32] []]))
 (.cond (.t 104)
 (.seq (.reg [Qf 6 XG])
 .ret)
 .skip))))
 (.reg [Qa 63 12,
Qm 64 63 1,
Qa 12 64])))))))))
 (.reg [Qa 46 10,
Qm 47 46 1,
Qa 10 47])))))))
 (.reg [Qc 105 30 9,
⟨XF,XF,.store 30 (.t 7) (.t 105),[],(.lone [9])⟩]))))
 (.reg [Qa 25 8,
Qm 26 25 1,
Qa 8 26])))))))
 (.seq (.reg [sq 106 (.call 8 []),
Qa 6 106])
 .ret)))))⟩
theorem F4_ok{x0 x1 x2 r}(h:F4 x0 x1 x2=XC r):aW Tryz.prog 4 [.agg (jy x0),.c (dI x1),.c (dM (x2.map bN))] [] (bJ [.c (dB r)]) []:=by
 rw[F4]at h
 refine zc a4 (by kernel_rfl) rfl (ww ?_)
 obtain⟨t1,ht1,h⟩:=bi h
 refine cN [] (F7_ok ht1) trivial (ww ?_)
 refine ct h (fun c2 h=>ww ?_) (fun c2 h=>ww ?_)
 ·obtain⟨t3,ht3,h⟩:=bi h
  refine cN [] (F8_ok ht3) trivial (ww ?_)
  cases h
  exact eF []
 obtain⟨t4,ht4,h⟩:=bi h
 refine cN [] (F9_ok ht4) trivial (ww ?_)
 obtain⟨o5,ho,h⟩:=bi h
 refine bD (fun s=>∃po5,o5=XI po5∧s=⟨[],[]⟩) ?_ ?_
 ·have h0o5:=h
  have h:=ho
  obtain⟨_,hk,h⟩:=bi h
  have hk:=cr hk
  refine ww ?_
  refine bL (fun j s=>∃(o5_30:Nat) (o5_0:ByteArray) (o5_1:ByteArray) (o5_2:ByteArray) (o5_3:Int) (o5_4:Int) (o5_5:Int) (o5_6:Int) (o5_7:Bool) (o5_8:Int) (o5_9:(List Label)) (o5_10:(List mw)) (o5_11:(List ByteArray)) (o5_12:(List iV)) (o5_13:Int) (o5_14:Int) (o5_15:Int) (o5_16:Int) (o5_17:Bool) (o5_18:(List pH)) (o5_19:Bool) (o5_20:Int) (o5_21:Bool) (o5_22:Bool) (o5_23:(List aw)) (o5_24:Int) (o5_25:(List af)) (o5_26:List aw) (o5_27:Int) (o5_28:Int) (o5_29:Int),(o5_30≤x2.length∧j=x2.length-o5_30)∧s=⟨[(2,oM (x2.map bN)),(7,Pz 0),(8,oI (o5_30:Int))],[xb [dS o5_0,dS o5_1,dS o5_2,dI o5_3,dI o5_4,dI o5_5,dI o5_6,dB o5_7,dI o5_8,dM (o5_9.map cR),dM (o5_10.map cP),dM (o5_11.map eS),dM (o5_12.map bU),dI o5_13,dI o5_14,dI o5_15,dI o5_16,dB o5_17,dM (o5_18.map dP),dB o5_19,dI o5_20,dB o5_21,dB o5_22,dM (o5_23.map aR),dI o5_24,dM (o5_25.map bT),dM (o5_26.map aR),dI o5_27,dI o5_28,dI o5_29]]⟩∧F4_l5 (x2.drop o5_30) o5_30 o5_0 o5_1 o5_2 o5_3 o5_4 o5_5 o5_6 o5_7 o5_8 o5_9 o5_10 o5_11 o5_12 o5_13 o5_14 o5_15 o5_16 o5_17 o5_18 o5_19 o5_20 o5_21 o5_22 o5_23 o5_24 o5_25 o5_26 o5_27 o5_28 o5_29=XC o5) (x2.length-0) [XC 2] ⟨0,x0.ak.bY,x0.ak.bE,x0.ak.aV,x0.ak.jH,x0.ak.cE,x0.ak.bA,x0.ak.cF,x0.ak.bP,x0.ak.bz,x0.ak.cS,x0.ak.cZ,x0.ak.bB,x0.ak.b9,x0.aJ.de,x0.aJ.aG,x0.aJ.bF,x0.cJ,x0.cY,x0.dQ,x0.bd,x0.jR,x0.fa,x0.dU,x0.aM,0,[],t4,0,(if x1<0 then 0 else x1),1,⟨hk.1,rfl⟩,rfl,h⟩ ?_
  rintro _ _ ⟨o5_30,o5_0,o5_1,o5_2,o5_3,o5_4,o5_5,o5_6,o5_7,o5_8,o5_9,o5_10,o5_11,o5_12,o5_13,o5_14,o5_15,o5_16,o5_17,o5_18,o5_19,o5_20,o5_21,o5_22,o5_23,o5_24,o5_25,o5_26,o5_27,o5_28,o5_29,⟨hi,rfl⟩,rfl,h⟩
  refine ww ?_
  refine dq (fun c6=>?_) (fun c6=>?_)
  ·obtain⟨xo5,hxo5,hd⟩:=cW (show(o5_30:Int)<(x2.length:Int)from c6)
   rw[hd,F4_l5]at h
   refine ww ?_
   refine bI (enc:=bN) (xs:=x2) rfl rfl hxo5 rfl (ww ?_)
   obtain⟨t7,ht7,h⟩:=bi h
   refine cN [] (F10_ok ht7) trivial (ww ?_)
   refine iu (by simp[fE,gO,cH]) (ww ?_)
   obtain⟨o8,ho,h⟩:=bi h
   refine bD (fun s=>∃po8,o8=XI po8∧s=⟨[(2,oM (x2.map bN)),(7,Pz 0),(8,oI (o5_30:Int)),(9,Pz 1)],[xb [dS o5_0,dS o5_1,dS o5_2,dI o5_3,dI o5_4,dI o5_5,dI o5_6,dB o5_7,dI o5_8,dM (o5_9.map cR),dM (o5_10.map cP),dM (o5_11.map eS),dM (o5_12.map bU),dI o5_13,dI o5_14,dI o5_15,dI o5_16,dB o5_17,dM (o5_18.map dP),dB o5_19,dI o5_20,dB o5_21,dB o5_22,dM (o5_23.map aR),dI o5_24,dM (o5_25.map bT),dM (o5_26.map aR),dI o5_27,dI o5_28,dI o5_29],xb (dy t7)]⟩) ?_ ?_
   ·have h0o8:=h
    have h:=ho
    refine ww ?_
    refine bL (fun j s=>∃(o8_0:Int),s=⟨[(2,oM (x2.map bN)),(7,Pz 0),(8,oI (o5_30:Int)),(9,Pz 1),(10,oI o8_0)],[xb [dS o5_0,dS o5_1,dS o5_2,dI o5_3,dI o5_4,dI o5_5,dI o5_6,dB o5_7,dI o5_8,dM (o5_9.map cR),dM (o5_10.map cP),dM (o5_11.map eS),dM (o5_12.map bU),dI o5_13,dI o5_14,dI o5_15,dI o5_16,dB o5_17,dM (o5_18.map dP),dB o5_19,dI o5_20,dB o5_21,dB o5_22,dM (o5_23.map aR),dI o5_24,dM (o5_25.map bT),dM (o5_26.map aR),dI o5_27,dI o5_28,dI o5_29],xb (dy t7)]⟩∧F4_l8 o5_25 t7 xo5 j o8_0=XC o8) 1099511627776 i2 ⟨0,rfl,h⟩ ?_
    rintro j _ ⟨o8_0,rfl,h⟩
    cases j with
    |zero=>cases(show(XF:Option _)=XC _ from h)
    |succ j=>
     rw[F4_l8]at h
     refine ww ?_
     obtain⟨o9,ho,h⟩:=bi h
     refine bD (fun s=>s=⟨[(2,oM (x2.map bN)),(7,Pz 0),(8,oI (o5_30:Int)),(9,Pz 1),(10,oI o8_0),(45,oB o9)],[xb [dS o5_0,dS o5_1,dS o5_2,dI o5_3,dI o5_4,dI o5_5,dI o5_6,dB o5_7,dI o5_8,dM (o5_9.map cR),dM (o5_10.map cP),dM (o5_11.map eS),dM (o5_12.map bU),dI o5_13,dI o5_14,dI o5_15,dI o5_16,dB o5_17,dM (o5_18.map dP),dB o5_19,dI o5_20,dB o5_21,dB o5_22,dM (o5_23.map aR),dI o5_24,dM (o5_25.map bT),dM (o5_26.map aR),dI o5_27,dI o5_28,dI o5_29],xb (dy t7)]⟩) ?_ ?_
     ·have h:=ho
      refine ww ?_
      refine bR h (fun g10 h=>ww ?_) (fun g10 h=>?_)
      ·refine bI (enc:=bN) (xs:=x2) rfl rfl hxo5 rfl (ww ?_)
       cases h
       exact eM i2 rfl
      ·refine ww ?_
       cases h
       exact eM i2 rfl
     ·rintro _ rfl
      refine ww ?_
      refine ct h (fun c11 h=>ww ?_) (fun c11 h=>?_)
      ·obtain⟨y12,hy12,h⟩:=bi h
       refine bI (enc:=bT) (xs:=o5_25) rfl rfl hy12 rfl (ww ?_)
       obtain⟨o13,ho,h⟩:=bi h
       refine bD (fun s=>∃po13,o13=XI po13∧s=⟨[(2,oM (x2.map bN)),(7,Pz 0),(8,oI (o5_30:Int)),(9,Pz 1),(10,oI o8_0)],[xb [dS o5_0,dS o5_1,dS o5_2,dI o5_3,dI o5_4,dI o5_5,dI o5_6,dB o5_7,dI o5_8,dM (o5_9.map cR),dM (o5_10.map cP),dM (o5_11.map eS),dM (o5_12.map bU),dI o5_13,dI o5_14,dI o5_15,dI o5_16,dB o5_17,dM (o5_18.map dP),dB o5_19,dI o5_20,dB o5_21,dB o5_22,dM (o5_23.map aR),dI o5_24,dM (o5_25.map bT),dM (o5_26.map aR),dI o5_27,dI o5_28,dI o5_29],xb (dy t7)]⟩) ?_ ?_
       ·have h0o13:=h
        have h:=ho
        refine ww ?_
        refine bL (fun j s=>∃(o13_0:Int),s=⟨[(2,oM (x2.map bN)),(7,Pz 0),(8,oI (o5_30:Int)),(9,Pz 1),(10,oI o8_0),(11,Pz 2),(12,oI o13_0)],[xb [dS o5_0,dS o5_1,dS o5_2,dI o5_3,dI o5_4,dI o5_5,dI o5_6,dB o5_7,dI o5_8,dM (o5_9.map cR),dM (o5_10.map cP),dM (o5_11.map eS),dM (o5_12.map bU),dI o5_13,dI o5_14,dI o5_15,dI o5_16,dB o5_17,dM (o5_18.map dP),dB o5_19,dI o5_20,dB o5_21,dB o5_22,dM (o5_23.map aR),dI o5_24,dM (o5_25.map bT),dM (o5_26.map aR),dI o5_27,dI o5_28,dI o5_29],xb (dy t7),xb (jD y12.an)]⟩∧F4_l13 t7 y12 j o13_0=XC o13) 1099511627776 i3 ⟨0,rfl,h⟩ ?_
        rintro j _ ⟨o13_0,rfl,h⟩
        cases j with
        |zero=>cases(show(XF:Option _)=XC _ from h)
        |succ j=>
         rw[F4_l13]at h
         refine ww ?_
         obtain⟨o14,ho,h⟩:=bi h
         refine bD (fun s=>s=⟨[(2,oM (x2.map bN)),(7,Pz 0),(8,oI (o5_30:Int)),(9,Pz 1),(10,oI o8_0),(11,Pz 2),(12,oI o13_0),(62,oB o14)],[xb [dS o5_0,dS o5_1,dS o5_2,dI o5_3,dI o5_4,dI o5_5,dI o5_6,dB o5_7,dI o5_8,dM (o5_9.map cR),dM (o5_10.map cP),dM (o5_11.map eS),dM (o5_12.map bU),dI o5_13,dI o5_14,dI o5_15,dI o5_16,dB o5_17,dM (o5_18.map dP),dB o5_19,dI o5_20,dB o5_21,dB o5_22,dM (o5_23.map aR),dI o5_24,dM (o5_25.map bT),dM (o5_26.map aR),dI o5_27,dI o5_28,dI o5_29],xb (dy t7),xb (jD y12.an)]⟩) ?_ ?_
         ·have h:=ho
          refine ww ?_
          refine bR h (fun g15 h=>ww ?_) (fun g15 h=>?_)
          ·obtain⟨t16,ht16,h⟩:=bi h
           refine cN [] (F11_ok ht16) trivial (ww ?_)
           cases h
           exact eM i3 rfl
          ·refine ww ?_
           cases h
           exact eM i3 rfl
         ·rintro _ rfl
          refine ww ?_
          refine ct h (fun c17 h=>ww ?_) (fun c17 h=>?_)
          ·obtain⟨y18,hy18,h⟩:=bi h
           refine bI (enc:=bT) (xs:=t7.bq) rfl rfl hy18 rfl (ww ?_)
           obtain⟨o19,ho,h⟩:=bi h
           refine bD (fun s=>s=⟨[(2,oM (x2.map bN)),(7,Pz 0),(8,oI (o5_30:Int)),(9,Pz 1),(10,oI o8_0),(11,Pz 2),(12,oI o13_0),(104,oB o19)],[xb [dS o5_0,dS o5_1,dS o5_2,dI o5_3,dI o5_4,dI o5_5,dI o5_6,dB o5_7,dI o5_8,dM (o5_9.map cR),dM (o5_10.map cP),dM (o5_11.map eS),dM (o5_12.map bU),dI o5_13,dI o5_14,dI o5_15,dI o5_16,dB o5_17,dM (o5_18.map dP),dB o5_19,dI o5_20,dB o5_21,dB o5_22,dM (o5_23.map aR),dI o5_24,dM (o5_25.map bT),dM (o5_26.map aR),dI o5_27,dI o5_28,dI o5_29],xb (dy t7),xb (jD y12.an)]⟩) ?_ ?_
           ·have h:=ho
            refine ww ?_
            obtain⟨t20,ht20,h⟩:=bi h
            refine cN [] (F15_ok ht20) trivial (ww ?_)
            obtain⟨t21,ht21,h⟩:=bi h
            refine cN [] (F15_ok ht21) trivial (ww ?_)
            refine ib h (fun g22 h=>ww ?_) (fun g22 h=>?_)
            ·refine ib h (fun g23 h=>ww ?_) (fun g23 h=>?_)
             ·cases h
              exact eM i3 rfl
             ·refine ww ?_
              refine ib h (fun g24 h=>ww ?_) (fun g24 h=>?_)
              ·cases h
               exact eM i3 rfl
              ·refine ww ?_
               cases h
               exact eM i3 rfl
            ·refine ww ?_
             cases h
             exact eM i3 rfl
           ·rintro _ rfl
            refine ww ?_
            refine ct h (fun c25 h=>ww ?_) (fun c25 h=>?_)
            ·obtain⟨fh0o13,hfh0o13,rfl⟩:=XD.1 h
             have h:=hfh0o13.trans h0o13
             obtain⟨fh0o8,hfh0o8,rfl⟩:=XD.1 h
             have h:=hfh0o8.trans h0o8
             obtain⟨fh0o5,hfh0o5,rfl⟩:=XD.1 h
             have h:=hfh0o5.trans h0o5
             cases h
             exact eF []
            ·refine ww ?_
             exact jo j i3 ⟨(XK.wrap (o13_0+1)),rfl,h⟩ (Nat.lt_succ_self _)
          ·refine ww ?_
           cases h
           exact eM i2 ⟨_,rfl,rfl⟩
       ·rintro _ ⟨po13,rfl,rfl⟩
        dsimp only at h
        refine ww ?_
        exact jo j i2 ⟨(XK.wrap (o8_0+1)),rfl,h⟩ (Nat.lt_succ_self _)
      ·refine ww ?_
       cases h
       exact eM i2 ⟨_,rfl,rfl⟩
   rintro _ ⟨po8,rfl,rfl⟩
   dsimp only at h
   refine ww ?_
   rw[cL (by omega)]
   exact jo (x2.length-(o5_30+1)) [XC 0] ⟨o5_30+1,t7.Node.ak.bY,t7.Node.ak.bE,t7.Node.ak.aV,t7.Node.ak.jH,t7.Node.ak.cE,t7.Node.ak.bA,t7.Node.ak.cF,t7.Node.ak.bP,t7.Node.ak.bz,t7.Node.ak.cS,t7.Node.ak.cZ,t7.Node.ak.bB,t7.Node.ak.b9,t7.Node.aJ.de,t7.Node.aJ.aG,t7.Node.aJ.bF,t7.Node.cJ,t7.Node.cY,t7.Node.dQ,t7.Node.bd,t7.Node.jR,t7.Node.fa,t7.Node.dU,t7.Node.aM,t7.cl,t7.bq,t7.aM,t7.bW,t7.bO,t7.b8,⟨by omega,rfl⟩,rfl,h⟩ (by omega)
  rw[cX (show¬((o5_30:Int)<(x2.length:Int))from c6),F4_l5]at h
  refine ww ?_
  cases h
  exact eM [] ⟨_,rfl,rfl⟩
 rintro _ ⟨po5,rfl,rfl⟩
 dsimp only at h
 refine ww ?_
 obtain⟨t27,ht27,h⟩:=bi h
 refine cN [] (F8_ok ht27) trivial (ww ?_)
 cases h
 exact eF []
end Go.Proofs.YtojbebejhgbfeaaGreat
