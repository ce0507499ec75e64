/- Each Go function as a function over typed data, and its walk. -/
import Derived.Test.YtdejhahgpojnoaaW0
import Derived.Test.YtdejhahgpojnoaaW2
import Derived.Test.YtdejhahgpojnoaaW5
import Derived.Test.YtdejhahgpojnoaaW6
import Derived.Test.YtdejhahgpojnoaaW7
namespace Go.Proofs.Ytdejhahgpojnoaa
open Go Go.Fw Go.Shelf
set_option maxRecDepth 100000
set_option maxHeartbeats 4000000
set_option linter.unusedSimpArgs false
set_option linter.unusedVariables false
def F23(x0:ByteArray)(x1:ByteArray):Option (Int):=(F43 x0 x1).bind fun t1=>some t1
def a23:AFn:=⟨8,[(.tmp 4)],
 (.seq (.reg [Qe 4 0])
 (.seq (.reg [Qa 5 0,
Qa 6 1,
Ql 7 43 5 6,
Qa 4 7])
 .ret))⟩
theorem F23_ok{x0 x1 r}(h:F23 x0 x1=some r):CallD Try.prog 23 [.c (dS x0),.c (dS x1)] [] (tupV [.c (dI r)]) []:=by
 rw[F23]at h
 refine zc a23 (by kernel_rfl) rfl (ww ?_)
 obtain⟨t1,ht1,h⟩:=bi h
 refine cN [] (F43_ok ht1) trivial (ww ?_)
 cases h
 exact eF []
def F22(x0:GcAction)(x1:GcAction):Option (Int):=(F23 x0.Key x1.Key).bind fun t1=>some t1
def a22:AFn:=⟨10,[(.tmp 4)],
 (.seq (.reg [Qg 2 0,
Qg 3 1,
Qe 4 0])
 (.seq (.reg [Qb 5 1 2,
Qd 6 5,
Qb 7 1 3,
Qd 8 7,
Ql 9 23 6 8,
Qa 4 9])
 .ret))⟩
theorem F22_ok{x0 x1 r}(h:F22 x0 x1=some r):CallD Try.prog 22 [.agg (bGcAction x0),.agg (bGcAction x1)] [] (tupV [.c (dI r)]) []:=by
 rw[F22]at h
 refine zc a22 (by kernel_rfl) rfl (ww ?_)
 obtain⟨t1,ht1,h⟩:=bi h
 refine cN [] (F23_ok ht1) trivial (ww ?_)
 cases h
 exact eF []
def F47(x0:(List Owner))(b0:Int)(b1:Bool):Option (Bool):=(F55v4 x0 b0 b1).bind fun t1=>some (decide (0≤t1))
def a47:AFn:=⟨9,[(.tmp 4)],
 (.seq (.reg [Qf 4 false])
 (.seq (.reg [Qa 5 0,
Qa 6 1,
Ql 7 55 5 6,
sq 8 (.bin .geq (.t 7) (kI 0)),
Qa 4 8])
 .ret))⟩
theorem F47_ok{x0 b0 b1 r}(h:F47 x0 b0 b1=some r):CallD Try.prog 47 [.c (dM (x0.map eOwner)),.c (.fn 48 [(0,0),(1,0)])] [xb [dI b0],xb [dB b1]] (tupV [.c (dB r)]) [xb [dI b0],xb [dB b1]]:=by
 rw[F47]at h
 refine zc a47 (by kernel_rfl) rfl (ww ?_)
 obtain⟨t1,ht1,h⟩:=bi h
 refine cN [0,1] (F55v4_ok ht1) ⟨⟨rfl,by simp[Blk.live,C.live,hp]⟩,⟨⟨rfl,by simp[Blk.live,C.live,hp]⟩,trivial⟩⟩ ?_
 refine ww ?_
 cases h
 exact eF [some 0,some 1]
def F25(x0:Object)(x1:Int)(x2:Bool):Option (Bool):=(F47 x0.Meta.Owners x1 x2).bind fun t1=>some t1
def a25:AFn:=⟨12,[(.tmp 6)],
 (.seq (.reg [Qg 3 0,
Qg 4 1,
Qg 5 2,
Qf 6 false])
 (.seq (.reg [Qb 7 0 3,
Qb 8 10 7,
Qd 9 8,
sq 10 (.fn 48 [(.t 4),(.t 5)]),
Ql 11 47 9 10,
Qa 6 11])
 .ret))⟩
theorem F25_ok{x0 x1 x2 r}(h:F25 x0 x1 x2=some r):CallD Try.prog 25 [.agg (bObject x0),.c (dI x1),.c (dB x2)] [] (tupV [.c (dB r)]) []:=by
 rw[F25]at h
 refine zc a25 (by kernel_rfl) rfl (ww ?_)
 obtain⟨t1,ht1,h⟩:=bi h
 refine cN [1,2] (F47_ok ht1) ⟨⟨rfl,by simp[Blk.live,C.live,hp]⟩,⟨⟨rfl,by simp[Blk.live,C.live,hp]⟩,trivial⟩⟩ ?_
 refine ww ?_
 cases h
 exact eF []
def F44_l1(x1:Int)(x2:ByteArray):List Object→Nat→Option ((Bool) ⊕ (Unit))
 |[],o1_0=>some (Sum.inr (()))
 |xo1::xs,o1_0=>(((if xo1.Meta.Uid=x1 then(F45 xo1 x2).bind fun t5=>some t5 else some false)).bind fun o3=>(if o3=true then(some true).map Sum.inl else F44_l1 x1 x2 xs (o1_0+1)))
def F44(x0:(List Object))(x1:Int)(x2:ByteArray):Option (Bool):=(((ck (0≤x0.length∧x0.length≤4294967290)).bind fun u7=>F44_l1 x1 x2 x0 0:Option ((Bool) ⊕ (Unit))).bind fun o1=>match o1 with|Sum.inl f=>some f|Sum.inr po1=>some false)
def a44:AFn:=⟨30,[(.tmp 6)],
 (.seq (.reg [Qf 6 false])
 (.seq (.seq (.reg [Qe 7 0])
 (.sem (.block 0 (.loop (.seq (.seq (.reg [Qa 8 7,
Qa 9 0,
Qh 10 9,
Qn 11 8 10])
 (.cond (.t 11)
 .skip
 (.exit 0)))
 (.seq (.block 1 (.seq (.sem (.reg [Qa 14 0,
Qa 15 7,
Qp 16 23 14 15,
Qb 17 0 16,
Qb 18 3 17,
Qd 19 18,
Qa 20 1,
sq 21 (.bin .eql (.t 19) (.t 20)),
Qa 22 21,
Qv 23 22 true 0,
Qv 24 22 true 7,
zg 25 22 true (.indexA 23 (.t 23) (.t 24)),
Qu 26 22 true 23 25,
Qv 27 22 true 2,
zg 28 22 true (.call 45 [(.t 26),(.t 27)]),
Qi 29 22 28]))
 (.cond (.t 29)
 (.seq (.reg [Qf 6 true])
 .ret)
 .skip)))
 (.reg [Qa 12 7,
Qm 13 12 1,
Qa 7 13])))))))
 (.seq (.reg [Qf 6 false])
 .ret)))⟩
theorem F44_ok{x0 x1 x2 r}(h:F44 x0 x1 x2=some r):CallD Try.prog 44 [.c (dM (x0.map eObject)),.c (dI x1),.c (dS x2)] [] (tupV [.c (dB r)]) []:=by
 rw[F44]at h
 refine zc a44 (by kernel_rfl) rfl (ww ?_)
 obtain⟨o1,ho,h⟩:=bi h
 refine cutS (fun s=>∃po1,o1=Sum.inr po1∧s=⟨[],[]⟩) ?_ ?_
 ·have h0o1:=h
  have h:=ho
  clear ho
  obtain⟨_,hk,h⟩:=bi h
  have hk:=ck_some hk
  refine ww ?_
  refine bL (fun j s=>∃(o1_0:Nat),(o1_0≤x0.length∧j=x0.length-o1_0)∧s=⟨[(0,oc (dM (x0.map eObject))),(1,oc (dI x1)),(2,oc (dS x2)),(7,oc (dI ((o1_0:Int))))],[]⟩∧F44_l1 x1 x2 (x0.drop o1_0) o1_0=some o1) (x0.length-0) [] ⟨0,⟨hk.1,rfl⟩,rfl,h⟩ ?_
  rintro _ _ ⟨o1_0,⟨hi,rfl⟩,rfl,h⟩
  refine ww ?_
  refine condS (fun c2=>?_) (fun c2=>?_)
  ·obtain⟨xo1,hxo1,hd⟩:=countY (show(o1_0:Int)<(x0.length:Int)from c2)
   rw[hd,F44_l1]at h
   refine ww ?_
   obtain⟨o3,ho,h⟩:=bi h
   refine cutS (fun s=>s=⟨[(0,oc (dM (x0.map eObject))),(1,oc (dI x1)),(2,oc (dS x2)),(7,oc (dI ((o1_0:Int)))),(29,oc (dB o3))],[]⟩) ?_ ?_
   ·have h:=ho
    clear ho
    refine ww ?_
    refine t_idxF (enc:=eObject) (xs:=x0) rfl rfl hxo1 rfl (ww ?_)
    refine guardSh h (fun g4 h=>ww ?_) (fun g4 h=>ww ?_)
    ·refine t_idxF (enc:=eObject) (xs:=x0) rfl rfl hxo1 rfl (ww ?_)
     obtain⟨t5,ht5,h⟩:=bi h
     refine cN [] (F45_ok ht5) trivial (ww ?_)
     cases h
     exact eM [] rfl
    cases h
    exact eM [] rfl
   rintro _ rfl
   clear ho
   refine ww ?_
   refine condBh h (fun c6 h=>ww ?_) (fun c6 h=>ww ?_)
   ·obtain⟨fh0o1,hfh0o1,rfl⟩:=Option.map_eq_some_iff.1 h
    have h:=hfh0o1.trans h0o1
    cases h
    exact eF []
   rw[wrapN (by omega)]
   exact eL' (x0.length-(o1_0+1)) [] ⟨o1_0+1,⟨by omega,rfl⟩,rfl,h⟩ (by omega)
  rw[countN (show¬((o1_0:Int)<(x0.length:Int))from c2),F44_l1]at h
  refine ww ?_
  cases h
  exact eM [] ⟨_,rfl,rfl⟩
 rintro _ ⟨po1,rfl,rfl⟩
 clear ho
 dsimp only at h
 refine ww ?_
 cases h
 exact eF []
def F24_l2(x0:(List Object))(x1:Object):Nat→Int→Int→Int→Int→Option (Int×Int×Int)
 |0,_,_,_,_=>none
 |k+1,o2_0,o2_1,o2_2,o2_3=>(if 0≤o2_3 then(((rdI x1.Meta.Owners o2_3).bind fun y5=>(F32 x0 y5.Uid).bind fun t6=>(if t6=true then some ((o2_0,o2_1,(IntKind.i64.wrap (o2_2+1))))else some ((y5.Uid,(IntKind.i64.wrap (o2_1+1)),o2_2)))).bind fun o4=>F24_l2 x0 x1 k o4.1 o4.2.1 o4.2.2 ((IntKind.i64.wrap (o2_3-1))))else some ((o2_0,o2_1,o2_2)))
def F24_l14(t1:ByteArray)(x0:(List Object))(x1:Object):List Owner→Nat→Option ((GcAction×Bool) ⊕ (Unit))
 |[],o14_0=>some (Sum.inr (()))
 |xo14::xs,o14_0=>(F44 x0 xo14.Uid ((⟨#[111,114,112,104,97,110,45,100,101,112,101,110,100,101,110,116,115]⟩:ByteArray))).bind fun t16=>(if t16=true then(some (((⟨3,t1,x1.Meta.Uid,xo14.Uid,(⟨#[]⟩:ByteArray)⟩:GcAction),true))).map Sum.inl else F24_l14 t1 x0 x1 xs (o14_0+1))
def F24_l19(t1:ByteArray)(x0:(List Object))(x1:Object):List Owner→Nat→Option ((GcAction×Bool) ⊕ (Unit))
 |[],o19_0=>some (Sum.inr (()))
 |xo19::xs,o19_0=>(((if(nb x1.Meta.Deleting)=true then(if xo19.Block=true then(F44 x0 xo19.Uid ((⟨#[102,111,114,101,103,114,111,117,110,100,45,100,101,108,101,116,105,111,110]⟩:ByteArray))).bind fun t24=>some t24 else some false)else some false)).bind fun o21=>(if o21=true then(some (((⟨4,t1,x1.Meta.Uid,0,(⟨#[]⟩:ByteArray)⟩:GcAction),true))).map Sum.inl else F24_l19 t1 x0 x1 xs (o19_0+1)))
def F24(x0:(List Object))(x1:Object):Option (GcAction×Bool):=(F30 x1.Meta).bind fun t1=>((F24_l2 x0 x1 1099511627776 0 0 0 ((IntKind.i64.wrap (((x1.Meta.Owners.length:Int))-1)))).bind fun o2=>(((if 0<o2.2.1 then some (decide (0<o2.2.2))else some false)).bind fun o8=>(if o8=true then some (((⟨3,t1,x1.Meta.Uid,o2.1,(⟨#[]⟩:ByteArray)⟩:GcAction),true))else(((if 0<o2.2.1 then some (nb x1.Meta.Deleting)else some false)).bind fun o11=>(if o11=true then some (((⟨1,t1,x1.Meta.Uid,0,(⟨#[]⟩:ByteArray)⟩:GcAction),true))else(((ck (0≤x1.Meta.Owners.length∧x1.Meta.Owners.length≤4294967290)).bind fun u18=>F24_l14 t1 x0 x1 x1.Meta.Owners 0:Option ((GcAction×Bool) ⊕ (Unit))).bind fun o14=>match o14 with|Sum.inl f=>some f|Sum.inr po14=>(((ck (0≤x1.Meta.Owners.length∧x1.Meta.Owners.length≤4294967290)).bind fun u26=>F24_l19 t1 x0 x1 x1.Meta.Owners 0:Option ((GcAction×Bool) ⊕ (Unit))).bind fun o19=>match o19 with|Sum.inl f=>some f|Sum.inr po19=>(((F45 x1 ((⟨#[111,114,112,104,97,110,45,100,101,112,101,110,100,101,110,116,115]⟩:ByteArray))).bind fun t28=>(if t28=true then(F46 x0 x1.Meta.Uid false).bind fun t30=>some (nb t30)else some false)).bind fun o27=>(if o27=true then some (((⟨2,t1,x1.Meta.Uid,0,(⟨#[111,114,112,104,97,110,45,100,101,112,101,110,100,101,110,116,115]⟩:ByteArray)⟩:GcAction),true))else(((F45 x1 ((⟨#[102,111,114,101,103,114,111,117,110,100,45,100,101,108,101,116,105,111,110]⟩:ByteArray))).bind fun t33=>(if t33=true then(F46 x0 x1.Meta.Uid true).bind fun t35=>some (nb t35)else some false)).bind fun o32=>(if o32=true then some (((⟨2,t1,x1.Meta.Uid,0,(⟨#[102,111,114,101,103,114,111,117,110,100,45,100,101,108,101,116,105,111,110]⟩:ByteArray)⟩:GcAction),true))else some (((⟨0,(⟨#[]⟩:ByteArray),0,0,(⟨#[]⟩:ByteArray)⟩:GcAction),false)))))))))))))
def a24:AFn:=⟨143,[(.cell 4 (some 5)),(.tmp 5)],
 (.seq (.reg [Qg 3 1,
sq 4 (.zbox [dI 0,dS ⟨#[]⟩,dI 0,dI 0,dS ⟨#[]⟩]),
Qf 5 false])
 (.seq (.reg [Qb 13 0 3,
Qc 14 13 13,
sq 6 (.zbox [dS ⟨#[]⟩,dS ⟨#[]⟩,dS ⟨#[]⟩,dI 0,dI 0,dI 0,dI 0,dB false,dI 0,dN,dN,dN,dN]),
su (.store 13 (.t 6) (.t 14))])
 (.seq (.regd [Qc 15 13 6,
zn 16 (.call 30 [(.t 15)]) [0] [0],
Qb 17 3 6,
sd 18 (.load none (.t 17)) [2],
sd 19 (.build [dI 0,dS ⟨#[]⟩,dI 0,dI 0,dS ⟨#[]⟩] [(1,1,(.t 16)),(2,1,(.t 18))]) [0,1,2,3],
sq 7 (.zbox [dI 0,dS ⟨#[]⟩,dI 0,dI 0,dS ⟨#[]⟩]),
⟨none,none,.store 5 (.t 7) (.t 19),[0,1,2,3,4,5],(.lone [])⟩])
 (.seq (.reg [Qe 8 0,
Qe 9 0])
 (.seq (.seq (.reg [Qb 20 10 6,
Qd 21 20,
Qh 22 21,
sq 23 (.bin .sub (.t 22) (kI 1)),
Qa 10 23])
 (.sem (.block 0 (.loop (.seq (.seq (.reg [Qa 24 10,
sq 25 (.bin .geq (.t 24) (kI 0))])
 (.cond (.t 25)
 .skip
 (.exit 0)))
 (.seq (.sem (.block 1 (.seq (.reg [Qa 28 0,
Qb 29 10 6,
Qd 30 29,
Qa 31 10,
Qp 32 5 30 31,
Qb 33 2 32,
Qd 34 33,
zl 35 (.call 32 [(.t 28),(.t 34)]) [] [6,29,30,32,33]])
 (.cond (.t 35)
 (.reg [Qa 36 9,
Qm 37 36 1,
Qa 9 37])
 (.seq (.reg [Qa 38 8,
Qm 39 38 1,
Qa 8 39])
 (.reg [Qb 40 10 6,
Qd 41 40,
Qa 42 10,
Qp 43 5 41 42,
Qb 44 2 43,
Qd 45 44,
Qb 46 3 7,
⟨none,none,.store 1 (.t 46) (.t 45),[],(.lone [6,40,41,43,44,7])⟩]))))))
 (.reg [Qa 26 10,
sq 27 (.bin .sub (.t 26) (kI 1)),
Qa 10 27])))))))
 (.seq (.seq (.sem (.reg [Qa 47 8,
sq 48 (.bin .gtr (.t 47) (kI 0)),
Qa 49 48,
Qv 50 49 true 9,
zg 51 49 true (.bin .gtr (.t 50) (kI 0)),
zl 52 (.pick (.t 49) (.t 51) (kB false)) [] []]))
 (.cond (.t 52)
 (.seq (.reg [Qb 53 0 7,
⟨none,none,.store 1 (.t 53) (kI 3),[],(.lone [7])⟩])
 (.seq (.reg [Qc 54 5 7,
su (.store 5 (.t 4) (.t 54)),
Qf 5 true])
 .ret))
 .skip))
 (.seq (.reg [Qb 55 3 7,
⟨none,none,.store 1 (.t 55) (kI 0),[],(.lone [7])⟩])
 (.seq (.seq (.sem (.reg [Qa 56 8,
sq 57 (.bin .gtr (.t 56) (kI 0)),
Qa 58 57,
Qs 59 58 true 7 6,
Qt 60 58 true 59,
zg 61 58 true (.not (.t 60)),
zl 62 (.pick (.t 58) (.t 61) (kB false)) [] [6,59]]))
 (.cond (.t 62)
 (.seq (.reg [Qb 63 0 7,
⟨none,none,.store 1 (.t 63) (kI 1),[],(.lone [7])⟩])
 (.seq (.reg [Qc 64 5 7,
su (.store 5 (.t 4) (.t 64)),
Qf 5 true])
 .ret))
 .skip))
 (.seq (.seq (.reg [Qe 11 0])
 (.sem (.block 2 (.loop (.seq (.seq (.reg [Qa 65 11,
Qb 66 10 6,
Qd 67 66,
Qh 68 67,
Qn 69 65 68])
 (.cond (.t 69)
 .skip
 (.exit 2)))
 (.seq (.block 3 (.seq (.reg [Qa 72 0,
Qb 73 10 6,
Qd 74 73,
Qa 75 11,
Qp 76 5 74 75,
Qb 77 2 76,
Qd 78 77,
zl 79 (.call 44 [(.t 72),(.t 78),(kS ⟨#[111,114,112,104,97,110,45,100,101,112,101,110,100,101,110,116,115]⟩)]) [] [6,73,74,76,77]])
 (.cond (.t 79)
 (.seq (.reg [Qb 80 0 7,
⟨none,none,.store 1 (.t 80) (kI 3),[],(.lone [7])⟩])
 (.seq (.reg [Qb 81 10 6,
Qd 82 81,
Qa 83 11,
Qp 84 5 82 83,
Qb 85 2 84,
Qd 86 85,
Qb 87 3 7,
⟨none,none,.store 1 (.t 87) (.t 86),[],(.lone [6,81,82,84,85,7])⟩])
 (.seq (.reg [Qc 88 5 7,
su (.store 5 (.t 4) (.t 88)),
Qf 5 true])
 .ret)))
 .skip)))
 (.reg [Qa 70 11,
Qm 71 70 1,
Qa 11 71])))))))
 (.seq (.seq (.reg [Qe 12 0])
 (.sem (.block 4 (.loop (.seq (.seq (.reg [Qa 89 12,
Qb 90 10 6,
Qd 91 90,
Qh 92 91,
Qn 93 89 92])
 (.cond (.t 93)
 .skip
 (.exit 4)))
 (.seq (.block 5 (.seq (.sem (.reg [Qb 96 7 6,
Qd 97 96,
Qq 98 97,
Qa 99 98,
Qs 100 99 true 10 6,
Qt 101 99 true 100,
Qv 102 99 true 12,
zg 103 99 true (.indexA 5 (.t 101) (.t 102)),
Qs 104 99 true 4 103,
Qt 105 99 true 104,
Qi 106 99 105,
Qa 107 106,
Qv 108 107 true 0,
Qs 109 107 true 10 6,
Qt 110 107 true 109,
Qv 111 107 true 12,
zg 112 107 true (.indexA 5 (.t 110) (.t 111)),
Qs 113 107 true 2 112,
Qt 114 107 true 113,
zg 115 107 true (.call 44 [(.t 108),(.t 114),(kS ⟨#[102,111,114,101,103,114,111,117,110,100,45,100,101,108,101,116,105,111,110]⟩)]),
Qi 116 107 115]))
 (.cond (.t 116)
 (.seq (.reg [Qb 117 0 7,
⟨none,none,.store 1 (.t 117) (kI 4),[],(.lone [7])⟩])
 (.seq (.reg [Qc 118 5 7,
su (.store 5 (.t 4) (.t 118)),
Qf 5 true])
 .ret))
 .skip)))
 (.reg [Qa 94 12,
Qm 95 94 1,
Qa 12 95])))))))
 (.seq (.reg [Qb 119 0 7,
⟨none,none,.store 1 (.t 119) (kI 2),[],(.lone [7])⟩])
 (.seq (.seq (.sem (.reg [Qc 120 23 3,
sq 121 (.call 45 [(.t 120),(kS ⟨#[111,114,112,104,97,110,45,100,101,112,101,110,100,101,110,116,115]⟩)]),
Qa 122 121,
Qv 123 122 true 0,
Qs 124 122 true 3 6,
Qt 125 122 true 124,
zg 126 122 true (.call 46 [(.t 123),(.t 125),(kB false)]),
zg 127 122 true (.not (.t 126)),
Qi 128 122 127]))
 (.cond (.t 128)
 (.seq (.reg [Qb 129 4 7,
⟨none,none,.store 1 (.t 129) (kS ⟨#[111,114,112,104,97,110,45,100,101,112,101,110,100,101,110,116,115]⟩),[],(.lone [7])⟩])
 (.seq (.reg [Qc 130 5 7,
su (.store 5 (.t 4) (.t 130)),
Qf 5 true])
 .ret))
 .skip))
 (.seq (.seq (.sem (.reg [Qc 131 23 3,
sq 132 (.call 45 [(.t 131),(kS ⟨#[102,111,114,101,103,114,111,117,110,100,45,100,101,108,101,116,105,111,110]⟩)]),
Qa 133 132,
Qv 134 133 true 0,
Qs 135 133 true 3 6,
Qt 136 133 true 135,
zg 137 133 true (.call 46 [(.t 134),(.t 136),(kB true)]),
zg 138 133 true (.not (.t 137)),
Qi 139 133 138]))
 (.cond (.t 139)
 (.seq (.reg [Qb 140 4 7,
⟨none,none,.store 1 (.t 140) (kS ⟨#[102,111,114,101,103,114,111,117,110,100,45,100,101,108,101,116,105,111,110]⟩),[],(.lone [7])⟩])
 (.seq (.reg [Qc 141 5 7,
su (.store 5 (.t 4) (.t 141)),
Qf 5 true])
 .ret))
 .skip))
 (.seq (.reg [sq 142 (.build [dI 0,dS ⟨#[]⟩,dI 0,dI 0,dS ⟨#[]⟩] []),
su (.store 5 (.t 4) (.t 142)),
Qf 5 false])
 .ret))))))))))))))⟩
theorem F24_ok{x0 x1 r}(h:F24 x0 x1=some r):CallD Try.prog 24 [.c (dM (x0.map eObject)),.agg (bObject x1)] [] (tupV [.agg (bGcAction (r.1)),.c (dB r.2)]) []:=by
 rw[F24]at h
 refine zc a24 (by kernel_rfl) rfl (ww ?_)
 obtain⟨t1,ht1,h⟩:=bi h
 refine cN [] (F30_ok ht1) trivial (ww ?_)
 refine kD_new (by simp[wrs,allW,hset]) (ww ?_)
 obtain⟨o2,ho,h⟩:=bi h
 refine cutS (fun s=>s=⟨[(0,oc (dM (x0.map eObject))),(3,Pz 0),(4,Pz 1),(6,Pz 2),(7,Pz 3),(8,oc (dI o2.2.1)),(9,oc (dI o2.2.2))],[xb (bObject x1),xb [dI 0,dS ((⟨#[]⟩:ByteArray)),dI 0,dI 0,dS ((⟨#[]⟩:ByteArray))],xb (bMeta x1.Meta),xb [dI 0,dS t1,dI x1.Meta.Uid,dI o2.1,dS ((⟨#[]⟩:ByteArray))]]⟩) ?_ ?_
 ·have h:=ho
  clear ho
  refine ww ?_
  refine bL (fun j s=>∃(o2_0:Int) (o2_1:Int) (o2_2:Int) (o2_3:Int),s=⟨[(0,oc (dM (x0.map eObject))),(3,Pz 0),(4,Pz 1),(6,Pz 2),(7,Pz 3),(8,oc (dI o2_1)),(9,oc (dI o2_2)),(10,oc (dI o2_3))],[xb (bObject x1),xb [dI 0,dS ((⟨#[]⟩:ByteArray)),dI 0,dI 0,dS ((⟨#[]⟩:ByteArray))],xb (bMeta x1.Meta),xb [dI 0,dS t1,dI x1.Meta.Uid,dI o2_0,dS ((⟨#[]⟩:ByteArray))]]⟩∧F24_l2 x0 x1 j o2_0 o2_1 o2_2 o2_3=some o2) 1099511627776 [some 0,some 1,some 2,some 3] ⟨0,0,0,(IntKind.i64.wrap (((x1.Meta.Owners.length:Int))-1)),rfl,h⟩ ?_
  rintro j _ ⟨o2_0,o2_1,o2_2,o2_3,rfl,h⟩
  cases j with
  |zero=>cases(show(none:Option _)=some _ from h)
  |succ j=>
   rw[F24_l2]at h
   refine ww ?_
   refine condSh h (fun c3 h=>ww ?_) (fun c3 h=>?_)
   ·obtain⟨o4,ho,h⟩:=bi h
    refine cutS (fun s=>s=⟨[(0,oc (dM (x0.map eObject))),(3,Pz 0),(4,Pz 1),(6,Pz 2),(7,Pz 3),(8,oc (dI o4.2.1)),(9,oc (dI o4.2.2)),(10,oc (dI o2_3))],[xb (bObject x1),xb [dI 0,dS ((⟨#[]⟩:ByteArray)),dI 0,dI 0,dS ((⟨#[]⟩:ByteArray))],xb (bMeta x1.Meta),xb [dI 0,dS t1,dI x1.Meta.Uid,dI o4.1,dS ((⟨#[]⟩:ByteArray))]]⟩) ?_ ?_
    ·have h:=ho
     clear ho
     refine ww ?_
     obtain⟨y5,hy5,h⟩:=bi h
     refine t_idxF (enc:=eOwner) (xs:=x1.Meta.Owners) rfl rfl hy5 rfl (ww ?_)
     obtain⟨t6,ht6,h⟩:=bi h
     refine cN [] (F32_ok ht6) trivial (ww ?_)
     refine condBh h (fun c7 h=>ww ?_) (fun c7 h=>?_)
     ·cases h
      exact eM [some 0,some 1,some 2,some 3] rfl
     ·refine ww ?_
      refine t_idxF (enc:=eOwner) (xs:=x1.Meta.Owners) rfl rfl hy5 rfl (ww ?_)
      cases h
      exact eM [some 0,some 1,some 2,some 3] rfl
    ·rintro _ rfl
     clear ho
     refine ww ?_
     exact eL' j [some 0,some 1,some 2,some 3] ⟨o4.1,o4.2.1,o4.2.2,(IntKind.i64.wrap (o2_3-1)),rfl,h⟩ (Nat.lt_succ_self _)
   ·refine ww ?_
    cases h
    exact eM [some 0,some 1,some 2,some 3] rfl
 rintro _ rfl
 clear ho
 refine ww ?_
 obtain⟨o8,ho,h⟩:=bi h
 refine cutS (fun s=>s=⟨[(0,oc (dM (x0.map eObject))),(3,Pz 0),(4,Pz 1),(6,Pz 2),(7,Pz 3),(8,oc (dI o2.2.1)),(52,oc (dB o8))],[xb (bObject x1),xb [dI 0,dS ((⟨#[]⟩:ByteArray)),dI 0,dI 0,dS ((⟨#[]⟩:ByteArray))],xb (bMeta x1.Meta),xb [dI 0,dS t1,dI x1.Meta.Uid,dI o2.1,dS ((⟨#[]⟩:ByteArray))]]⟩) ?_ ?_
 ·have h:=ho
  clear ho
  refine ww ?_
  refine guardSh h (fun g9 h=>ww ?_) (fun g9 h=>ww ?_)
  ·cases h
   exact eM [some 0,some 1,some 2,some 3] rfl
  cases h
  exact eM [some 0,some 1,some 2,some 3] rfl
 rintro _ rfl
 clear ho
 refine ww ?_
 refine condBh h (fun c10 h=>ww ?_) (fun c10 h=>ww ?_)
 ·cases h
  exact eF []
 obtain⟨o11,ho,h⟩:=bi h
 refine cutS (fun s=>s=⟨[(0,oc (dM (x0.map eObject))),(3,Pz 0),(4,Pz 1),(6,Pz 2),(7,Pz 3),(62,oc (dB o11))],[xb (bObject x1),xb [dI 0,dS ((⟨#[]⟩:ByteArray)),dI 0,dI 0,dS ((⟨#[]⟩:ByteArray))],xb (bMeta x1.Meta),xb [dI 0,dS t1,dI x1.Meta.Uid,dI 0,dS ((⟨#[]⟩:ByteArray))]]⟩) ?_ ?_
 ·have h:=ho
  clear ho
  refine ww ?_
  refine guardSh h (fun g12 h=>ww ?_) (fun g12 h=>ww ?_)
  ·cases h
   exact eM [some 0,some 1,some 2,some 3] rfl
  cases h
  exact eM [some 0,some 1,some 2,some 3] rfl
 rintro _ rfl
 clear ho
 refine ww ?_
 refine condBh h (fun c13 h=>ww ?_) (fun c13 h=>ww ?_)
 ·cases h
  exact eF []
 obtain⟨o14,ho,h⟩:=bi h
 refine cutS (fun s=>∃po14,o14=Sum.inr po14∧s=⟨[(0,oc (dM (x0.map eObject))),(3,Pz 0),(4,Pz 1),(6,Pz 2),(7,Pz 3)],[xb (bObject x1),xb [dI 0,dS ((⟨#[]⟩:ByteArray)),dI 0,dI 0,dS ((⟨#[]⟩:ByteArray))],xb (bMeta x1.Meta),xb [dI 0,dS t1,dI x1.Meta.Uid,dI 0,dS ((⟨#[]⟩:ByteArray))]]⟩) ?_ ?_
 ·have h0o14:=h
  have h:=ho
  clear ho
  obtain⟨_,hk,h⟩:=bi h
  have hk:=ck_some hk
  refine ww ?_
  refine bL (fun j s=>∃(o14_0:Nat),(o14_0≤x1.Meta.Owners.length∧j=x1.Meta.Owners.length-o14_0)∧s=⟨[(0,oc (dM (x0.map eObject))),(3,Pz 0),(4,Pz 1),(6,Pz 2),(7,Pz 3),(11,oc (dI ((o14_0:Int))))],[xb (bObject x1),xb [dI 0,dS ((⟨#[]⟩:ByteArray)),dI 0,dI 0,dS ((⟨#[]⟩:ByteArray))],xb (bMeta x1.Meta),xb [dI 0,dS t1,dI x1.Meta.Uid,dI 0,dS ((⟨#[]⟩:ByteArray))]]⟩∧F24_l14 t1 x0 x1 (x1.Meta.Owners.drop o14_0) o14_0=some o14) (x1.Meta.Owners.length-0) [some 0,some 1,some 2,some 3] ⟨0,⟨hk.1,rfl⟩,rfl,h⟩ ?_
  rintro _ _ ⟨o14_0,⟨hi,rfl⟩,rfl,h⟩
  refine ww ?_
  refine condS (fun c15=>?_) (fun c15=>?_)
  ·obtain⟨xo14,hxo14,hd⟩:=countY (show(o14_0:Int)<(x1.Meta.Owners.length:Int)from c15)
   rw[hd,F24_l14]at h
   refine ww ?_
   refine t_idxF (enc:=eOwner) (xs:=x1.Meta.Owners) rfl rfl hxo14 rfl (ww ?_)
   obtain⟨t16,ht16,h⟩:=bi h
   refine cN [] (F44_ok ht16) trivial (ww ?_)
   refine condBh h (fun c17 h=>ww ?_) (fun c17 h=>ww ?_)
   ·refine t_idxF (enc:=eOwner) (xs:=x1.Meta.Owners) rfl rfl hxo14 rfl (ww ?_)
    obtain⟨fh0o14,hfh0o14,rfl⟩:=Option.map_eq_some_iff.1 h
    have h:=hfh0o14.trans h0o14
    cases h
    exact eF []
   rw[wrapN (by omega)]
   exact eL' (x1.Meta.Owners.length-(o14_0+1)) [some 0,some 1,some 2,some 3] ⟨o14_0+1,⟨by omega,rfl⟩,rfl,h⟩ (by omega)
  rw[countN (show¬((o14_0:Int)<(x1.Meta.Owners.length:Int))from c15),F24_l14]at h
  refine ww ?_
  cases h
  exact eM [some 0,some 1,some 2,some 3] ⟨_,rfl,rfl⟩
 rintro _ ⟨po14,rfl,rfl⟩
 clear ho
 dsimp only at h
 refine ww ?_
 obtain⟨o19,ho,h⟩:=bi h
 refine cutS (fun s=>∃po19,o19=Sum.inr po19∧s=⟨[(0,oc (dM (x0.map eObject))),(3,Pz 0),(4,Pz 1),(6,Pz 2),(7,Pz 3)],[xb (bObject x1),xb [dI 0,dS ((⟨#[]⟩:ByteArray)),dI 0,dI 0,dS ((⟨#[]⟩:ByteArray))],xb (bMeta x1.Meta),xb [dI 0,dS t1,dI x1.Meta.Uid,dI 0,dS ((⟨#[]⟩:ByteArray))]]⟩) ?_ ?_
 ·have h0o19:=h
  have h:=ho
  clear ho
  obtain⟨_,hk,h⟩:=bi h
  have hk:=ck_some hk
  refine ww ?_
  refine bL (fun j s=>∃(o19_0:Nat),(o19_0≤x1.Meta.Owners.length∧j=x1.Meta.Owners.length-o19_0)∧s=⟨[(0,oc (dM (x0.map eObject))),(3,Pz 0),(4,Pz 1),(6,Pz 2),(7,Pz 3),(12,oc (dI ((o19_0:Int))))],[xb (bObject x1),xb [dI 0,dS ((⟨#[]⟩:ByteArray)),dI 0,dI 0,dS ((⟨#[]⟩:ByteArray))],xb (bMeta x1.Meta),xb [dI 0,dS t1,dI x1.Meta.Uid,dI 0,dS ((⟨#[]⟩:ByteArray))]]⟩∧F24_l19 t1 x0 x1 (x1.Meta.Owners.drop o19_0) o19_0=some o19) (x1.Meta.Owners.length-0) [some 0,some 1,some 2,some 3] ⟨0,⟨hk.1,rfl⟩,rfl,h⟩ ?_
  rintro _ _ ⟨o19_0,⟨hi,rfl⟩,rfl,h⟩
  refine ww ?_
  refine condS (fun c20=>?_) (fun c20=>?_)
  ·obtain⟨xo19,hxo19,hd⟩:=countY (show(o19_0:Int)<(x1.Meta.Owners.length:Int)from c20)
   rw[hd,F24_l19]at h
   refine ww ?_
   obtain⟨o21,ho,h⟩:=bi h
   refine cutS (fun s=>s=⟨[(0,oc (dM (x0.map eObject))),(3,Pz 0),(4,Pz 1),(6,Pz 2),(7,Pz 3),(12,oc (dI ((o19_0:Int)))),(116,oc (dB o21))],[xb (bObject x1),xb [dI 0,dS ((⟨#[]⟩:ByteArray)),dI 0,dI 0,dS ((⟨#[]⟩:ByteArray))],xb (bMeta x1.Meta),xb [dI 0,dS t1,dI x1.Meta.Uid,dI 0,dS ((⟨#[]⟩:ByteArray))]]⟩) ?_ ?_
   ·have h:=ho
    clear ho
    refine ww ?_
    refine guardSBh h (fun g22 h=>ww ?_) (fun g22 h=>ww ?_)
    ·refine t_idxF (enc:=eOwner) (xs:=x1.Meta.Owners) rfl rfl hxo19 rfl (ww ?_)
     refine guardSBh h (fun g23 h=>ww ?_) (fun g23 h=>ww ?_)
     ·refine t_idxF (enc:=eOwner) (xs:=x1.Meta.Owners) rfl rfl hxo19 rfl (ww ?_)
      obtain⟨t24,ht24,h⟩:=bi h
      refine cN [] (F44_ok ht24) trivial (ww ?_)
      cases h
      exact eM [some 0,some 1,some 2,some 3] rfl
     cases h
     exact eM [some 0,some 1,some 2,some 3] rfl
    cases h
    exact eM [some 0,some 1,some 2,some 3] rfl
   rintro _ rfl
   clear ho
   refine ww ?_
   refine condBh h (fun c25 h=>ww ?_) (fun c25 h=>ww ?_)
   ·obtain⟨fh0o19,hfh0o19,rfl⟩:=Option.map_eq_some_iff.1 h
    have h:=hfh0o19.trans h0o19
    cases h
    exact eF []
   rw[wrapN (by omega)]
   exact eL' (x1.Meta.Owners.length-(o19_0+1)) [some 0,some 1,some 2,some 3] ⟨o19_0+1,⟨by omega,rfl⟩,rfl,h⟩ (by omega)
  rw[countN (show¬((o19_0:Int)<(x1.Meta.Owners.length:Int))from c20),F24_l19]at h
  refine ww ?_
  cases h
  exact eM [some 0,some 1,some 2,some 3] ⟨_,rfl,rfl⟩
 rintro _ ⟨po19,rfl,rfl⟩
 clear ho
 dsimp only at h
 refine ww ?_
 obtain⟨o27,ho,h⟩:=bi h
 refine cutS (fun s=>s=⟨[(0,oc (dM (x0.map eObject))),(3,Pz 0),(4,Pz 1),(6,Pz 2),(7,Pz 3),(128,oc (dB o27))],[xb (bObject x1),xb [dI 0,dS ((⟨#[]⟩:ByteArray)),dI 0,dI 0,dS ((⟨#[]⟩:ByteArray))],xb (bMeta x1.Meta),xb [dI 2,dS t1,dI x1.Meta.Uid,dI 0,dS ((⟨#[]⟩:ByteArray))]]⟩) ?_ ?_
 ·have h:=ho
  clear ho
  refine ww ?_
  obtain⟨t28,ht28,h⟩:=bi h
  refine cN [] (F45_ok ht28) trivial (ww ?_)
  refine guardSBh h (fun g29 h=>ww ?_) (fun g29 h=>ww ?_)
  ·obtain⟨t30,ht30,h⟩:=bi h
   refine cN [] (F46_ok ht30) trivial (ww ?_)
   cases h
   exact eM [some 0,some 1,some 2,some 3] rfl
  cases h
  exact eM [some 0,some 1,some 2,some 3] rfl
 rintro _ rfl
 clear ho
 refine ww ?_
 refine condBh h (fun c31 h=>ww ?_) (fun c31 h=>ww ?_)
 ·cases h
  exact eF []
 obtain⟨o32,ho,h⟩:=bi h
 refine cutS (fun s=>s=⟨[(4,Pz 0),(7,Pz 1),(139,oc (dB o32))],[xb [dI 0,dS ((⟨#[]⟩:ByteArray)),dI 0,dI 0,dS ((⟨#[]⟩:ByteArray))],xb [dI 2,dS t1,dI x1.Meta.Uid,dI 0,dS ((⟨#[]⟩:ByteArray))]]⟩) ?_ ?_
 ·have h:=ho
  clear ho
  refine ww ?_
  obtain⟨t33,ht33,h⟩:=bi h
  refine cN [] (F45_ok ht33) trivial (ww ?_)
  refine guardSBh h (fun g34 h=>ww ?_) (fun g34 h=>ww ?_)
  ·obtain⟨t35,ht35,h⟩:=bi h
   refine cN [] (F46_ok ht35) trivial (ww ?_)
   cases h
   exact eM [some 1,some 3] rfl
  cases h
  exact eM [some 1,some 3] rfl
 rintro _ rfl
 clear ho
 refine ww ?_
 refine condBh h (fun c36 h=>ww ?_) (fun c36 h=>ww ?_)
 ·cases h
  exact eF []
 cases h
 exact eF []
end Go.Proofs.Ytdejhahgpojnoaa
