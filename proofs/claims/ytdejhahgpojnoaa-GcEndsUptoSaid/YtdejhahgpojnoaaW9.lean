/- Each Go function as a function over typed data, and its walk. -/
import Derived.Test.YtdejhahgpojnoaaW0
import Derived.Test.YtdejhahgpojnoaaW6
import Derived.Test.YtdejhahgpojnoaaW7
namespace Go.Proofs.Ytdejhahgpojnoaa
open Go Go.Fw Go.Shelf
set_option maxRecDepth 100000
set_option maxHeartbeats 4000000
set_option linter.unusedSimpArgs false
set_option linter.unusedVariables false
def F36(x0:Object)(b1:List (Int×TState)):Option (Owner×Bool):=(F55 x0.Meta.Owners b1).bind fun t1=>(if t1<0 then some (((⟨(⟨#[]⟩:ByteArray),(⟨#[]⟩:ByteArray),0,false,false⟩:Owner),false))else(rdI x0.Meta.Owners t1).bind fun y3=>some ((y3,true)))
def a36:AFn:=⟨21,[(.cell 4 (some 5)),(.tmp 5)],
 (.seq (.reg [Qg 2 0,
sq 4 (.zbox [dS ⟨#[]⟩,dS ⟨#[]⟩,dI 0,dB false,dB false]),
Qf 5 false])
 (.seq (.reg [Qb 7 0 2,
Qb 8 10 7,
Qd 9 8,
Qa 10 1,
Ql 11 55 9 10,
Qa 6 11])
 (.seq (.seq (.reg [Qa 12 6,
sq 13 (.bin .lss (.t 12) (kI 0))])
 (.cond (.t 13)
 (.seq (.reg [sq 14 (.build [dS ⟨#[]⟩,dS ⟨#[]⟩,dI 0,dB false,dB false] []),
su (.store 5 (.t 4) (.t 14)),
Qf 5 false])
 .ret)
 .skip))
 (.seq (.reg [Qb 15 0 2,
Qb 16 10 15,
Qd 17 16,
Qa 18 6,
Qp 19 5 17 18,
Qc 20 5 19,
su (.store 5 (.t 4) (.t 20)),
Qf 5 true])
 .ret))))⟩
theorem F36_ok{x0 b1 r}(h:F36 x0 b1=some r):CallD Try.prog 36 [.agg (bObject x0),.c (.fn 37 [(0,0)])] [xb [.mref 1],some (.map (eMs (Value.int .i64) eTState b1))] (tupV [.agg (bOwner (r.1)),.c (dB r.2)]) [xb [.mref 1],some (.map (eMs (Value.int .i64) eTState b1))]:=by
 rw[F36]at h
 refine zc a36 (by kernel_rfl) rfl (ww ?_)
 obtain⟨t1,ht1,h⟩:=bi h
 refine cN [0,1] (F55_ok ht1) ⟨⟨rfl,by simp[Blk.live,C.live,hp]⟩,⟨⟨congrArg some (by first|exact ren_m1.symm|exact ren_ms.symm),(by first|exact entsD_live entsD_1 _|exact entsD_live entsD_s _)⟩,trivial⟩⟩ ?_
 refine ww ?_
 refine condSh h (fun c2 h=>ww ?_) (fun c2 h=>ww ?_)
 ·cases h
  exact eF [some 0,some 1]
 obtain⟨y3,hy3,h⟩:=bi h
 refine t_idxF (enc:=eOwner) (xs:=x0.Meta.Owners) rfl rfl hy3 rfl (ww ?_)
 cases h
 exact eF [some 0,some 1]
def F36v1(x0:Object)(b1:List (Int×TState)):Option (Owner×Bool):=(F55v1 x0.Meta.Owners b1).bind fun t1=>(if t1<0 then some (((⟨(⟨#[]⟩:ByteArray),(⟨#[]⟩:ByteArray),0,false,false⟩:Owner),false))else(rdI x0.Meta.Owners t1).bind fun y3=>some ((y3,true)))
def a36v1:AFn:=⟨21,[(.cell 4 (some 5)),(.tmp 5)],
 (.seq (.reg [Qg 2 0,
sq 4 (.zbox [dS ⟨#[]⟩,dS ⟨#[]⟩,dI 0,dB false,dB false]),
Qf 5 false])
 (.seq (.reg [Qb 7 0 2,
Qb 8 10 7,
Qd 9 8,
Qa 10 1,
Ql 11 55 9 10,
Qa 6 11])
 (.seq (.seq (.reg [Qa 12 6,
sq 13 (.bin .lss (.t 12) (kI 0))])
 (.cond (.t 13)
 (.seq (.reg [sq 14 (.build [dS ⟨#[]⟩,dS ⟨#[]⟩,dI 0,dB false,dB false] []),
su (.store 5 (.t 4) (.t 14)),
Qf 5 false])
 .ret)
 .skip))
 (.seq (.reg [Qb 15 0 2,
Qb 16 10 15,
Qd 17 16,
Qa 18 6,
Qp 19 5 17 18,
Qc 20 5 19,
su (.store 5 (.t 4) (.t 20)),
Qf 5 true])
 .ret))))⟩
theorem a36v1_ok:afn Try.prog 36=some a36v1.er:=by kernel_rfl
theorem F36v1_ok{x0 b1 r}(h:F36v1 x0 b1=some r):CallD Try.prog 36 [.agg (bObject x0),.c (.fn 38 [(0,0)])] [xb [.mref 1],some (.map (eMs (Value.int .i64) eTState b1))] (tupV [.agg (bOwner (r.1)),.c (dB r.2)]) [xb [.mref 1],some (.map (eMs (Value.int .i64) eTState b1))]:=by
 refine callS a36v1_ok (by simp[a36v1]) ?_
 rw[F36v1]at h
 simp only[a36v1,VW.down,Nat.reduceEqDiff,reduceCtorEq,Nat.reduceAdd,Nat.reduceLeDiff,Nat.reduceLT,Nat.reduceBEq,Nat.reduceSub,EE.down]
 obtain⟨t1,ht1,h⟩:=bi h
 refine cN [0,1] (F55v1_ok ht1) ⟨⟨rfl,by simp[Blk.live,C.live,hp]⟩,⟨⟨congrArg some (by first|exact ren_m1.symm|exact ren_ms.symm),(by first|exact entsD_live entsD_1 _|exact entsD_live entsD_s _)⟩,trivial⟩⟩ ?_
 refine ww ?_
 refine condSh h (fun c2 h=>ww ?_) (fun c2 h=>ww ?_)
 ·cases h
  exact eF [some 0,some 1]
 obtain⟨y3,hy3,h⟩:=bi h
 refine t_idxF (enc:=eOwner) (xs:=x0.Meta.Owners) rfl rfl hy3 rfl (ww ?_)
 cases h
 exact eF [some 0,some 1]
def F36v2(x0:Object)(b1:List (Int×TState)):Option (Owner×Bool):=(F55v2 x0.Meta.Owners b1).bind fun t1=>(if t1<0 then some (((⟨(⟨#[]⟩:ByteArray),(⟨#[]⟩:ByteArray),0,false,false⟩:Owner),false))else(rdI x0.Meta.Owners t1).bind fun y3=>some ((y3,true)))
def a36v2:AFn:=⟨21,[(.cell 4 (some 5)),(.tmp 5)],
 (.seq (.reg [Qg 2 0,
sq 4 (.zbox [dS ⟨#[]⟩,dS ⟨#[]⟩,dI 0,dB false,dB false]),
Qf 5 false])
 (.seq (.reg [Qb 7 0 2,
Qb 8 10 7,
Qd 9 8,
Qa 10 1,
Ql 11 55 9 10,
Qa 6 11])
 (.seq (.seq (.reg [Qa 12 6,
sq 13 (.bin .lss (.t 12) (kI 0))])
 (.cond (.t 13)
 (.seq (.reg [sq 14 (.build [dS ⟨#[]⟩,dS ⟨#[]⟩,dI 0,dB false,dB false] []),
su (.store 5 (.t 4) (.t 14)),
Qf 5 false])
 .ret)
 .skip))
 (.seq (.reg [Qb 15 0 2,
Qb 16 10 15,
Qd 17 16,
Qa 18 6,
Qp 19 5 17 18,
Qc 20 5 19,
su (.store 5 (.t 4) (.t 20)),
Qf 5 true])
 .ret))))⟩
theorem a36v2_ok:afn Try.prog 36=some a36v2.er:=by kernel_rfl
theorem F36v2_ok{x0 b1 r}(h:F36v2 x0 b1=some r):CallD Try.prog 36 [.agg (bObject x0),.c (.fn 39 [(0,0)])] [xb [.mref 1],some (.map (eMs (Value.int .i64) eTState b1))] (tupV [.agg (bOwner (r.1)),.c (dB r.2)]) [xb [.mref 1],some (.map (eMs (Value.int .i64) eTState b1))]:=by
 refine callS a36v2_ok (by simp[a36v2]) ?_
 rw[F36v2]at h
 simp only[a36v2,VW.down,Nat.reduceEqDiff,reduceCtorEq,Nat.reduceAdd,Nat.reduceLeDiff,Nat.reduceLT,Nat.reduceBEq,Nat.reduceSub,EE.down]
 obtain⟨t1,ht1,h⟩:=bi h
 refine cN [0,1] (F55v2_ok ht1) ⟨⟨rfl,by simp[Blk.live,C.live,hp]⟩,⟨⟨congrArg some (by first|exact ren_m1.symm|exact ren_ms.symm),(by first|exact entsD_live entsD_1 _|exact entsD_live entsD_s _)⟩,trivial⟩⟩ ?_
 refine ww ?_
 refine condSh h (fun c2 h=>ww ?_) (fun c2 h=>ww ?_)
 ·cases h
  exact eF [some 0,some 1]
 obtain⟨y3,hy3,h⟩:=bi h
 refine t_idxF (enc:=eOwner) (xs:=x0.Meta.Owners) rfl rfl hy3 rfl (ww ?_)
 cases h
 exact eF [some 0,some 1]
def F36v3(x0:Object)(b1:List (Int×TState)):Option (Owner×Bool):=(F55v3 x0.Meta.Owners b1).bind fun t1=>(if t1<0 then some (((⟨(⟨#[]⟩:ByteArray),(⟨#[]⟩:ByteArray),0,false,false⟩:Owner),false))else(rdI x0.Meta.Owners t1).bind fun y3=>some ((y3,true)))
def a36v3:AFn:=⟨21,[(.cell 4 (some 5)),(.tmp 5)],
 (.seq (.reg [Qg 2 0,
sq 4 (.zbox [dS ⟨#[]⟩,dS ⟨#[]⟩,dI 0,dB false,dB false]),
Qf 5 false])
 (.seq (.reg [Qb 7 0 2,
Qb 8 10 7,
Qd 9 8,
Qa 10 1,
Ql 11 55 9 10,
Qa 6 11])
 (.seq (.seq (.reg [Qa 12 6,
sq 13 (.bin .lss (.t 12) (kI 0))])
 (.cond (.t 13)
 (.seq (.reg [sq 14 (.build [dS ⟨#[]⟩,dS ⟨#[]⟩,dI 0,dB false,dB false] []),
su (.store 5 (.t 4) (.t 14)),
Qf 5 false])
 .ret)
 .skip))
 (.seq (.reg [Qb 15 0 2,
Qb 16 10 15,
Qd 17 16,
Qa 18 6,
Qp 19 5 17 18,
Qc 20 5 19,
su (.store 5 (.t 4) (.t 20)),
Qf 5 true])
 .ret))))⟩
theorem a36v3_ok:afn Try.prog 36=some a36v3.er:=by kernel_rfl
theorem F36v3_ok{x0 b1 r}(h:F36v3 x0 b1=some r):CallD Try.prog 36 [.agg (bObject x0),.c (.fn 40 [(0,0)])] [xb [.mref 1],some (.map (eMs (Value.int .i64) eTState b1))] (tupV [.agg (bOwner (r.1)),.c (dB r.2)]) [xb [.mref 1],some (.map (eMs (Value.int .i64) eTState b1))]:=by
 refine callS a36v3_ok (by simp[a36v3]) ?_
 rw[F36v3]at h
 simp only[a36v3,VW.down,Nat.reduceEqDiff,reduceCtorEq,Nat.reduceAdd,Nat.reduceLeDiff,Nat.reduceLT,Nat.reduceBEq,Nat.reduceSub,EE.down]
 obtain⟨t1,ht1,h⟩:=bi h
 refine cN [0,1] (F55v3_ok ht1) ⟨⟨rfl,by simp[Blk.live,C.live,hp]⟩,⟨⟨congrArg some (by first|exact ren_m1.symm|exact ren_ms.symm),(by first|exact entsD_live entsD_1 _|exact entsD_live entsD_s _)⟩,trivial⟩⟩ ?_
 refine ww ?_
 refine condSh h (fun c2 h=>ww ?_) (fun c2 h=>ww ?_)
 ·cases h
  exact eF [some 0,some 1]
 obtain⟨y3,hy3,h⟩:=bi h
 refine t_idxF (enc:=eOwner) (xs:=x0.Meta.Owners) rfl rfl hy3 rfl (ww ?_)
 cases h
 exact eF [some 0,some 1]
def F41(x0:ByteArray)(b0:Object):Option (Bool):=(((if b0.Meta.Deleting=true then(F35 b0.Meta.Finalizers x0).bind fun t3=>some t3 else some false)).bind fun o1=>some o1)
def a41:AFn:=⟨14,[(.tmp 3)],
 (.seq (.reg [Qf 3 false])
 (.seq (.sem (.reg [Qb 4 0 1,
Qb 5 7 4,
Qd 6 5,
Qa 7 6,
Qs 8 7 true 0 1,
Qs 9 7 true 11 8,
Qt 10 7 true 9,
Qv 11 7 true 0,
zg 12 7 true (.call 35 [(.t 10),(.t 11)]),
Qi 13 7 12,
Qa 3 13]))
 .ret))⟩
theorem F41_ok{x0 b0 r}(h:F41 x0 b0=some r):CallD Try.prog 41 [.c (dS x0),.c (.pt 0 0)] [xb (bObject b0)] (tupV [.c (dB r)]) [xb (bObject b0)]:=by
 rw[F41]at h
 refine zc a41 (by kernel_rfl) rfl (ww ?_)
 obtain⟨o1,ho,h⟩:=bi h
 refine cutS (fun s=>s=⟨[(3,oc (dB o1))],[xb (bObject b0)]⟩) ?_ ?_
 ·have h:=ho
  clear ho
  refine ww ?_
  refine guardSBh h (fun g2 h=>ww ?_) (fun g2 h=>ww ?_)
  ·obtain⟨t3,ht3,h⟩:=bi h
   refine cN [] (F35_ok ht3) trivial (ww ?_)
   cases h
   exact eM [some 0] rfl
  cases h
  exact eM [some 0] rfl
 rintro _ rfl
 clear ho
 refine ww ?_
 cases h
 exact eF [some 0]
def F20(x0:Object)(b0:List (Int×TState)):Option (GcAction×Bool):=(F26 x0.Meta).bind fun t1=>(F36 x0 b0).bind fun t2=>(F36v1 x0 b0).bind fun t3=>(F36v2 x0 b0).bind fun t4=>(F36v3 x0 b0).bind fun t5=>(((if(nb x0.Meta.Deleting)=true then(if t2.2=true then some (nb t3.2)else some false)else some false)).bind fun o6=>(if o6=true then some (((⟨1,t1,x0.Meta.Uid,0,(⟨#[]⟩:ByteArray)⟩:GcAction),true))else(((if t2.2=true then some t3.2 else some false)).bind fun o10=>(if o10=true then some (((⟨3,t1,x0.Meta.Uid,(t2.1).Uid,(⟨#[]⟩:ByteArray)⟩:GcAction),true))else(if t4.2=true then some (((⟨3,t1,x0.Meta.Uid,(t4.1).Uid,(⟨#[]⟩:ByteArray)⟩:GcAction),true))else(((if(nb x0.Meta.Deleting)=true then some t5.2 else some false)).bind fun o14=>(if o14=true then some (((⟨4,t1,x0.Meta.Uid,0,(⟨#[]⟩:ByteArray)⟩:GcAction),true))else(((F41 ((⟨#[111,114,112,104,97,110,45,100,101,112,101,110,100,101,110,116,115]⟩:ByteArray)) x0).bind fun t18=>(if t18=true then some (nb ((((getM x0.Meta.Uid b0).getD ((⟨false,false,false,false,false⟩:TState)))).depended))else some false)).bind fun o17=>(if o17=true then some (((⟨2,t1,x0.Meta.Uid,0,(⟨#[111,114,112,104,97,110,45,100,101,112,101,110,100,101,110,116,115]⟩:ByteArray)⟩:GcAction),true))else(((F41 ((⟨#[102,111,114,101,103,114,111,117,110,100,45,100,101,108,101,116,105,111,110]⟩:ByteArray)) x0).bind fun t22=>(if t22=true then some (nb ((((getM x0.Meta.Uid b0).getD ((⟨false,false,false,false,false⟩:TState)))).blocked))else some false)).bind fun o21=>(if o21=true then some (((⟨2,t1,x0.Meta.Uid,0,(⟨#[102,111,114,101,103,114,111,117,110,100,45,100,101,108,101,116,105,111,110]⟩:ByteArray)⟩:GcAction),true))else some (((⟨0,(⟨#[]⟩:ByteArray),0,0,(⟨#[]⟩:ByteArray)⟩:GcAction),false)))))))))))))
def a20:AFn:=⟨115,[(.cell 4 (some 5)),(.tmp 5)],
 (.seq (.reg [Qg 2 0,
Qg 3 1,
sq 4 (.zbox [dI 0,dS ⟨#[]⟩,dI 0,dI 0,dS ⟨#[]⟩]),
Qf 5 false])
 (.seq (.regd [Qb 16 0 2,
sd 17 (.load (some 13) (.t 16)) [0],
zn 18 (.call 26 [(.t 17)]) [0,1] [0,1],
Qb 19 0 2,
sd 20 (.fieldA 3 (.t 19)) [3],
sd 21 (.load none (.t 20)) [3,4],
sd 22 (.build [dI 0,dS ⟨#[]⟩,dI 0,dI 0,dS ⟨#[]⟩] [(1,1,(.t 18)),(2,1,(.t 21))]) [0,1,2,3,4,5],
sq 6 (.zbox [dI 0,dS ⟨#[]⟩,dI 0,dI 0,dS ⟨#[]⟩]),
⟨none,none,.store 5 (.t 6) (.t 22),[0,1,2,3,4,5,6,7],(.lone [])⟩])
 (.seq (.reg [Qc 24 23 2,
sq 25 (.fn 37 [(.t 3)]),
Ql 26 36 24 25,
Qa 23 26,
Qo 27 23 0,
Qo 28 23 1,
sq 7 (.zbox [dS ⟨#[]⟩,dS ⟨#[]⟩,dI 0,dB false,dB false]),
su (.store 5 (.t 7) (.t 27)),
Qa 8 28])
 (.seq (.reg [Qc 30 23 2,
sq 31 (.fn 38 [(.t 3)]),
Ql 32 36 30 31,
Qa 29 32,
Qo 33 29 0,
Qo 34 29 1,
sq 9 (.zbox [dS ⟨#[]⟩,dS ⟨#[]⟩,dI 0,dB false,dB false]),
su (.store 5 (.t 9) (.t 33)),
Qa 10 34])
 (.seq (.reg [Qc 36 23 2,
sq 37 (.fn 39 [(.t 3)]),
Ql 38 36 36 37,
Qa 35 38,
Qo 39 35 0,
Qo 40 35 1,
sq 11 (.zbox [dS ⟨#[]⟩,dS ⟨#[]⟩,dI 0,dB false,dB false]),
su (.store 5 (.t 11) (.t 39)),
Qa 12 40])
 (.seq (.reg [Qc 42 23 2,
sq 43 (.fn 40 [(.t 3)]),
Ql 44 36 42 43,
Qa 41 44,
Qo 45 41 0,
Qo 46 41 1,
sq 13 (.zbox [dS ⟨#[]⟩,dS ⟨#[]⟩,dI 0,dB false,dB false]),
su (.store 5 (.t 13) (.t 45)),
Qa 14 46])
 (.seq (.reg [sq 47 (.fn 41 [(.t 2)]),
Qa 15 47])
 (.seq (.block 0 (.seq (.sem (.reg [Qb 50 0 2,
Qb 51 7 50,
Qd 52 51,
Qq 53 52,
Qa 54 53,
Qv 55 54 true 8,
Qi 56 54 55,
Qa 57 56,
Qv 58 57 true 10,
zg 59 57 true (.not (.t 58)),
Qi 60 57 59,
Qa 49 60]))
 (.cond (.t 49)
 (.reg [Qb 61 0 6,
⟨none,none,.store 1 (.t 61) (kI 1),[],(.lone [6])⟩])
 (.seq (.sem (.reg [Qa 63 8,
Qa 64 63,
Qv 65 64 true 10,
Qi 66 64 65,
Qa 62 66]))
 (.cond (.t 62)
 (.regd [Qb 67 2 7,
sd 68 (.load none (.t 67)) [0],
Qb 69 0 6,
⟨none,none,.store 1 (.t 69) (kI 3),[2],(.lone [7,67])⟩,
sd 70 (.fieldA 3 (.t 6)) [0,1,2,3],
⟨none,none,.store 1 (.t 70) (.t 68),[0,1,2,3,4],(.lone [])⟩])
 (.seq (.reg [Qa 72 12,
Qa 71 72])
 (.cond (.t 71)
 (.regd [Qb 73 2 11,
sd 74 (.load none (.t 73)) [0],
Qb 75 0 6,
⟨none,none,.store 1 (.t 75) (kI 3),[2],(.lone [11,73])⟩,
sd 76 (.fieldA 3 (.t 6)) [0,1,2,3],
⟨none,none,.store 1 (.t 76) (.t 74),[0,1,2,3,4],(.lone [])⟩])
 (.seq (.sem (.reg [Qb 78 0 2,
Qb 79 7 78,
Qd 80 79,
Qq 81 80,
Qa 82 81,
Qv 83 82 true 14,
Qi 84 82 83,
Qa 77 84]))
 (.cond (.t 77)
 (.reg [Qb 85 0 6,
⟨none,none,.store 1 (.t 85) (kI 4),[],(.lone [6])⟩])
 (.seq (.sem (.reg [Qa 87 15,
sq 88 (.callv (.t 87) [(kS ⟨#[111,114,112,104,97,110,45,100,101,112,101,110,100,101,110,116,115]⟩)]),
Qa 89 88,
Qt 90 89 true 3,
Qs 91 89 true 0 2,
Qs 92 89 true 3 91,
Qt 93 89 true 92,
zg 94 89 true (.mget 0 false (.agg [dB false,dB false,dB false,dB false,dB false]) (.t 90) (.t 93)),
zg 95 89 true (.field 3 none (.t 94)),
zg 96 89 true (.not (.t 95)),
Qi 97 89 96,
Qa 86 97]))
 (.cond (.t 86)
 (.reg [Qb 98 0 6,
su (.store 1 (.t 98) (kI 2)),
Qb 99 4 6,
su (.store 1 (.t 99) (kS ⟨#[111,114,112,104,97,110,45,100,101,112,101,110,100,101,110,116,115]⟩))])
 (.seq (.sem (.reg [Qa 101 15,
sq 102 (.callv (.t 101) [(kS ⟨#[102,111,114,101,103,114,111,117,110,100,45,100,101,108,101,116,105,111,110]⟩)]),
Qa 103 102,
Qt 104 103 true 3,
Qs 105 103 true 0 2,
Qs 106 103 true 3 105,
Qt 107 103 true 106,
zg 108 103 true (.mget 0 false (.agg [dB false,dB false,dB false,dB false,dB false]) (.t 104) (.t 107)),
zg 109 103 true (.field 4 none (.t 108)),
zg 110 103 true (.not (.t 109)),
Qi 111 103 110,
Qa 100 111]))
 (.cond (.t 100)
 (.reg [Qb 112 0 6,
su (.store 1 (.t 112) (kI 2)),
Qb 113 4 6,
su (.store 1 (.t 113) (kS ⟨#[102,111,114,101,103,114,111,117,110,100,45,100,101,108,101,116,105,111,110]⟩))])
 (.seq (.reg [sq 48 (.build [dI 0,dS ⟨#[]⟩,dI 0,dI 0,dS ⟨#[]⟩] []),
su (.store 5 (.t 4) (.t 48)),
Qf 5 false])
 .ret))))))))))))))
 (.seq (.reg [Qc 114 5 6,
su (.store 5 (.t 4) (.t 114)),
Qf 5 true])
 .ret)))))))))⟩
theorem F20_ok{x0 b0 r}(h:F20 x0 b0=some r):CallD Try.prog 20 [.agg (bObject x0),.c (.mref 0)] [some (.map (eMs (Value.int .i64) eTState b0))] (tupV [.agg (bGcAction (r.1)),.c (dB r.2)]) [some (.map (eMs (Value.int .i64) eTState b0))]:=by
 rw[F20]at h
 refine zc a20 (by kernel_rfl) rfl (ww ?_)
 obtain⟨t1,ht1,h⟩:=bi h
 refine cN [] (F26_ok ht1) trivial (ww ?_)
 refine kD_new (by simp[wrs,allW,hset]) (ww ?_)
 obtain⟨t2,ht2,h⟩:=bi h
 refine cN [2,0] (F36_ok ht2) ⟨⟨rfl,by simp[Blk.live,C.live,hp]⟩,⟨⟨congrArg some (by first|exact ren_m1.symm|exact ren_ms.symm),(by first|exact entsD_live entsD_1 _|exact entsD_live entsD_s _)⟩,trivial⟩⟩ ?_
 refine ww ?_
 obtain⟨t3,ht3,h⟩:=bi h
 refine cN [2,0] (F36v1_ok ht3) ⟨⟨rfl,by simp[Blk.live,C.live,hp]⟩,⟨⟨congrArg some (by first|exact ren_m1.symm|exact ren_ms.symm),(by first|exact entsD_live entsD_1 _|exact entsD_live entsD_s _)⟩,trivial⟩⟩ ?_
 refine ww ?_
 obtain⟨t4,ht4,h⟩:=bi h
 refine cN [2,0] (F36v2_ok ht4) ⟨⟨rfl,by simp[Blk.live,C.live,hp]⟩,⟨⟨congrArg some (by first|exact ren_m1.symm|exact ren_ms.symm),(by first|exact entsD_live entsD_1 _|exact entsD_live entsD_s _)⟩,trivial⟩⟩ ?_
 refine ww ?_
 obtain⟨t5,ht5,h⟩:=bi h
 refine cN [2,0] (F36v3_ok ht5) ⟨⟨rfl,by simp[Blk.live,C.live,hp]⟩,⟨⟨congrArg some (by first|exact ren_m1.symm|exact ren_ms.symm),(by first|exact entsD_live entsD_1 _|exact entsD_live entsD_s _)⟩,trivial⟩⟩ ?_
 refine ww ?_
 obtain⟨o6,ho,h⟩:=bi h
 refine cutS (fun s=>s=⟨[(2,Pz 1),(3,Pz 2),(4,Pz 3),(6,Pz 4),(7,Pz 5),(8,oc (dB t2.2)),(10,oc (dB t3.2)),(11,Pz 6),(12,oc (dB t4.2)),(14,oc (dB t5.2)),(15,oc (.fn 41 [(1,0)])),(49,oc (dB o6))],[some (.map (eMs (Value.int .i64) eTState b0)),xb (bObject x0),xb [.mref 0],xb [dI 0,dS ((⟨#[]⟩:ByteArray)),dI 0,dI 0,dS ((⟨#[]⟩:ByteArray))],xb [dI 0,dS t1,dI x0.Meta.Uid,dI 0,dS ((⟨#[]⟩:ByteArray))],xb (bOwner (t2.1)),xb (bOwner (t4.1))]⟩) ?_ ?_
 ·have h:=ho
  clear ho
  refine ww ?_
  refine guardSBh h (fun g7 h=>ww ?_) (fun g7 h=>ww ?_)
  ·refine guardSBh h (fun g8 h=>ww ?_) (fun g8 h=>ww ?_)
   ·cases h
    exact eM [some 0,some 1,some 2,some 3,some 4,some 5,some 7] rfl
   cases h
   exact eM [some 0,some 1,some 2,some 3,some 4,some 5,some 7] rfl
  cases h
  exact eM [some 0,some 1,some 2,some 3,some 4,some 5,some 7] rfl
 rintro _ rfl
 clear ho
 refine ww ?_
 refine condBh h (fun c9 h=>ww ?_) (fun c9 h=>ww ?_)
 ·cases h
  exact eF [some 0]
 obtain⟨o10,ho,h⟩:=bi h
 refine cutS (fun s=>s=⟨[(2,Pz 1),(3,Pz 2),(4,Pz 3),(6,Pz 4),(7,Pz 5),(11,Pz 6),(12,oc (dB t4.2)),(14,oc (dB t5.2)),(15,oc (.fn 41 [(1,0)])),(62,oc (dB o10))],[some (.map (eMs (Value.int .i64) eTState b0)),xb (bObject x0),xb [.mref 0],xb [dI 0,dS ((⟨#[]⟩:ByteArray)),dI 0,dI 0,dS ((⟨#[]⟩:ByteArray))],xb [dI 0,dS t1,dI x0.Meta.Uid,dI 0,dS ((⟨#[]⟩:ByteArray))],xb (bOwner (t2.1)),xb (bOwner (t4.1))]⟩) ?_ ?_
 ·have h:=ho
  clear ho
  refine ww ?_
  refine guardSBh h (fun g11 h=>ww ?_) (fun g11 h=>ww ?_)
  ·cases h
   exact eM [some 0,some 1,some 2,some 3,some 4,some 5,some 6] rfl
  cases h
  exact eM [some 0,some 1,some 2,some 3,some 4,some 5,some 6] rfl
 rintro _ rfl
 clear ho
 refine ww ?_
 refine condBh h (fun c12 h=>ww ?_) (fun c12 h=>ww ?_)
 ·cases h
  exact eF [some 0]
 refine condBh h (fun c13 h=>ww ?_) (fun c13 h=>ww ?_)
 ·cases h
  exact eF [some 0]
 obtain⟨o14,ho,h⟩:=bi h
 refine cutS (fun s=>s=⟨[(2,Pz 1),(3,Pz 2),(4,Pz 3),(6,Pz 4),(15,oc (.fn 41 [(1,0)])),(77,oc (dB o14))],[some (.map (eMs (Value.int .i64) eTState b0)),xb (bObject x0),xb [.mref 0],xb [dI 0,dS ((⟨#[]⟩:ByteArray)),dI 0,dI 0,dS ((⟨#[]⟩:ByteArray))],xb [dI 0,dS t1,dI x0.Meta.Uid,dI 0,dS ((⟨#[]⟩:ByteArray))]]⟩) ?_ ?_
 ·have h:=ho
  clear ho
  refine ww ?_
  refine guardSBh h (fun g15 h=>ww ?_) (fun g15 h=>ww ?_)
  ·cases h
   exact eM [some 0,some 1,some 2,some 3,some 4] rfl
  cases h
  exact eM [some 0,some 1,some 2,some 3,some 4] rfl
 rintro _ rfl
 clear ho
 refine ww ?_
 refine condBh h (fun c16 h=>ww ?_) (fun c16 h=>ww ?_)
 ·cases h
  exact eF [some 0]
 obtain⟨o17,ho,h⟩:=bi h
 refine cutS (fun s=>s=⟨[(2,Pz 1),(3,Pz 2),(4,Pz 3),(6,Pz 4),(15,oc (.fn 41 [(1,0)])),(86,oc (dB o17))],[some (.map (eMs (Value.int .i64) eTState b0)),xb (bObject x0),xb [.mref 0],xb [dI 0,dS ((⟨#[]⟩:ByteArray)),dI 0,dI 0,dS ((⟨#[]⟩:ByteArray))],xb [dI 0,dS t1,dI x0.Meta.Uid,dI 0,dS ((⟨#[]⟩:ByteArray))]]⟩) ?_ ?_
 ·have h:=ho
  clear ho
  refine ww ?_
  obtain⟨t18,ht18,h⟩:=bi h
  refine cN [1] (F41_ok ht18) ⟨⟨rfl,by simp[Blk.live,C.live,hp]⟩,trivial⟩ ?_
  refine ww ?_
  refine guardSBh h (fun g19 h=>ww ?_) (fun g19 h=>ww ?_)
  ·refine t_mgets (enc:=eTState) (l:=b0) (z:=(⟨false,false,false,false,false⟩:TState)) kkI rfl rfl rfl rfl (ww ?_)
   cases h
   exact eM [some 0,some 1,some 2,some 3,some 4] rfl
  cases h
  exact eM [some 0,some 1,some 2,some 3,some 4] rfl
 rintro _ rfl
 clear ho
 refine ww ?_
 refine condBh h (fun c20 h=>ww ?_) (fun c20 h=>ww ?_)
 ·cases h
  exact eF [some 0]
 obtain⟨o21,ho,h⟩:=bi h
 refine cutS (fun s=>s=⟨[(4,Pz 1),(6,Pz 2),(100,oc (dB o21))],[some (.map (eMs (Value.int .i64) eTState b0)),xb [dI 0,dS ((⟨#[]⟩:ByteArray)),dI 0,dI 0,dS ((⟨#[]⟩:ByteArray))],xb [dI 0,dS t1,dI x0.Meta.Uid,dI 0,dS ((⟨#[]⟩:ByteArray))]]⟩) ?_ ?_
 ·have h:=ho
  clear ho
  refine ww ?_
  obtain⟨t22,ht22,h⟩:=bi h
  refine cN [1] (F41_ok ht22) ⟨⟨rfl,by simp[Blk.live,C.live,hp]⟩,trivial⟩ ?_
  refine ww ?_
  refine guardSBh h (fun g23 h=>ww ?_) (fun g23 h=>ww ?_)
  ·refine t_mgets (enc:=eTState) (l:=b0) (z:=(⟨false,false,false,false,false⟩:TState)) kkI rfl rfl rfl rfl (ww ?_)
   cases h
   exact eM [some 0,some 3,some 4] rfl
  cases h
  exact eM [some 0,some 3,some 4] rfl
 rintro _ rfl
 clear ho
 refine ww ?_
 refine condBh h (fun c24 h=>ww ?_) (fun c24 h=>ww ?_)
 ·cases h
  exact eF [some 0]
 cases h
 exact eF [some 0]
end Go.Proofs.Ytdejhahgpojnoaa
