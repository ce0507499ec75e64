/- Each Go function as a function over typed data, and its walk. -/
import Derived.Test.YtedgocbpegllaaaW0
import Derived.Test.YtedgocbpegllaaaW1
import Derived.Test.YtedgocbpegllaaaW2
import Derived.Test.YtedgocbpegllaaaW3
import Derived.Test.YtedgocbpegllaaaW4
import Derived.Test.YtedgocbpegllaaaW5
import Derived.Test.YtedgocbpegllaaaW6
import Derived.Test.YtedgocbpegllaaaW7
namespace Go.Proofs.Ytedgocbpegllaaa
open Go Go.Fw Go.Shelf
set_option maxRecDepth 100000
set_option maxHeartbeats 4000000
set_option linter.unusedSimpArgs false
set_option linter.unusedVariables false
def F69_l1(b0:Pod)(b1:ByteArray):List Budget→Nat→Option ((Int) ⊕ (Unit))
 |[],o1_0=>some (Sum.inr (()))
 |xo1::xs,o1_0=>(F50 xo1 b0 b1).bind fun t3=>(if t3=true then(some ((o1_0:Int))).map Sum.inl else F69_l1 b0 b1 xs (o1_0+1))
def F69(x0:(List Budget))(b0:Pod)(b1:ByteArray):Option (Int):=(((ck (0≤x0.length∧x0.length≤4294967290)).bind fun u5=>F69_l1 b0 b1 x0 0:Option ((Int) ⊕ (Unit))).bind fun o1=>match o1 with|Sum.inl f=>some f|Sum.inr po1=>some ((-1)))
def a69:AFn:=⟨19,[(.tmp 4)],
 (.seq (.reg [Qe 4 0])
 (.seq (.seq (.reg [Qa 6 0,
Qh 7 6,
Qe 8 0])
 (.sem (.block 0 (.loop (.seq (.reg [Qn 9 8 7])
 (.seq (.cond (.t 9)
 .skip
 (.exit 0))
 (.seq (.block 1 (.seq (.reg [Qa 10 8,
Qa 5 10])
 (.seq (.reg [Qa 11 1,
Qa 12 0,
Qa 13 5,
Qp 14 22 12 13,
Qc 15 22 14,
zl 16 (.callv (.t 11) [(.t 15)]) [] [12,14]])
 (.cond (.t 16)
 (.seq (.reg [Qa 17 5,
Qa 4 17])
 .ret)
 .skip))))
 (.reg [Qm 18 8 1,
Qa 8 18]))))))))
 (.seq (.reg [sq 4 (.mv (kI (-1)))])
 .ret)))⟩
theorem F69_ok{x0 b0 b1 r}(h:F69 x0 b0 b1=some r):CallD Try.prog 69 [.c (dM (x0.map eBudget)),.c (.fn 50 [(0,0),(1,0)])] [xb (bPod b0),xb [dS b1]] (tupV [.c (dI r)]) [xb (bPod b0),xb [dS b1]]:=by
 rw[F69]at h
 refine zc a69 (by kernel_rfl) rfl (ww ?_)
 obtain⟨o1,ho,h⟩:=bi h
 refine cutS (fun s=>∃po1,o1=Sum.inr po1∧s=⟨[],[xb (bPod b0),xb [dS b1]]⟩) ?_ ?_
 ·have h0o1:=h
  have h:=ho
  clear ho
  obtain⟨_,hk,h⟩:=bi h
  have hk:=ck_some hk
  refine ww ?_
  refine bL (fun j s=>∃(o1_0:Nat),(o1_0≤x0.length∧j=x0.length-o1_0)∧s=⟨[(0,oc (dM (x0.map eBudget))),(1,oc (.fn 50 [(0,0),(1,0)])),(7,oc (dI ((x0.length:Int)))),(8,oc (dI ((o1_0:Int))))],[xb (bPod b0),xb [dS b1]]⟩∧F69_l1 b0 b1 (x0.drop o1_0) o1_0=some o1) (x0.length-0) [some 0,some 1] ⟨0,⟨hk.1,rfl⟩,rfl,h⟩ ?_
  rintro _ _ ⟨o1_0,⟨hi,rfl⟩,rfl,h⟩
  refine ww ?_
  refine condS (fun c2=>?_) (fun c2=>?_)
  ·obtain⟨xo1,hxo1,hd⟩:=countY (show(o1_0:Int)<(x0.length:Int)from c2)
   rw[hd,F69_l1]at h
   refine ww ?_
   refine t_idxF (enc:=eBudget) (xs:=x0) rfl rfl hxo1 rfl (ww ?_)
   obtain⟨t3,ht3,h⟩:=bi h
   refine cN [0,1] (F50_ok ht3) ⟨⟨rfl,by simp[Blk.live,C.live,hp]⟩,⟨⟨rfl,by simp[Blk.live,C.live,hp]⟩,trivial⟩⟩ ?_
   refine ww ?_
   refine condBh h (fun c4 h=>ww ?_) (fun c4 h=>ww ?_)
   ·obtain⟨fh0o1,hfh0o1,rfl⟩:=Option.map_eq_some_iff.1 h
    have h:=hfh0o1.trans h0o1
    cases h
    exact eF [some 0,some 1]
   rw[wrapN (by omega)]
   exact eL' (x0.length-(o1_0+1)) [some 0,some 1] ⟨o1_0+1,⟨by omega,rfl⟩,rfl,h⟩ (by omega)
  rw[countN (show¬((o1_0:Int)<(x0.length:Int))from c2),F69_l1]at h
  refine ww ?_
  cases h
  exact eM [some 0,some 1] ⟨_,rfl,rfl⟩
 rintro _ ⟨po1,rfl,rfl⟩
 clear ho
 dsimp only at h
 refine ww ?_
 cases h
 exact eF [some 0,some 1]
def F49(x0:(List Budget))(b0:Pod)(b1:ByteArray):Option (Bool):=(F69 x0 b0 b1).bind fun t1=>some (decide (0≤t1))
def a49:AFn:=⟨9,[(.tmp 4)],
 (.seq (.reg [Qf 4 false])
 (.seq (.reg [Qa 5 0,
Qa 6 1,
Ql 7 69 5 6,
sq 8 (.bin .geq (.t 7) (kI 0)),
Qa 4 8])
 .ret))⟩
theorem F49_ok{x0 b0 b1 r}(h:F49 x0 b0 b1=some r):CallD Try.prog 49 [.c (dM (x0.map eBudget)),.c (.fn 50 [(0,0),(1,0)])] [xb (bPod b0),xb [dS b1]] (tupV [.c (dB r)]) [xb (bPod b0),xb [dS b1]]:=by
 rw[F49]at h
 refine zc a49 (by kernel_rfl) rfl (ww ?_)
 obtain⟨t1,ht1,h⟩:=bi h
 refine cN [0,1] (F69_ok ht1) ⟨⟨rfl,by simp[Blk.live,C.live,hp]⟩,⟨⟨rfl,by simp[Blk.live,C.live,hp]⟩,trivial⟩⟩ ?_
 refine ww ?_
 cases h
 exact eF [some 0,some 1]
def F16(x0:(List Budget))(x1:(List Pod))(x2:Pod):Option (Bool):=(F26 x2.Meta).bind fun t1=>(((F30 x2).bind fun t3=>(if(nb t3)=true then some true else(F49 x0 x2 t1).bind fun t5=>some (nb t5))).bind fun o2=>some o2)
def a16:AFn:=⟨20,[(.tmp 6)],
 (.seq (.reg [Qg 5 2,
Qf 6 false])
 (.seq (.reg [Qb 8 0 5,
Qc 9 13 8,
Qk 10 26 9,
sq 7 (.zbox [dS ⟨#[]⟩]),
su (.store 1 (.t 7) (.t 10))])
 (.seq (.sem (.reg [Qc 11 32 5,
Qk 12 30 11,
Qq 13 12,
Qa 14 13,
Qv 15 14 false 0,
zg 16 14 false (.fn 50 [(.t 5),(.t 7)]),
zg 17 14 false (.call 49 [(.t 15),(.t 16)]),
zg 18 14 false (.not (.t 17)),
Qj 19 14 18,
Qa 6 19]))
 .ret)))⟩
theorem F16_ok{x0 x1 x2 r}(h:F16 x0 x1 x2=some r):CallD Try.prog 16 [.c (dM (x0.map eBudget)),.c (dM (x1.map ePod)),.agg (bPod x2)] [] (tupV [.c (dB r)]) []:=by
 rw[F16]at h
 refine zc a16 (by kernel_rfl) rfl (ww ?_)
 obtain⟨t1,ht1,h⟩:=bi h
 refine cN [] (F26_ok ht1) trivial (ww ?_)
 obtain⟨o2,ho,h⟩:=bi h
 refine cutS (fun s=>s=⟨[(6,oc (dB o2))],[]⟩) ?_ ?_
 ·have h:=ho
  clear ho
  refine ww ?_
  obtain⟨t3,ht3,h⟩:=bi h
  refine cN [] (F30_ok ht3) trivial (ww ?_)
  refine guardSBh h (fun g4 h=>ww ?_) (fun g4 h=>ww ?_)
  ·cases h
   exact eM [] rfl
  obtain⟨t5,ht5,h⟩:=bi h
  refine cN [0,1] (F49_ok ht5) ⟨⟨rfl,by simp[Blk.live,C.live,hp]⟩,⟨⟨rfl,by simp[Blk.live,C.live,hp]⟩,trivial⟩⟩ ?_
  refine ww ?_
  cases h
  exact eM [] rfl
 rintro _ rfl
 clear ho
 refine ww ?_
 cases h
 exact eF []
def cF14m2:AC:=(.block 2 (.seq (.sem (.reg [Qa 38 13,
sq 39 (.bin .lss (.t 38) (kI 0)),
Qa 40 39,
Qv 41 40 false 1,
Qv 42 40 false 13,
zg 43 40 false (.indexA 32 (.t 41) (.t 42)),
Qu 44 40 false 32 43,
zg 45 40 false (.call 42 [(.t 44)]),
zg 46 40 false (.not (.t 45)),
Qj 47 40 46,
Qa 37 47]))
 (.cond (.t 37)
 (.seq (.reg [Qa 48 10,
Qa 8 48,
Qe 9 7])
 .ret)
 (.seq (.reg [Qa 50 0,
Qa 51 1,
Qa 52 1,
Qa 53 13,
Qp 54 32 52 53,
Qc 55 32 54,
sq 56 (.call 16 [(.t 50),(.t 51),(.t 55)]),
Qq 57 56,
Qa 49 57])
 (.cond (.t 49)
 (.seq (.reg [Qa 58 10,
Qa 8 58,
Qe 9 16])
 .ret)
 (.seq (.reg [Qa 60 1,
Qa 61 13,
Qp 62 32 60 61,
Qc 63 32 62,
Qk 64 30 63,
Qq 65 64,
Qa 59 65])
 (.cond (.t 59)
 (.seq (.reg [Qa 66 10,
Qa 8 66,
Qe 9 0])
 .ret)
 .skip)))))))
def F14m2(l:List Budget)(pods:List Pod)(key:ByteArray)(now:Int)(cs:List RBud)(at_:Int):Option ((Int) ⊕ (Unit)):=(((if at_<0 then some true else(rdI pods at_).bind fun y3=>(F42 y3).bind fun t4=>some (nb t4))).bind fun o1=>(if o1=true then some (Sum.inl 7)else(rdI pods at_).bind fun y6=>(F16 l pods y6).bind fun t7=>(if(nb t7)=true then some (Sum.inl 16)else(F30 y6).bind fun t9=>(if(nb t9)=true then some (Sum.inl 0)else some (Sum.inr (()))))))
theorem F14m2_ok{l pods key now cs at_ r}(h:F14m2 l pods key now cs at_=some r):sK Try.prog 118 0 cF14m2 [] (sM 118 0 (fun s=>∃o1,r=Sum.inr (o1)∧s=⟨[(1,oc (dM (pods.map ePod))),(3,oc (dI now)),(6,Pz 0),(10,oc (.own 1 0 0 (cs.length) none)),(13,oc (dI at_))],[xb [dS key],some (.arr 0 22 (cs.map eRBud))]⟩) (xQ 118 0 (fun _ _=>False) (fun s=>∃o0,r=Sum.inl o0∧s=⟨[(8,oc (.own 0 0 0 (cs.length) none)),(9,oc (dI o0))],[some (.arr 0 22 (cs.map eRBud))]⟩)))
 ⟨[(0,oc (dM (l.map eBudget))),(1,oc (dM (pods.map ePod))),(3,oc (dI now)),(6,Pz 0),(10,oc (.own 1 0 0 (cs.length) none)),(13,oc (dI at_))],[xb [dS key],some (.arr 0 22 (cs.map eRBud))]⟩:=by
 rw[F14m2]at h
 simp only[cF14m2,VW.down,Nat.reduceEqDiff,reduceCtorEq,Nat.reduceAdd,Nat.reduceLeDiff,Nat.reduceLT,Nat.reduceBEq,Nat.reduceSub,EE.down]
 obtain⟨o1,ho,h⟩:=bi h
 refine cutS (fun s=>s=⟨[(0,oc (dM (l.map eBudget))),(1,oc (dM (pods.map ePod))),(3,oc (dI now)),(6,Pz 0),(10,oc (.own 1 0 0 (cs.length) none)),(13,oc (dI at_)),(37,oc (dB o1))],[xb [dS key],some (.arr 0 22 (cs.map eRBud))]⟩) ?_ ?_
 ·have h:=ho
  clear ho
  refine ww ?_
  refine guardSh h (fun g2 h=>ww ?_) (fun g2 h=>?_)
  ·cases h
   exact eM [some 0,some 1] rfl
  ·refine ww ?_
   obtain⟨y3,hy3,h⟩:=bi h
   refine t_idxF (enc:=ePod) (xs:=pods) rfl rfl hy3 rfl (ww ?_)
   obtain⟨t4,ht4,h⟩:=bi h
   refine cN [] (F42_ok ht4) trivial (ww ?_)
   cases h
   exact eM [some 0,some 1] rfl
 ·rintro _ rfl
  clear ho
  refine ww ?_
  refine condBh h (fun c5 h=>ww ?_) (fun c5 h=>?_)
  ·cases h
   exact eR [some 1] ⟨_,rfl,rfl⟩
  ·refine ww ?_
   obtain⟨y6,hy6,h⟩:=bi h
   refine t_idxF (enc:=ePod) (xs:=pods) rfl rfl hy6 rfl (ww ?_)
   obtain⟨t7,ht7,h⟩:=bi h
   refine cN [] (F16_ok ht7) trivial (ww ?_)
   refine condBh h (fun c8 h=>ww ?_) (fun c8 h=>?_)
   ·cases h
    exact eR [some 1] ⟨_,rfl,rfl⟩
   ·refine ww ?_
    refine t_idxF (enc:=ePod) (xs:=pods) rfl rfl hy6 rfl (ww ?_)
    obtain⟨t9,ht9,h⟩:=bi h
    refine cN [] (F30_ok ht9) trivial (ww ?_)
    refine condBh h (fun c10 h=>ww ?_) (fun c10 h=>?_)
    ·cases h
     exact eR [some 1] ⟨_,rfl,rfl⟩
    ·refine ww ?_
     cases h
     exact eM [some 0,some 1] ⟨_,rfl,rfl⟩
def sL(l:List Budget)(pods:List Pod)(key:ByteArray)(now:Int)(cs:List RBud)(n:Int)(i:Int):St:=⟨[(0,oc (dM (l.map eBudget))),(1,oc (dM (pods.map ePod))),(3,oc (dI now)),(6,Pz 0),(10,oc (.own 1 0 0 (cs.length) none)),(21,oc (.own 1 0 0 (cs.length) none)),(22,oc (dI n)),(23,oc (dI i))],[xb [dS key],some (.arr 0 22 (cs.map eRBud))]⟩
def sM1(l:List Budget)(pods:List Pod)(key:ByteArray)(now:Int)(cs:List RBud)(at_:Int):St:=⟨[(0,oc (dM (l.map eBudget))),(1,oc (dM (pods.map ePod))),(3,oc (dI now)),(6,Pz 0),(10,oc (.own 1 0 0 (cs.length) none)),(13,oc (dI at_))],[xb [dS key],some (.arr 0 22 (cs.map eRBud))]⟩
def sC(pods:List Pod)(key:ByteArray)(cs:List RBud)(at_:Int)(item:WorkItem)(n:Int)(i:Int):St:=⟨[(1,oc (dM (pods.map ePod))),(6,Pz 0),(10,oc (.own 1 0 0 (cs.length) none)),(13,oc (dI at_)),(14,Pz 2),(71,oc (.own 1 0 0 (cs.length) none)),(72,oc (dI n)),(73,oc (dI i))],[xb [dS key],some (.arr 0 22 (cs.map eRBud)),xb [dS item.Key,dI item.At]]⟩
def sLx(l:List Budget)(pods:List Pod)(key:ByteArray)(now:Int)(cs:List RBud)(n:Int)(i:Int)(c:Bool):St:=⟨[(0,oc (dM (l.map eBudget))),(1,oc (dM (pods.map ePod))),(3,oc (dI now)),(6,Pz 0),(10,oc (.own 1 0 0 (cs.length) none)),(21,oc (.own 1 0 0 (cs.length) none)),(22,oc (dI n)),(23,oc (dI i)),(24,oc (dB c))],[xb [dS key],some (.arr 0 22 (cs.map eRBud))]⟩
def sCx(pods:List Pod)(key:ByteArray)(cs:List RBud)(at_:Int)(item:WorkItem)(n:Int)(i:Int)(c:Bool):St:=⟨[(1,oc (dM (pods.map ePod))),(6,Pz 0),(10,oc (.own 1 0 0 (cs.length) none)),(13,oc (dI at_)),(14,Pz 2),(71,oc (.own 1 0 0 (cs.length) none)),(72,oc (dI n)),(73,oc (dI i)),(74,oc (dB c))],[xb [dS key],some (.arr 0 22 (cs.map eRBud)),xb [dS item.Key,dI item.At]]⟩
def sO(pods:List Pod)(key:ByteArray)(cs:List RBud)(at_:Int)(item:WorkItem)(n:Int)(i:Int)(b:Budget)(ws:List WorkItem):St:=⟨[(1,oc (dM (pods.map ePod))),(6,Pz 0),(10,oc (.own 1 0 0 (cs.length) none)),(13,oc (dI at_)),(14,Pz 2),(15,oc (dI i)),(16,Pz 3),(71,oc (.own 1 0 0 (cs.length) none)),(72,oc (dI n)),(73,oc (dI i))],[xb [dS key],some (.arr 0 22 (cs.map eRBud)),xb [dS item.Key,dI item.At],xb [dS b.Meta.Kind,dS b.Meta.Namespace,dS b.Meta.Name,dI b.Meta.Uid,dI b.Meta.Version,dI b.Meta.Generation,dI b.Meta.Created,dB b.Meta.Deleting,dI b.Meta.DeleteAt,dM (b.Meta.Labels.map eLabel),dM (b.Meta.Owners.map eOwner),dM (b.Meta.Finalizers.map eS),dM (b.Meta.Managers.map eManager),dM (b.Selector.map eRequirement),dM (b.MinAvailable.map eAmount),dM (b.MaxUnavailable.map eAmount),dI b.Observed,dI b.Healthy,dI b.Desired,dI b.Expected,dI b.Allowed,.own 4 0 0 (ws.length) none],some (.arr 0 2 (ws.map eWorkItem))]⟩
def toR(b:Budget):RBud:=⟨b.Meta,b.Selector,b.MinAvailable,b.MaxUnavailable,b.Observed,b.Healthy,b.Desired,b.Expected,b.Allowed,.sl (b.Disrupted.map eWorkItem)⟩
def toU(b:Budget)(u:Value):RBud:=⟨b.Meta,b.Selector,b.MinAvailable,b.MaxUnavailable,b.Observed,b.Healthy,b.Desired,b.Expected,b.Allowed,.v u⟩
def F14mk(b:Budget)(t:(List Label)×(List Owner)×(List ByteArray)×(List Manager)×(List Requirement)×(List Amount)×(List Amount)×(List WorkItem)):Budget:=
 ⟨⟨b.Meta.Kind,b.Meta.Namespace,b.Meta.Name,b.Meta.Uid,b.Meta.Version,b.Meta.Generation,b.Meta.Created,b.Meta.Deleting,b.Meta.DeleteAt,t.1,t.2.1,t.2.2.1,t.2.2.2.1⟩,t.2.2.2.2.1,t.2.2.2.2.2.1,t.2.2.2.2.2.2.1,b.Observed,b.Healthy,b.Desired,b.Expected,b.Allowed,t.2.2.2.2.2.2.2⟩
def F14copy:List Budget→Option (List Budget)
 |[]=>some []
 |b::r=>(F24 b).bind fun t=>(F14copy r).bind fun cs=>some (F14mk b t::cs)
def F14one(b:Budget)(ds:List WorkItem):Budget:=⟨b.Meta,b.Selector,b.MinAvailable,b.MaxUnavailable,b.Observed,(IntKind.i64.wrap (b.Healthy-1)),b.Desired,b.Expected,(IntKind.i64.wrap (b.Allowed-1)),ds⟩
def F14loop(pods:List Pod)(key:ByteArray)(at_:Int)(item:WorkItem):List Budget→Option (List Budget)
 |[]=>some []
 |b::r=>(F14c3 pods key [] at_ item 0 0 b b.Disrupted).bind fun q=>match q with
  |Sum.inl _=>(F14loop pods key at_ item r).bind fun ds=>some (b::ds)
  |Sum.inr _=>(F43 b.Disrupted item).bind fun t1=>(insI b.Disrupted t1.1 item).bind fun t2=>(F14loop pods key at_ item r).bind fun ds=>some (F14one b t2::ds)
def F14it(key:ByteArray)(now:Int):WorkItem:=⟨key,(if(1000000000000:Int)<(if now<0 then 0 else now)then(1000000000000:Int)else(if now<0 then 0 else now))⟩
def F14(l:List Budget)(pods:List Pod)(key:ByteArray)(now:Int):Option ((List Budget)×Int):=
 (cloneI l).bind fun l0=>(ck (l0.length≤4294967290)).bind fun _=>(F14copy l0).bind fun cs=>(F40 pods key).bind fun at_=>(F14m2 l pods key now [] at_).bind fun q=>match q with
   |Sum.inl e=>some (cs,e)
   |Sum.inr _=>(F25 now 1000000000000).bind fun _=>(F14loop pods key at_ (F14it key now) cs).bind fun ds=>some (ds,0)
def oB2:List AStep:=match cF14b2 with
 | .reg l=>l
 |_=>[]
def cL1:AC:= .seq cF14b0 (.seq (.cond (.t 24) .skip (.exit 0)) (.seq (.block 1 (.seq cF14b1 (.reg (oB2++[su (.store 22 (.t 32) (.t 31))])))) cF14b5))
def cL2:AC:= .seq cF14c0 (.seq (.cond (.t 74) .skip (.exit 3)) (.seq (.block 4 (.seq cF14c1 (.seq cF14c3 cF14c4))) cF14c5))
def a14:AFn:=⟨118,[.tmp 8,.tmp 9],.seq cF14a1 (.seq cF14a2 (.seq (.seq cF14a3 (.block 0 (.loop cL1))) (.seq cF14m1 (.seq cF14m2 (.seq cF14m3 (.seq (.seq cF14m4 (.block 3 (.loop cL2))) cF14e1))))))⟩
theorem a14_ok:afn Try.prog 14=some a14.er:=by kernel_rfl
def rowU(p:Budget×Value):RBud:=toU p.1 p.2
def alOf(p:Budget×Value):Option AE:=some (p.2,2,p.1.Disrupted.map eWorkItem)
theorem ev_rdn{α:Type}{xs:List α}{i:Nat}{y:α}(h:xs[i]? =some y):rdI xs (i:Int)=some y:=by
 unfold rdI;rw[if_pos (by omega)];simpa using h
theorem ev_rdm{α:Type}{a b:List α}{y:α}:rdI (a++y::b) (a.length:Int)=some y:=ev_rdn (by simp)
theorem ev_setm{α:Type}{a b:List α}{y z:α}:(a++y::b).set a.length z=a++z::b:=by simp
section
variable {w0:World} {F0:Nat→Prop} {R:RB} {l:List Budget} {pods:List Pod} {key:ByteArray} {now:Int}
theorem ev_loop1{l0 cs:List Budget}(hb:l0.length≤4294967290)(hc:F14copy l0=some cs)
 (hE:∀(us:List (Budget×Value)) (i:Int) (c:Bool),us.map Prod.fst=cs→R .normal (sLx l pods key now (us.map rowU) (us.map rowU).length i c) (us.map alOf) []):
 WB Try.prog 118 w0 F0 (.block 0 (.loop cL1)) R (sL l pods key now (l0.map toR) (l0.map toR).length 0) [] []:=by
 refine WB.block (WB.loop (fun k s al K=>∃(dn:List (Budget×Value)) (rest cs':List Budget) (rows:List RBud),k=rest.length∧dn.length+rest.length=l0.length∧F14copy rest=some cs'∧dn.map Prod.fst++cs'=cs∧rows=dn.map rowU++rest.map toR∧K=[]∧al=dn.map alOf∧
  s=sL l pods key now rows rows.length (dn.length:Nat)) ⟨l0.length,[],l0,cs,_,rfl,by simp,hc,rfl,rfl,rfl,rfl,rfl⟩ ?_)
 rintro k s al K ⟨dn,rest,cs',rows,rfl,hlen,hrest,hcs,hrows,rfl,rfl,rfl⟩
 refine WB.pseq kNil (F14b0_ok rfl) ?_ noX noR
 rintro _ rfl
 have hrl:rows.length=dn.length+rest.length:=by rw[hrows];simp
 refine WB.seq (WB.cond (t:=decide ((dn.length:Int)<(rows.length:Int))) rfl (fun ht=>WB.skip ?_) (fun ht=>WB.exit ?_))
 ·have ht:=of_decide_eq_true ht
  cases rest with
  |nil=>exfalso;rw[hrl]at ht;simp at ht
  |cons b rest=>
  simp only[F14copy,Option.bind_eq_some_iff]at hrest
  obtain⟨t,ht1,cs2,hcs2,hcs'⟩:=hrest
  cases hcs'
  have hrd:rdI rows (dn.length:Int)=some (toR b):=by
   have:=@ev_rdm RBud (dn.map rowU) (rest.map toR) (toR b)
   rw[List.length_map]at this;rw[hrows];exact this
  refine WB.seq (WB.block ?_)
  refine WB.pseq kNil (F14b1_ok (r:=toR b) (by unfold F14b1;rw[hrd];rfl)) ?_ noX noR
  rintro _ rfl
  refine WB.splitR (s1:=oB2) rfl rfl rfl (piece_ops (F14b2_ok (b:=b) (r:=t) (by unfold F14b2;rw[ht1,hrd];rfl))) ?_
  rintro s' ⟨s2,hv,rfl⟩
  refine(Tell.view kNil hv).trans ?_
  rintro _ _ _ ⟨rfl,rfl,rfl⟩
  refine(Tell.expel (t:=31) (j:=21) (id:=2) (e:=0) (sz:=2) (rows:=t.2.2.2.2.2.2.2.map eWorkItem) rfl (by rw[List.length_map];rfl) rfl).trans ?_
  rintro _ _ _ ⟨u,rfl,rfl,rfl⟩
  refine Tell.refl ⟨1,0,dn.length,rows.map eRBud,eRBud (toR b),eRBud (toU (F14mk b t) u),rfl,rfl,?_,rfl,rfl,by decide,?_⟩
  ·rw[List.getElem?_map]
   have:=(rdI_some hrd).2.1
   simp only[Int.toNat_natCast]at this
   rw[this];rfl
  ·have hr2:(rows.map eRBud).set dn.length (eRBud (toU (F14mk b t) u))=(((dn++[(F14mk b t,u)]).map rowU)++rest.map toR).map eRBud:=by
    have:=@ev_setm RBud (dn.map rowU) (rest.map toR) (toR b) (toU (F14mk b t) u)
    rw[List.length_map]at this
    rw[←List.map_set,hrows,List.map_cons,this];simp[rowU]
   have hr3:(((dn++[(F14mk b t,u)]).map rowU)++rest.map toR).length=rows.length:=by rw[hrl];simp<;>omega
   generalize hrows2:((dn++[(F14mk b t,u)]).map rowU)++rest.map toR=rows2 at hr2 hr3
   rw[hr2]
   refine WB.tell (Tell.view (s':=sL l pods key now rows2 rows2.length (dn.length:Nat)) (m:=0) kNil ?_) ?_
   ·unfold sL;rw[hr3]
    exact eV [some 0,some 1] (hs:=by simp only[ZZ.down,Nat.reduceEqDiff,reduceCtorEq,Nat.reduceAdd,Nat.reduceLeDiff,Nat.reduceLT,Nat.reduceBNe,EE.down];exact Nat.le_of_eq hr3.symm)
   rintro _ _ _ ⟨rfl,rfl,rfl⟩
   refine WB.pc kNil (F14b5_ok rfl) ?_ noX noR
   rintro _ rfl
   refine Tell.refl ⟨rest.length,by simp,dn++[(F14mk b t,u)],rest,cs2,rows2,rfl,by simp at hlen⊢;omega,hcs2,by rw[←hcs];simp,hrows2.symm,rfl,by simp[alOf,F14mk],?_⟩
   rw[wrapN (by omega)]
   simp[sL]
 ·have hr0:rest=[]:=by
   have:=of_decide_eq_false ht
   rw[hrl]at this
   exact List.length_eq_zero_iff.1 (by omega)
  subst hr0
  cases hrest
  simp only[List.map_nil,List.append_nil]at hrows hcs
  subst hrows
  exact hE dn _ _ hcs
theorem re_cells{b:Budget}{u:Value}:(eRBud (toR b)).length=(eRBud (toU b u)).length∧∀(j:Nat) d d',(eRBud (toU b u))[j]? =some d→(eRBud (toR b))[j]? =some d'→d'=d∨(d= .v u∧d'= .sl (b.Disrupted.map eWorkItem)):=by
 refine⟨rfl,fun j d d' h h'=>?_⟩
 have e1:eRBud (toU b u)=(eBudget b).take 21++[.v u]:=rfl
 have e2:eRBud (toR b)=(eBudget b).take 21++[.sl (b.Disrupted.map eWorkItem)]:=rfl
 rw[e1,List.getElem?_append]at h
 rw[e2,List.getElem?_append]at h'
 split at h
 ·rename_i hlt
  rw[if_pos hlt,h]at h';exact .inl (Option.some.inj h').symm
 ·rename_i hlt
  rw[if_neg hlt]at h'
  by_cases h0:j-((eBudget b).take 21).length=0
  ·rw[h0]at h h'
   exact .inr ⟨(Option.some.inj h).symm,(Option.some.inj h').symm⟩
  ·rw[List.getElem?_eq_none (by simp at h0⊢;omega)]at h;cases h
theorem re_mid{A B:List (List D)}{x y:List D}{T:Nat→D→D→Prop}(hT:∀i d,T i d d)(hl:y.length=x.length)(h:∀(j:Nat) d d',x[j]? =some d→y[j]? =some d'→T A.length d d'):
 ∀(i:Nat) r r',(A++x::B)[i]? =some r→(A++y::B)[i]? =some r'→r'.length=r.length∧∀(j:Nat) d d',r[j]? =some d→r'[j]? =some d'→T i d d':=by
 intro i r r' hr hr'
 by_cases hi:i=A.length
 ·subst hi
  simp only[List.getElem?_append_right (Nat.le_refl _),Nat.sub_self,List.getElem?_cons_zero,Option.some.injEq]at hr hr'
  subst hr;subst hr';exact⟨hl,h⟩
 ·have:(A++y::B)[i]? =(A++x::B)[i]? :=by
   rw[List.getElem?_append,List.getElem?_append]
   split
   ·rfl
   ·obtain⟨k,hk⟩:∃k,i-A.length=k+1:=⟨i-A.length-1,by omega⟩
    rw[hk];rfl
  rw[this,hr]at hr';cases hr'
  exact⟨rfl,fun j d d' h1 h2=>by rw[h1]at h2;cases h2;exact hT _ _⟩
theorem ev_loop2{at_:Int}{item:WorkItem}{us:List (Budget×Value)}{fin:List Budget}(hb:us.length≤4294967290)(hl:F14loop pods key at_ item (us.map Prod.fst)=some fin)
 (hE:∀(i:Int) (c:Bool) (al:List (Option AE)),R .normal (sCx pods key (fin.map toR) at_ item (fin.map toR).length i c) al []):
 WB Try.prog 118 w0 F0 (.block 3 (.loop cL2)) R (sC pods key (us.map rowU) at_ item (us.map rowU).length 0) (us.map alOf) []:=by
 refine WB.block (WB.loop (fun k s al K=>∃(ds:List Budget) (rem:List (Budget×Value)) (fin':List Budget) (rows:List RBud),k=rem.length∧ds.length+rem.length=us.length∧F14loop pods key at_ item (rem.map Prod.fst)=some fin'∧ds++fin'=fin∧rows=ds.map toR++rem.map rowU∧K=[]∧
  al=List.replicate ds.length none++rem.map alOf∧s=sC pods key rows at_ item rows.length (ds.length:Nat)) ⟨us.length,[],us,fin,_,rfl,by simp,hl,rfl,rfl,rfl,rfl,rfl⟩ ?_)
 rintro k s al K ⟨ds,rem,fin',rows,rfl,hlen,hrem,hfin,hrows,rfl,rfl,rfl⟩
 refine WB.pseq kNil (F14c0_ok rfl) ?_ noX noR
 rintro _ rfl
 have hrl:rows.length=ds.length+rem.length:=by rw[hrows];simp
 refine WB.seq (WB.cond (t:=decide ((ds.length:Int)<(rows.length:Int))) rfl (fun ht=>WB.skip ?_) (fun ht=>WB.exit ?_))
 ·have ht:=of_decide_eq_true ht
  cases rem with
  |nil=>exfalso;rw[hrl]at ht;simp at ht
  |cons p rem=>
  obtain⟨b,u⟩:=p
  have hrows':rows=ds.map toR++toU b u::rem.map rowU:=hrows
  have hrd:rdI rows (ds.length:Int)=some (toU b u):=by
   have:=@ev_rdm RBud (ds.map toR) (rem.map rowU) (toU b u)
   rw[List.length_map]at this;rw[hrows'];exact this
  have hset:∀z,rows.set ds.length z=ds.map toR++z::rem.map rowU:=fun z=>by
   have:=@ev_setm RBud (ds.map toR) (rem.map rowU) (toU b u) z
   rw[List.length_map]at this;rw[hrows',this]
  simp only[List.map_cons,F14loop,Option.bind_eq_some_iff]at hrem
  obtain⟨q,hq,hrem⟩:=hrem
  have round:∀(b':Budget) (rows2:List RBud) (fin2:List Budget),rows2=(ds++[b']).map toR++rem.map rowU→F14loop pods key at_ item (rem.map Prod.fst)=some fin2→fin'=b'::fin2→
   WB Try.prog 118 w0 F0 cF14c5 (thenB (fun s' l' K'=>∃k',k'<(rem.length+1)∧∃(ds:List Budget) (rem:List (Budget×Value)) (fin':List Budget) (rows:List RBud),k'=rem.length∧ds.length+rem.length=us.length∧F14loop pods key at_ item (rem.map Prod.fst)=some fin'∧ds++fin'=fin∧rows=ds.map toR++rem.map rowU∧K'=[]∧
    l'=List.replicate ds.length none++rem.map alOf∧s'=sC pods key rows at_ item rows.length (ds.length:Nat)) (blockB 3 R)) (sC pods key rows2 at_ item rows2.length (ds.length:Nat)) (List.replicate (ds.length+1) none++rem.map alOf) []:=by
   intro b' rows2 fin2 hr2 hl2 hf2
   refine WB.pc kNil (F14c5_ok rfl) ?_ noX noR
   rintro _ rfl
   refine Tell.refl ⟨rem.length,by omega,ds++[b'],rem,fin2,rows2,rfl,by simp at hlen⊢;omega,hl2,by rw[←hfin,hf2];simp,hr2,rfl,by simp,?_⟩
   rw[wrapN (by omega)]
   simp[sC]
  have hal:(List.replicate ds.length none++List.map alOf ((b,u)::rem)).set ds.length none=List.replicate (ds.length+1) none++rem.map alOf:=by
   have:=@ev_setm (Option AE) (List.replicate ds.length none) (rem.map alOf) (alOf (b,u)) none
   rw[List.length_replicate]at this
   rw[List.map_cons,this,List.replicate_succ'];simp
  refine WB.seq (WB.block ?_)
  refine WB.pseq kNil (F14c1_ok (r:=toU b u) (by unfold F14c1;rw[hrd];rfl)) ?_ noX noR
  rintro _ rfl
  refine WB.tell (Tell.adopt (p:=3) (j:=21) (i:=ds.length) (sz:=2) (u:=u) (rows:=b.Disrupted.map eWorkItem) rfl rfl (by rw[List.map_cons,List.getElem?_append_right (by simp)];simp[alOf])) ?_
  rintro _ _ _ ⟨rfl,rfl,rfl⟩
  rw[hal,List.length_map]
  refine WB.pseq (m:=5) (fun x hx=>by rw[List.mem_singleton.1 hx];exact(by decide:(4:Nat)<5)) (F14c3_ok (b:=b) (ws:=b.Disrupted) (r:=q) hq) ?_ ?_ noR
  ·rintro _ ⟨o1,rfl,rfl⟩
   simp only[Option.bind_eq_some_iff]at hrem
   obtain⟨t1,ht1,t2,ht2,fin2,hfin2,hf⟩:=hrem
   cases hf
   refine WB.tell Tell.unlink ?_
   rintro _ _ _ ⟨rfl,rfl,rfl⟩
   refine WB.pc kNil (F14c4_ok (r:=(ds++[F14one b t2]).map toR++rem.map rowU) ?_) ?_ noX noR
   ·unfold F14c4
    rw[ht1];show(insI _ _ _).bind _=_
    rw[ht2];show(rdI _ _).bind _=_
    rw[hrd];show some (rows.set (Int.toNat (ds.length:Int)) (toR (F14one b t2)))=_
    rw[Int.toNat_natCast,hset];simp
   rintro _ rfl
   refine Tell.refl ?_
   have hr2l:((ds++[F14one b t2]).map toR++rem.map rowU).length=rows.length:=by rw[hrl];simp<;>omega
   have:=round _ _ _ rfl hfin2 rfl
   rw[hr2l]at this
   generalize (ds++[F14one b t2]).map toR++rem.map rowU=rows2 at this hr2l⊢
   rw[hr2l]
   unfold sC at this
   rw[hr2l]at this
   exact this
  ·rintro _ _ ⟨rfl,o0,rfl,rfl⟩
   simp only[Option.bind_eq_some_iff]at hrem
   obtain⟨fin2,hfin2,hf⟩:=hrem
   cases hf
   have hr2l:((ds++[b]).map toR++rem.map rowU).length=rows.length:=by rw[hrl];simp<;>omega
   have hr2:((ds++[b]).map toR++rem.map rowU).map eRBud=(ds.map toR).map eRBud++eRBud (toR b)::(rem.map rowU).map eRBud:=by simp
   have hr1:rows.map eRBud=(ds.map toR).map eRBud++eRBud (toU b u)::(rem.map rowU).map eRBud:=by rw[hrows'];simp
   have hround:=round _ _ _ rfl hfin2 rfl
   generalize (ds++[b]).map toR++rem.map rowU=rows2 at hround hr2l hr2
   refine(Tell.unlend (id:=4) (o:=1) (e:=0) (so:=22) (sz:=2) (u:=u) (rows:=b.Disrupted.map eWorkItem) (R:=rows.map eRBud) (R':=rows2.map eRBud) (by rw[List.length_map];rfl) rfl rfl (by decide) (by simp[hr2l]) ?_).trans ?_
   ·rw[hr1,hr2]
    exact re_mid (T:=fun _ d d'=>d'=d∨(d= .v u∧d'= .sl (b.Disrupted.map eWorkItem))) (fun _ _=> .inl rfl) re_cells.1 re_cells.2
   rintro _ _ _ ⟨rfl,rfl,rfl⟩
   refine(Tell.view (s':=sC pods key rows2 at_ item rows2.length (ds.length:Nat)) (m:=0) kNil ?_).trans ?_
   ·unfold sC;rw[hr2l]
    exact eV [some 0,some 1,some 2] (hs:=by simp only[ZZ.down,Nat.reduceEqDiff,reduceCtorEq,Nat.reduceAdd,Nat.reduceLeDiff,Nat.reduceLT,Nat.reduceBNe,EE.down];exact Nat.le_of_eq hr2l.symm)
   rintro _ _ _ ⟨rfl,rfl,rfl⟩
   exact Tell.refl hround
 ·have hr0:rem=[]:=by
   have:=of_decide_eq_false ht
   rw[hrl]at this
   exact List.length_eq_zero_iff.1 (by omega)
  subst hr0
  cases hrem
  simp only[List.map_nil,List.append_nil]at hrows hfin
  subst hrows;subst hfin
  exact hE _ _ _
end
theorem ev_end{ds:List Budget}{e:Int}:endQ 0 [.tmp 8,.tmp 9] [.c (.own 0 0 0 ds.length none),.c (dI e)] [some (.arr 0 22 (ds.map eBudget))] .ret
 ⟨[(8,oc (.own 0 0 0 (ds.map toR).length none)),(9,oc (dI e))],[some (.arr 0 22 ((ds.map toR).map eRBud))]⟩:=by
 have e1:(ds.map toR).map eRBud=ds.map eBudget:=by rw[List.map_map];rfl
 rw[e1,List.length_map]
 have:sE 0 [.tmp 8,.tmp 9] [.c (.own 0 0 0 ds.length none),.c (dI e)] [some (.arr 0 22 (ds.map eBudget))] .ret
  ⟨[(8,oc (.own 0 0 0 ds.length none)),(9,oc (dI e))],[some (.arr 0 22 (ds.map eBudget))]⟩:=by
  refine ww ?_
  exact eF [some 0]
 rw[sE_eq]at this;exact this
theorem re_all:∀(us:List (Budget×Value)) (al:List (Option AE)) (k0:Nat),(∀i p,us[i]? =some p→al[k0+i]? =some (alOf p))→∀(i:Nat) r r',((us.map rowU).map eRBud)[i]? =some r→(((us.map Prod.fst).map toR).map eRBud)[i]? =some r'→r'.length=r.length∧
 ∀(j:Nat) d d',r[j]? =some d→r'[j]? =some d'→d'=d∨∃(k:Nat) (u:Value) (sz:Nat) (rows:List (List D)),d= .v u∧al[k]? =some (some (u,sz,rows))∧d'= .sl rows:=by
 intro us al k0 hal i r r' hr hr'
 simp only[List.getElem?_map,Option.map_map]at hr hr'
 cases hp:us[i]? with
 |none=>rw[hp]at hr;cases hr
 |some p=>
  rw[hp]at hr hr'
  cases hr;cases hr'
  refine⟨re_cells.1,fun j d d' h1 h2=>?_⟩
  rcases re_cells.2 j d d' h1 h2 with h|⟨h,h'⟩
  ·exact .inl h
  ·exact .inr ⟨k0+i,p.2,2,_,h,hal i p hp,h'⟩
theorem F14copy_len:∀{l0 cs:List Budget},F14copy l0=some cs→cs.length=l0.length
 |[],cs,h=>by cases h;rfl
 |b::r,cs,h=>by
  simp only[F14copy,Option.bind_eq_some_iff]at h
  obtain⟨_,_,cs2,h2,h3⟩:=h
  cases h3;simp[F14copy_len h2]
theorem F14_ok{l pods key now r}(h:F14 l pods key now=some r):
 CallD Try.prog 14 [.c (dM (l.map eBudget)),.c (dM (pods.map ePod)),.c (dS key),.c (dI now)] [] (tupV [.c (.own 0 0 0 (r.1.length) none),.c (dI r.2)]) [some (.arr 0 22 (r.1.map eBudget))]:=by
 simp only[F14,Option.bind_eq_some_iff]at h
 obtain⟨l0,hl0,_,hck,cs,hcs,at_,hat,q,hq,h⟩:=h
 have hck:=ck_some hck
 refine callD_al (A:=a14) a14_ok (show 4≤118 by decide) fun w0 F0=>?_
 refine WB.pseq kNil (F14a1_ok (l:=l) (pods:=pods) (key:=key) (now:=now) rfl) ?_ noX noR
 rintro _ rfl
 refine WB.pseq kNil (F14a2_ok (r:=l0) (by unfold F14a2;rw[hl0];rfl)) ?_ noX noR
 rintro _ rfl
 have e1:l0.map eBudget=(l0.map toR).map eRBud:=by rw[List.map_map];rfl
 have e2:l0.length=(l0.map toR).length:=(List.length_map _).symm
 rw[e1,e2]
 refine WB.seq (WB.pseq kNil (F14a3_ok (cs:=l0.map toR) rfl) ?_ noX noR)
 rintro _ rfl
 refine ev_loop1 hck hcs fun us i c hus=>?_
 refine WB.pseq kNil (F14m1_ok (r:=at_) (by unfold F14m1;rw[hat];rfl)) ?_ noX noR
 rintro _ rfl
 refine WB.pseq kNil (F14m2_ok (cs:=us.map rowU) (r:=q) hq) ?_ noX ?_
 ·rintro _ ⟨o1,rfl,rfl⟩
  simp only[Option.bind_eq_some_iff]at h
  obtain⟨t25,h25,ds,hds,h⟩:=h
  cases h
  refine WB.pseq kNil (F14m3_ok (cs:=us.map rowU) (at_:=at_) (by unfold F14m3;rw[h25];rfl)) ?_ noX noR
  rintro _ rfl
  refine WB.seq (WB.pseq kNil (F14m4_ok (item:=F14it key now) rfl) ?_ noX noR)
  rintro _ rfl
  have hlen:us.length≤4294967290:=by
   have:us.length=l0.length:=by
    rw[←List.length_map (f:=Prod.fst),hus]
    exact F14copy_len hcs
   omega
  refine ev_loop2 hlen (by rw[hus];exact hds) fun i c al=>?_
  refine WB.pc kNil (F14e1_ok (cs:=ds.map toR) rfl) noR noX ?_
  rintro _ rfl
  refine(Tell.giveUp (o:=0) (e:=0) (so:=22) (R:=(ds.map toR).map eRBud) (R':=(ds.map toR).map eRBud) rfl rfl fun i r r' h1 h2=>?_).trans ?_
  ·rw[h1]at h2;cases h2
   exact⟨rfl,fun j d d' h3 h4=> .inl (by rw[h3]at h4;cases h4;rfl)⟩
  rintro _ _ _ ⟨rfl,rfl,rfl⟩
  exact Tell.refl ev_end
 ·rintro _ ⟨o0,rfl,rfl⟩
  cases h
  subst hus
  refine(Tell.giveUp (o:=0) (e:=0) (so:=22) (R:=(us.map rowU).map eRBud) (R':=((us.map Prod.fst).map toR).map eRBud) rfl (by simp) (re_all us _ 0 fun i p hp=>by rw[Nat.zero_add,List.getElem?_map,hp];rfl)).trans ?_
  rintro _ _ _ ⟨rfl,rfl,rfl⟩
  have:(us.map rowU).length=((us.map Prod.fst).map toR).length:=by simp
  rw[this]
  exact Tell.refl ev_end
def F9:Option (Bool):=(((F23 ((⟨#[97]⟩:ByteArray))).bind fun t2=>(F23 ((⟨#[98]⟩:ByteArray))).bind fun t3=>(F23 ((⟨#[99]⟩:ByteArray))).bind fun t4=>some (())).bind fun o1=>(F11 ((⟨(⟨(⟨#[]⟩:ByteArray),(⟨#[110,115]⟩:ByteArray),(⟨#[]⟩:ByteArray),0,0,0,0,false,0,[],[],[],[]⟩:Meta),[],[(⟨false,2⟩:Amount)],[],0,0,0,0,0,[]⟩:Budget)) ((lit [(⟨(⟨(⟨#[80,111,100]⟩:ByteArray),(⟨#[110,115]⟩:ByteArray),((⟨#[97]⟩:ByteArray)),0,0,0,0,false,0,[],[],[],[]⟩:Meta),(⟨(⟨#[]⟩:ByteArray),0,0,0,[],[],[],[],[],[]⟩:PodSpec),(⟨1,true,0,0,0,[],0,(⟨#[]⟩:ByteArray),(⟨#[]⟩:ByteArray)⟩:PodStatus)⟩:Pod),(⟨(⟨(⟨#[80,111,100]⟩:ByteArray),(⟨#[110,115]⟩:ByteArray),((⟨#[98]⟩:ByteArray)),0,0,0,0,false,0,[],[],[],[]⟩:Meta),(⟨(⟨#[]⟩:ByteArray),0,0,0,[],[],[],[],[],[]⟩:PodSpec),(⟨1,true,0,0,0,[],0,(⟨#[]⟩:ByteArray),(⟨#[]⟩:ByteArray)⟩:PodStatus)⟩:Pod),(⟨(⟨(⟨#[80,111,100]⟩:ByteArray),(⟨#[110,115]⟩:ByteArray),((⟨#[99]⟩:ByteArray)),0,0,0,0,false,0,[],[],[],[]⟩:Meta),(⟨(⟨#[]⟩:ByteArray),0,0,0,[],[],[],[],[],[]⟩:PodSpec),(⟨1,true,0,0,0,[],0,(⟨#[]⟩:ByteArray),(⟨#[]⟩:ByteArray)⟩:PodStatus)⟩:Pod)])) 3 100).bind fun t5=>(((F11 ((⟨(⟨(⟨#[]⟩:ByteArray),(⟨#[]⟩:ByteArray),(⟨#[]⟩:ByteArray),0,0,0,0,false,0,[],[],[],[]⟩:Meta),[],[],[(⟨true,25⟩:Amount)],0,0,0,0,0,[]⟩:Budget)) ([]) 10 0).bind fun t7=>some ((t7.1,t7.2.1,t7.2.2.1,t7.2.2.2.1,t7.2.2.2.2.1,t7.2.2.2.2.2.1,t7.2.2.2.2.2.2.1,t7.2.2.2.2.2.2.2.1,t7.2.2.2.2.2.2.2.2.1,t7.2.2.2.2.2.2.2.2.2.1,t7.2.2.2.2.2.2.2.2.2.2))).bind fun o6=>(((F14 ([(⟨(⟨((⟨#[]⟩:ByteArray)),((⟨#[110,115]⟩:ByteArray)),((⟨#[]⟩:ByteArray)),(0:Int),(0:Int),(0:Int),(0:Int),false,(0:Int),t5.1,t5.2.1,t5.2.2.1,t5.2.2.2.1⟩:Meta),t5.2.2.2.2.1,t5.2.2.2.2.2.1,t5.2.2.2.2.2.2.1,(0:Int),t5.2.2.2.2.2.2.2.1,t5.2.2.2.2.2.2.2.2.1,(if(1000000000000000:Int)<(if(3:Int)<0 then 0 else(3:Int))then(1000000000000000:Int)else(if(3:Int)<0 then 0 else(3:Int))),t5.2.2.2.2.2.2.2.2.2.1,t5.2.2.2.2.2.2.2.2.2.2⟩:Budget)]) ((lit [(⟨(⟨(⟨#[80,111,100]⟩:ByteArray),(⟨#[110,115]⟩:ByteArray),((⟨#[97]⟩:ByteArray)),0,0,0,0,false,0,[],[],[],[]⟩:Meta),(⟨(⟨#[]⟩:ByteArray),0,0,0,[],[],[],[],[],[]⟩:PodSpec),(⟨1,true,0,0,0,[],0,(⟨#[]⟩:ByteArray),(⟨#[]⟩:ByteArray)⟩:PodStatus)⟩:Pod),(⟨(⟨(⟨#[80,111,100]⟩:ByteArray),(⟨#[110,115]⟩:ByteArray),((⟨#[98]⟩:ByteArray)),0,0,0,0,false,0,[],[],[],[]⟩:Meta),(⟨(⟨#[]⟩:ByteArray),0,0,0,[],[],[],[],[],[]⟩:PodSpec),(⟨1,true,0,0,0,[],0,(⟨#[]⟩:ByteArray),(⟨#[]⟩:ByteArray)⟩:PodStatus)⟩:Pod),(⟨(⟨(⟨#[80,111,100]⟩:ByteArray),(⟨#[110,115]⟩:ByteArray),((⟨#[99]⟩:ByteArray)),0,0,0,0,false,0,[],[],[],[]⟩:Meta),(⟨(⟨#[]⟩:ByteArray),0,0,0,[],[],[],[],[],[]⟩:PodSpec),(⟨1,true,0,0,0,[],0,(⟨#[]⟩:ByteArray),(⟨#[]⟩:ByteArray)⟩:PodStatus)⟩:Pod)])) ((⟨#[80,111,100,47,110,115,47,97]⟩:ByteArray)) 100).bind fun t9=>some ((t9.1,t9.2))).bind fun o8=>(F14 o8.1 ((lit [(⟨(⟨(⟨#[80,111,100]⟩:ByteArray),(⟨#[110,115]⟩:ByteArray),((⟨#[97]⟩:ByteArray)),0,0,0,0,false,0,[],[],[],[]⟩:Meta),(⟨(⟨#[]⟩:ByteArray),0,0,0,[],[],[],[],[],[]⟩:PodSpec),(⟨1,true,0,0,0,[],0,(⟨#[]⟩:ByteArray),(⟨#[]⟩:ByteArray)⟩:PodStatus)⟩:Pod),(⟨(⟨(⟨#[80,111,100]⟩:ByteArray),(⟨#[110,115]⟩:ByteArray),((⟨#[98]⟩:ByteArray)),0,0,0,0,false,0,[],[],[],[]⟩:Meta),(⟨(⟨#[]⟩:ByteArray),0,0,0,[],[],[],[],[],[]⟩:PodSpec),(⟨1,true,0,0,0,[],0,(⟨#[]⟩:ByteArray),(⟨#[]⟩:ByteArray)⟩:PodStatus)⟩:Pod),(⟨(⟨(⟨#[80,111,100]⟩:ByteArray),(⟨#[110,115]⟩:ByteArray),((⟨#[99]⟩:ByteArray)),0,0,0,0,false,0,[],[],[],[]⟩:Meta),(⟨(⟨#[]⟩:ByteArray),0,0,0,[],[],[],[],[],[]⟩:PodSpec),(⟨1,true,0,0,0,[],0,(⟨#[]⟩:ByteArray),(⟨#[]⟩:ByteArray)⟩:PodStatus)⟩:Pod)])) ((⟨#[80,111,100,47,110,115,47,98]⟩:ByteArray)) 100).bind fun t10=>(F14 o8.1 ((lit [(⟨(⟨(⟨#[80,111,100]⟩:ByteArray),(⟨#[110,115]⟩:ByteArray),((⟨#[97]⟩:ByteArray)),0,0,0,0,false,0,[],[],[],[]⟩:Meta),(⟨(⟨#[]⟩:ByteArray),0,0,0,[],[],[],[],[],[]⟩:PodSpec),(⟨1,true,0,0,0,[],0,(⟨#[]⟩:ByteArray),(⟨#[]⟩:ByteArray)⟩:PodStatus)⟩:Pod),(⟨(⟨(⟨#[80,111,100]⟩:ByteArray),(⟨#[110,115]⟩:ByteArray),((⟨#[98]⟩:ByteArray)),0,0,0,0,false,0,[],[],[],[]⟩:Meta),(⟨(⟨#[]⟩:ByteArray),0,0,0,[],[],[],[],[],[]⟩:PodSpec),(⟨1,true,0,0,0,[],0,(⟨#[]⟩:ByteArray),(⟨#[]⟩:ByteArray)⟩:PodStatus)⟩:Pod),(⟨(⟨(⟨#[80,111,100]⟩:ByteArray),(⟨#[110,115]⟩:ByteArray),((⟨#[99]⟩:ByteArray)),0,0,0,0,false,0,[],[],[],[]⟩:Meta),(⟨(⟨#[]⟩:ByteArray),0,0,0,[],[],[],[],[],[]⟩:PodSpec),(⟨1,true,0,0,0,[],0,(⟨#[]⟩:ByteArray),(⟨#[]⟩:ByteArray)⟩:PodStatus)⟩:Pod)])) ((⟨#[80,111,100,47,110,115,47,120]⟩:ByteArray)) 100).bind fun t11=>(((if t5.2.2.2.2.2.2.2.1=3 then(if t5.2.2.2.2.2.2.2.2.2.1=1 then(if o6.2.2.2.2.2.2.2.2.1=7 then(if o8.2=0 then(if(o8.1.length:Int)=1 then(rdI o8.1 0).bind fun y18=>(if y18.Allowed=0 then(if(y18.Disrupted.length:Int)=1 then(if t10.2=16 then(if t11.2=7 then(rdI ((lit [(⟨(⟨(⟨#[80,111,100]⟩:ByteArray),(⟨#[110,115]⟩:ByteArray),((⟨#[97]⟩:ByteArray)),0,0,0,0,false,0,[],[],[],[]⟩:Meta),(⟨(⟨#[]⟩:ByteArray),0,0,0,[],[],[],[],[],[]⟩:PodSpec),(⟨1,true,0,0,0,[],0,(⟨#[]⟩:ByteArray),(⟨#[]⟩:ByteArray)⟩:PodStatus)⟩:Pod),(⟨(⟨(⟨#[80,111,100]⟩:ByteArray),(⟨#[110,115]⟩:ByteArray),((⟨#[98]⟩:ByteArray)),0,0,0,0,false,0,[],[],[],[]⟩:Meta),(⟨(⟨#[]⟩:ByteArray),0,0,0,[],[],[],[],[],[]⟩:PodSpec),(⟨1,true,0,0,0,[],0,(⟨#[]⟩:ByteArray),(⟨#[]⟩:ByteArray)⟩:PodStatus)⟩:Pod),(⟨(⟨(⟨#[80,111,100]⟩:ByteArray),(⟨#[110,115]⟩:ByteArray),((⟨#[99]⟩:ByteArray)),0,0,0,0,false,0,[],[],[],[]⟩:Meta),(⟨(⟨#[]⟩:ByteArray),0,0,0,[],[],[],[],[],[]⟩:PodSpec),(⟨1,true,0,0,0,[],0,(⟨#[]⟩:ByteArray),(⟨#[]⟩:ByteArray)⟩:PodStatus)⟩:Pod)])) 0).bind fun y23=>(F16 ([(⟨(⟨((⟨#[]⟩:ByteArray)),((⟨#[110,115]⟩:ByteArray)),((⟨#[]⟩:ByteArray)),(0:Int),(0:Int),(0:Int),(0:Int),false,(0:Int),t5.1,t5.2.1,t5.2.2.1,t5.2.2.2.1⟩:Meta),t5.2.2.2.2.1,t5.2.2.2.2.2.1,t5.2.2.2.2.2.2.1,(0:Int),t5.2.2.2.2.2.2.2.1,t5.2.2.2.2.2.2.2.2.1,(if(1000000000000000:Int)<(if(3:Int)<0 then 0 else(3:Int))then(1000000000000000:Int)else(if(3:Int)<0 then 0 else(3:Int))),t5.2.2.2.2.2.2.2.2.2.1,t5.2.2.2.2.2.2.2.2.2.2⟩:Budget)]) ([]) y23).bind fun t24=>some t24 else some false)else some false)else some false)else some false)else some false)else some false)else some false)else some false)else some false)).bind fun o12=>some o12))))
def a9:AFn:=⟨96,[(.tmp 0)],
 (.seq (.reg [Qf 0 false])
 (.seq (.sem (.reg [sq 10 (.call 23 [(kS ⟨#[97]⟩)]),
sq 11 (.call 23 [(kS ⟨#[98]⟩)]),
sq 12 (.call 23 [(kS ⟨#[99]⟩)]),
sq 13 (.bslice 32 [(.t 10),(.t 11),(.t 12)]),
Qa 1 13]))
 (.seq (.reg [sq 14 (.build [dS ⟨#[]⟩,dS ⟨#[]⟩,dS ⟨#[]⟩,dI 0,dI 0,dI 0,dI 0,dB false,dI 0,dN,dN,dN,dN] [(1,1,(kS ⟨#[110,115]⟩))]),
sq 15 (.build [dB false,dI 0] [(1,1,(kI 2))]),
sq 16 (.bslice 2 [(.t 15)]),
sq 17 (.build [dS ⟨#[]⟩,dS ⟨#[]⟩,dS ⟨#[]⟩,dI 0,dI 0,dI 0,dI 0,dB false,dI 0,dN,dN,dN,dN,dN,dN,dN,dI 0,dI 0,dI 0,dI 0,dI 0,dN] [(0,13,(.t 14)),(14,1,(.t 16))]),
Qa 18 1,
sq 19 (.call 11 [(.t 17),(.t 18),(kI 3),(kI 100)]),
sq 2 (.zbox [dS ⟨#[]⟩,dS ⟨#[]⟩,dS ⟨#[]⟩,dI 0,dI 0,dI 0,dI 0,dB false,dI 0,dN,dN,dN,dN,dN,dN,dN,dI 0,dI 0,dI 0,dI 0,dI 0,dN]),
su (.store 22 (.t 2) (.t 19))])
 (.seq (.sem (.reg [sq 20 (.build [dB false,dI 0] [(0,1,(kB true)),(1,1,(kI 25))]),
sq 21 (.bslice 2 [(.t 20)]),
sq 22 (.build [dS ⟨#[]⟩,dS ⟨#[]⟩,dS ⟨#[]⟩,dI 0,dI 0,dI 0,dI 0,dB false,dI 0,dN,dN,dN,dN,dN,dN,dN,dI 0,dI 0,dI 0,dI 0,dI 0,dN] [(15,1,(.t 21))]),
sq 23 (.call 11 [(.t 22),kN,(kI 10),(kI 0)]),
sq 3 (.zbox [dS ⟨#[]⟩,dS ⟨#[]⟩,dS ⟨#[]⟩,dI 0,dI 0,dI 0,dI 0,dB false,dI 0,dN,dN,dN,dN,dN,dN,dN,dI 0,dI 0,dI 0,dI 0,dI 0,dN]),
su (.store 22 (.t 3) (.t 23))]))
 (.seq (.sem (.reg [Qc 25 22 2,
sq 26 (.bslice 22 [(.t 25)]),
Qa 27 1,
sq 28 (.call 14 [(.t 26),(.t 27),(kS ⟨#[80,111,100,47,110,115,47,97]⟩),(kI 100)]),
Qa 24 28,
Qo 29 24 0,
Qo 30 24 1,
Qa 4 29,
Qa 5 30]))
 (.seq (.reg [Qa 32 4,
Qa 33 1,
sq 34 (.call 14 [(.t 32),(.t 33),(kS ⟨#[80,111,100,47,110,115,47,98]⟩),(kI 100)]),
Qa 31 34,
Qo 35 31 0,
Qo 36 31 1,
Qa 6 35,
Qa 7 36])
 (.seq (.reg [Qa 38 4,
Qa 39 1,
sq 40 (.call 14 [(.t 38),(.t 39),(kS ⟨#[80,111,100,47,110,115,47,120]⟩),(kI 100)]),
Qa 37 40,
Qo 41 37 0,
Qo 42 37 1,
Qa 8 41,
Qa 9 42])
 (.seq (.sem (.regd [Qb 43 17 2,
sd 44 (.load none (.t 43)) [0],
sd 45 (.bin .eql (.t 44) (kI 3)) [0,1],
sd 46 (.mv (.t 45)) [0,1,2],
⟨(some 47),(some (46,true)),.fieldA 20 (.t 2),[0,1,2,3],(.new [])⟩,
⟨(some 48),(some (46,true)),.load none (.t 47),[0,1,2,3,4],(.new [])⟩,
⟨(some 49),(some (46,true)),.bin .eql (.t 48) (kI 1),[0,1,2,3,4,5],(.new [])⟩,
zl 50 (.pick (.t 46) (.t 49) (kB false)) [0,1,2,3,4,5,6] [],
sd 51 (.mv (.t 50)) [0,1,2,3,4,5,6,7],
⟨(some 52),(some (51,true)),.fieldA 18 (.t 3),[0,1,2,3,4,5,6,7,8],(.new [])⟩,
⟨(some 53),(some (51,true)),.load none (.t 52),[0,1,2,3,4,5,6,7,8,9],(.new [])⟩,
⟨(some 54),(some (51,true)),.bin .eql (.t 53) (kI 7),[0,1,2,3,4,5,6,7,8,9,10],(.new [])⟩,
zl 55 (.pick (.t 51) (.t 54) (kB false)) [0,1,2,3,4,5,6,7,8,9,10,11] [],
sd 56 (.mv (.t 55)) [0,1,2,3,4,5,6,7,8,9,10,11,12],
⟨(some 57),(some (56,true)),.mv (.t 5),[0,1,2,3,4,5,6,7,8,9,10,11,12,13],(.new [])⟩,
⟨(some 58),(some (56,true)),.bin .eql (.t 57) (kI 0),[0,1,2,3,4,5,6,7,8,9,10,11,12,13,14],(.new [])⟩,
zl 59 (.pick (.t 56) (.t 58) (kB false)) [0,1,2,3,4,5,6,7,8,9,10,11,12,13,14,15] [],
sd 60 (.mv (.t 59)) [0,1,2,3,4,5,6,7,8,9,10,11,12,13,14,15,16],
⟨(some 61),(some (60,true)),.mv (.t 4),[0,1,2,3,4,5,6,7,8,9,10,11,12,13,14,15,16,17],(.new [])⟩,
⟨(some 62),(some (60,true)),.len (.t 61),[0,1,2,3,4,5,6,7,8,9,10,11,12,13,14,15,16,17,18],(.new [])⟩,
⟨(some 63),(some (60,true)),.bin .eql (.t 62) (kI 1),[0,1,2,3,4,5,6,7,8,9,10,11,12,13,14,15,16,17,18,19],(.new [])⟩,
zl 64 (.pick (.t 60) (.t 63) (kB false)) [0,1,2,3,4,5,6,7,8,9,10,11,12,13,14,15,16,17,18,19,20] [],
sd 65 (.mv (.t 64)) [0,1,2,3,4,5,6,7,8,9,10,11,12,13,14,15,16,17,18,19,20,21],
⟨(some 66),(some (65,true)),.mv (.t 4),[0,1,2,3,4,5,6,7,8,9,10,11,12,13,14,15,16,17,18,19,20,21,22],(.new [])⟩,
⟨(some 67),(some (65,true)),.indexA 22 (.t 66) (kI 0),[0,1,2,3,4,5,6,7,8,9,10,11,12,13,14,15,16,17,18,19,20,21,22,23],(.new [])⟩,
⟨(some 68),(some (65,true)),.fieldA 20 (.t 67),[0,1,2,3,4,5,6,7,8,9,10,11,12,13,14,15,16,17,18,19,20,21,22,23,24],(.new [])⟩,
⟨(some 69),(some (65,true)),.load none (.t 68),[0,1,2,3,4,5,6,7,8,9,10,11,12,13,14,15,16,17,18,19,20,21,22,23,24,25],(.new [])⟩,
⟨(some 70),(some (65,true)),.bin .eql (.t 69) (kI 0),[0,1,2,3,4,5,6,7,8,9,10,11,12,13,14,15,16,17,18,19,20,21,22,23,24,25,26],(.new [])⟩,
zl 71 (.pick (.t 65) (.t 70) (kB false)) [0,1,2,3,4,5,6,7,8,9,10,11,12,13,14,15,16,17,18,19,20,21,22,23,24,25,26,27] [],
sd 72 (.mv (.t 71)) [0,1,2,3,4,5,6,7,8,9,10,11,12,13,14,15,16,17,18,19,20,21,22,23,24,25,26,27,28],
⟨(some 73),(some (72,true)),.mv (.t 4),[0,1,2,3,4,5,6,7,8,9,10,11,12,13,14,15,16,17,18,19,20,21,22,23,24,25,26,27,28,29],(.new [])⟩,
⟨(some 74),(some (72,true)),.indexA 22 (.t 73) (kI 0),[0,1,2,3,4,5,6,7,8,9,10,11,12,13,14,15,16,17,18,19,20,21,22,23,24,25,26,27,28,29,30],(.new [])⟩,
⟨(some 75),(some (72,true)),.fieldA 21 (.t 74),[0,1,2,3,4,5,6,7,8,9,10,11,12,13,14,15,16,17,18,19,20,21,22,23,24,25,26,27,28,29,30,31],(.new [])⟩,
⟨(some 76),(some (72,true)),.load none (.t 75),[0,1,2,3,4,5,6,7,8,9,10,11,12,13,14,15,16,17,18,19,20,21,22,23,24,25,26,27,28,29,30,31,32],(.new [])⟩,
⟨(some 77),(some (72,true)),.len (.t 76),[0,1,2,3,4,5,6,7,8,9,10,11,12,13,14,15,16,17,18,19,20,21,22,23,24,25,26,27,28,29,30,31,32,33],(.new [])⟩,
⟨(some 78),(some (72,true)),.bin .eql (.t 77) (kI 1),[0,1,2,3,4,5,6,7,8,9,10,11,12,13,14,15,16,17,18,19,20,21,22,23,24,25,26,27,28,29,30,31,32,33,34],(.new [])⟩,
zl 79 (.pick (.t 72) (.t 78) (kB false)) [0,1,2,3,4,5,6,7,8,9,10,11,12,13,14,15,16,17,18,19,20,21,22,23,24,25,26,27,28,29,30,31,32,33,34,35] [],
sd 80 (.mv (.t 79)) [0,1,2,3,4,5,6,7,8,9,10,11,12,13,14,15,16,17,18,19,20,21,22,23,24,25,26,27,28,29,30,31,32,33,34,35,36],
⟨(some 81),(some (80,true)),.mv (.t 7),[0,1,2,3,4,5,6,7,8,9,10,11,12,13,14,15,16,17,18,19,20,21,22,23,24,25,26,27,28,29,30,31,32,33,34,35,36,37],(.new [])⟩,
⟨(some 82),(some (80,true)),.bin .eql (.t 81) (kI 16),[0,1,2,3,4,5,6,7,8,9,10,11,12,13,14,15,16,17,18,19,20,21,22,23,24,25,26,27,28,29,30,31,32,33,34,35,36,37,38],(.new [])⟩,
zl 83 (.pick (.t 80) (.t 82) (kB false)) [0,1,2,3,4,5,6,7,8,9,10,11,12,13,14,15,16,17,18,19,20,21,22,23,24,25,26,27,28,29,30,31,32,33,34,35,36,37,38,39] [],
sd 84 (.mv (.t 83)) [0,1,2,3,4,5,6,7,8,9,10,11,12,13,14,15,16,17,18,19,20,21,22,23,24,25,26,27,28,29,30,31,32,33,34,35,36,37,38,39,40],
⟨(some 85),(some (84,true)),.mv (.t 9),[0,1,2,3,4,5,6,7,8,9,10,11,12,13,14,15,16,17,18,19,20,21,22,23,24,25,26,27,28,29,30,31,32,33,34,35,36,37,38,39,40,41],(.new [])⟩,
⟨(some 86),(some (84,true)),.bin .eql (.t 85) (kI 7),[0,1,2,3,4,5,6,7,8,9,10,11,12,13,14,15,16,17,18,19,20,21,22,23,24,25,26,27,28,29,30,31,32,33,34,35,36,37,38,39,40,41,42],(.new [])⟩,
zl 87 (.pick (.t 84) (.t 86) (kB false)) [0,1,2,3,4,5,6,7,8,9,10,11,12,13,14,15,16,17,18,19,20,21,22,23,24,25,26,27,28,29,30,31,32,33,34,35,36,37,38,39,40,41,42,43] [],
sd 88 (.mv (.t 87)) [0,1,2,3,4,5,6,7,8,9,10,11,12,13,14,15,16,17,18,19,20,21,22,23,24,25,26,27,28,29,30,31,32,33,34,35,36,37,38,39,40,41,42,43,44],
⟨(some 89),(some (88,true)),.load (some 22) (.t 2),[0,1,2,3,4,5,6,7,8,9,10,11,12,13,14,15,16,17,18,19,20,21,22,23,24,25,26,27,28,29,30,31,32,33,34,35,36,37,38,39,40,41,42,43,44,45],(.new [])⟩,
⟨(some 90),(some (88,true)),.bslice 22 [(.t 89)],[0,1,2,3,4,5,6,7,8,9,10,11,12,13,14,15,16,17,18,19,20,21,22,23,24,25,26,27,28,29,30,31,32,33,34,35,36,37,38,39,40,41,42,43,44,45,46],(.new [46])⟩,
⟨(some 91),(some (88,true)),.mv (.t 1),[0,1,2,3,4,5,6,7,8,9,10,11,12,13,14,15,16,17,18,19,20,21,22,23,24,25,26,27,28,29,30,31,32,33,34,35,36,37,38,39,40,41,42,43,44,45],(.new [])⟩,
⟨(some 92),(some (88,true)),.indexA 32 (.t 91) (kI 0),[0,1,2,3,4,5,6,7,8,9,10,11,12,13,14,15,16,17,18,19,20,21,22,23,24,25,26,27,28,29,30,31,32,33,34,35,36,37,38,39,40,41,42,43,44,45,48],(.new [])⟩,
⟨(some 93),(some (88,true)),.load (some 32) (.t 92),[0,1,2,3,4,5,6,7,8,9,10,11,12,13,14,15,16,17,18,19,20,21,22,23,24,25,26,27,28,29,30,31,32,33,34,35,36,37,38,39,40,41,42,43,44,45,48,49],(.new [])⟩,
⟨(some 94),(some (88,true)),.call 16 [(.t 90),kN,(.t 93)],[0,1,2,3,4,5,6,7,8,9,10,11,12,13,14,15,16,17,18,19,20,21,22,23,24,25,26,27,28,29,30,31,32,33,34,35,36,37,38,39,40,41,42,43,44,45,46,47,48,49,50],(.lone [])⟩,
zl 95 (.pick (.t 88) (.t 94) (kB false)) [0,1,2,3,4,5,6,7,8,9,10,11,12,13,14,15,16,17,18,19,20,21,22,23,24,25,26,27,28,29,30,31,32,33,34,35,36,37,38,39,40,41,42,43,44,45,46,47,48,49,50,51] [],
sd 0 (.mv (.t 95)) [0,1,2,3,4,5,6,7,8,9,10,11,12,13,14,15,16,17,18,19,20,21,22,23,24,25,26,27,28,29,30,31,32,33,34,35,36,37,38,39,40,41,42,43,44,45,46,47,48,49,50,51,52]]))
 .ret))))))))⟩
theorem F9_ok{r}(h:F9=some r):CallD Try.prog 9 [] [] (tupV [.c (dB r)]) []:=by
 rw[F9]at h
 refine zc a9 (by kernel_rfl) rfl (ww ?_)
 obtain⟨o1,ho,h⟩:=bi h
 refine cutS (fun s=>s=⟨[(1,oc (dM (((lit [(⟨(⟨(⟨#[80,111,100]⟩:ByteArray),(⟨#[110,115]⟩:ByteArray),((⟨#[97]⟩:ByteArray)),0,0,0,0,false,0,[],[],[],[]⟩:Meta),(⟨(⟨#[]⟩:ByteArray),0,0,0,[],[],[],[],[],[]⟩:PodSpec),(⟨1,true,0,0,0,[],0,(⟨#[]⟩:ByteArray),(⟨#[]⟩:ByteArray)⟩:PodStatus)⟩:Pod),(⟨(⟨(⟨#[80,111,100]⟩:ByteArray),(⟨#[110,115]⟩:ByteArray),((⟨#[98]⟩:ByteArray)),0,0,0,0,false,0,[],[],[],[]⟩:Meta),(⟨(⟨#[]⟩:ByteArray),0,0,0,[],[],[],[],[],[]⟩:PodSpec),(⟨1,true,0,0,0,[],0,(⟨#[]⟩:ByteArray),(⟨#[]⟩:ByteArray)⟩:PodStatus)⟩:Pod),(⟨(⟨(⟨#[80,111,100]⟩:ByteArray),(⟨#[110,115]⟩:ByteArray),((⟨#[99]⟩:ByteArray)),0,0,0,0,false,0,[],[],[],[]⟩:Meta),(⟨(⟨#[]⟩:ByteArray),0,0,0,[],[],[],[],[],[]⟩:PodSpec),(⟨1,true,0,0,0,[],0,(⟨#[]⟩:ByteArray),(⟨#[]⟩:ByteArray)⟩:PodStatus)⟩:Pod)])).map ePod)))],[]⟩) ?_ ?_
 ·have h:=ho
  clear ho
  refine ww ?_
  obtain⟨t2,ht2,h⟩:=bi h
  refine cN [] (F23_ok ht2) trivial (ww ?_)
  obtain⟨t3,ht3,h⟩:=bi h
  refine cN [] (F23_ok ht3) trivial (ww ?_)
  obtain⟨t4,ht4,h⟩:=bi h
  refine cN [] (F23_ok ht4) trivial (ww ?_)
  refine t_bslice (enc:=ePod) (ys:=(lit [(⟨(⟨(⟨#[80,111,100]⟩:ByteArray),(⟨#[110,115]⟩:ByteArray),((⟨#[97]⟩:ByteArray)),0,0,0,0,false,0,[],[],[],[]⟩:Meta),(⟨(⟨#[]⟩:ByteArray),0,0,0,[],[],[],[],[],[]⟩:PodSpec),(⟨1,true,0,0,0,[],0,(⟨#[]⟩:ByteArray),(⟨#[]⟩:ByteArray)⟩:PodStatus)⟩:Pod),(⟨(⟨(⟨#[80,111,100]⟩:ByteArray),(⟨#[110,115]⟩:ByteArray),((⟨#[98]⟩:ByteArray)),0,0,0,0,false,0,[],[],[],[]⟩:Meta),(⟨(⟨#[]⟩:ByteArray),0,0,0,[],[],[],[],[],[]⟩:PodSpec),(⟨1,true,0,0,0,[],0,(⟨#[]⟩:ByteArray),(⟨#[]⟩:ByteArray)⟩:PodStatus)⟩:Pod),(⟨(⟨(⟨#[80,111,100]⟩:ByteArray),(⟨#[110,115]⟩:ByteArray),((⟨#[99]⟩:ByteArray)),0,0,0,0,false,0,[],[],[],[]⟩:Meta),(⟨(⟨#[]⟩:ByteArray),0,0,0,[],[],[],[],[],[]⟩:PodSpec),(⟨1,true,0,0,0,[],0,(⟨#[]⟩:ByteArray),(⟨#[]⟩:ByteArray)⟩:PodStatus)⟩:Pod)])) rfl rfl (by simp[A1.cells]) (by first|rfl|(simp only[List.drop_zero,take_mapL];rfl)|(simp only[lit,List.map_cons,List.map_nil,List.drop_zero,take_mapL,EE.down];done)|(simp only[lit,List.map_cons,List.map_nil,List.drop_zero,take_mapL,EE.down];rfl)) (ww ?_)
  cases h
  exact eM [] rfl
 rintro _ rfl
 clear ho
 refine ww ?_
 refine t_bslice (enc:=eAmount) (ys:=[(⟨false,2⟩:Amount)]) rfl rfl (by simp[A1.cells]) (by first|rfl|(simp only[List.drop_zero,take_mapL];rfl)|(simp only[lit,List.map_cons,List.map_nil,List.drop_zero,take_mapL,EE.down];done)|(simp only[lit,List.map_cons,List.map_nil,List.drop_zero,take_mapL,EE.down];rfl)) (ww ?_)
 obtain⟨t5,ht5,h⟩:=bi h
 refine callX_gen (as1:=[.agg [dS ((⟨#[]⟩:ByteArray)),dS ((⟨#[110,115]⟩:ByteArray)),dS ((⟨#[]⟩:ByteArray)),dI 0,dI 0,dI 0,dI 0,dB false,dI 0,dM [],dM [],dM [],dM [],dM [],dM (([(⟨false,2⟩:Amount)]).map eAmount),dM [],dI 0,dI 0,dI 0,dI 0,dI 0,dM []],.c (dM (((lit [(⟨(⟨(⟨#[80,111,100]⟩:ByteArray),(⟨#[110,115]⟩:ByteArray),((⟨#[97]⟩:ByteArray)),0,0,0,0,false,0,[],[],[],[]⟩:Meta),(⟨(⟨#[]⟩:ByteArray),0,0,0,[],[],[],[],[],[]⟩:PodSpec),(⟨1,true,0,0,0,[],0,(⟨#[]⟩:ByteArray),(⟨#[]⟩:ByteArray)⟩:PodStatus)⟩:Pod),(⟨(⟨(⟨#[80,111,100]⟩:ByteArray),(⟨#[110,115]⟩:ByteArray),((⟨#[98]⟩:ByteArray)),0,0,0,0,false,0,[],[],[],[]⟩:Meta),(⟨(⟨#[]⟩:ByteArray),0,0,0,[],[],[],[],[],[]⟩:PodSpec),(⟨1,true,0,0,0,[],0,(⟨#[]⟩:ByteArray),(⟨#[]⟩:ByteArray)⟩:PodStatus)⟩:Pod),(⟨(⟨(⟨#[80,111,100]⟩:ByteArray),(⟨#[110,115]⟩:ByteArray),((⟨#[99]⟩:ByteArray)),0,0,0,0,false,0,[],[],[],[]⟩:Meta),(⟨(⟨#[]⟩:ByteArray),0,0,0,[],[],[],[],[],[]⟩:PodSpec),(⟨1,true,0,0,0,[],0,(⟨#[]⟩:ByteArray),(⟨#[]⟩:ByteArray)⟩:PodStatus)⟩:Pod)])).map ePod)),.c (dI 3),.c (dI 100)]) [(0,.arr 1 2 [])] [none] [] (F11_ok ht5) ⟨?_,rfl,?_⟩ ?_ ?_ ?_ ?_ ?_ ?_ ?_ ?_
 ·simp only[ZZ.down,Nat.reduceEqDiff,reduceCtorEq,Nat.reduceAdd,Nat.reduceLeDiff,Nat.reduceLT,Nat.reduceBNe,EE.down]
 ·simp only[ZZ.down,Nat.reduceEqDiff,reduceCtorEq,Nat.reduceAdd,Nat.reduceLeDiff,Nat.reduceLT,Nat.reduceBNe,EE.down]
 ·simp only[ZZ.down,Nat.reduceEqDiff,reduceCtorEq,Nat.reduceAdd,Nat.reduceLeDiff,Nat.reduceLT,Nat.reduceBNe,EE.down]
 ·rfl
 ·rfl
 ·simp[liveAll,A1.live,C.live]
 ·rfl
 ·decide
 ·exact trivial
 refine ww ?_
 obtain⟨o6,ho,h⟩:=bi h
 refine cutS (fun s=>s=⟨[(1,oc (dM (((lit [(⟨(⟨(⟨#[80,111,100]⟩:ByteArray),(⟨#[110,115]⟩:ByteArray),((⟨#[97]⟩:ByteArray)),0,0,0,0,false,0,[],[],[],[]⟩:Meta),(⟨(⟨#[]⟩:ByteArray),0,0,0,[],[],[],[],[],[]⟩:PodSpec),(⟨1,true,0,0,0,[],0,(⟨#[]⟩:ByteArray),(⟨#[]⟩:ByteArray)⟩:PodStatus)⟩:Pod),(⟨(⟨(⟨#[80,111,100]⟩:ByteArray),(⟨#[110,115]⟩:ByteArray),((⟨#[98]⟩:ByteArray)),0,0,0,0,false,0,[],[],[],[]⟩:Meta),(⟨(⟨#[]⟩:ByteArray),0,0,0,[],[],[],[],[],[]⟩:PodSpec),(⟨1,true,0,0,0,[],0,(⟨#[]⟩:ByteArray),(⟨#[]⟩:ByteArray)⟩:PodStatus)⟩:Pod),(⟨(⟨(⟨#[80,111,100]⟩:ByteArray),(⟨#[110,115]⟩:ByteArray),((⟨#[99]⟩:ByteArray)),0,0,0,0,false,0,[],[],[],[]⟩:Meta),(⟨(⟨#[]⟩:ByteArray),0,0,0,[],[],[],[],[],[]⟩:PodSpec),(⟨1,true,0,0,0,[],0,(⟨#[]⟩:ByteArray),(⟨#[]⟩:ByteArray)⟩:PodStatus)⟩:Pod)])).map ePod))),(2,Pz 0),(3,Pz 1)],[xb [dS (((⟨#[]⟩:ByteArray))),dS (((⟨#[110,115]⟩:ByteArray))),dS (((⟨#[]⟩:ByteArray))),dI ((0:Int)),dI ((0:Int)),dI ((0:Int)),dI ((0:Int)),dB false,dI ((0:Int)),dM (t5.1.map eLabel),dM (t5.2.1.map eOwner),dM (t5.2.2.1.map eS),dM (t5.2.2.2.1.map eManager),dM (t5.2.2.2.2.1.map eRequirement),dM (t5.2.2.2.2.2.1.map eAmount),dM (t5.2.2.2.2.2.2.1.map eAmount),dI ((0:Int)),dI t5.2.2.2.2.2.2.2.1,dI t5.2.2.2.2.2.2.2.2.1,dI ((if(1000000000000000:Int)<(if(3:Int)<0 then 0 else(3:Int))then(1000000000000000:Int)else(if(3:Int)<0 then 0 else(3:Int)))),dI t5.2.2.2.2.2.2.2.2.2.1,dM (t5.2.2.2.2.2.2.2.2.2.2.map eWorkItem)],xb [dS (((⟨#[]⟩:ByteArray))),dS (((⟨#[]⟩:ByteArray))),dS (((⟨#[]⟩:ByteArray))),dI ((0:Int)),dI ((0:Int)),dI ((0:Int)),dI ((0:Int)),dB false,dI ((0:Int)),dM (o6.1.map eLabel),dM (o6.2.1.map eOwner),dM (o6.2.2.1.map eS),dM (o6.2.2.2.1.map eManager),dM (o6.2.2.2.2.1.map eRequirement),dM (o6.2.2.2.2.2.1.map eAmount),dM (o6.2.2.2.2.2.2.1.map eAmount),dI ((0:Int)),dI o6.2.2.2.2.2.2.2.1,dI o6.2.2.2.2.2.2.2.2.1,dI ((if(1000000000000000:Int)<(if(10:Int)<0 then 0 else(10:Int))then(1000000000000000:Int)else(if(10:Int)<0 then 0 else(10:Int)))),dI o6.2.2.2.2.2.2.2.2.2.1,dM (o6.2.2.2.2.2.2.2.2.2.2.map eWorkItem)]]⟩) ?_ ?_
 ·have h:=ho
  clear ho
  refine ww ?_
  refine t_bslice (enc:=eAmount) (ys:=[(⟨true,25⟩:Amount)]) rfl rfl (by simp[A1.cells]) (by first|rfl|(simp only[List.drop_zero,take_mapL];rfl)|(simp only[lit,List.map_cons,List.map_nil,List.drop_zero,take_mapL,EE.down];done)|(simp only[lit,List.map_cons,List.map_nil,List.drop_zero,take_mapL,EE.down];rfl)) (ww ?_)
  obtain⟨t7,ht7,h⟩:=bi h
  refine callX_gen (as1:=[.agg [dS ((⟨#[]⟩:ByteArray)),dS ((⟨#[]⟩:ByteArray)),dS ((⟨#[]⟩:ByteArray)),dI 0,dI 0,dI 0,dI 0,dB false,dI 0,dM [],dM [],dM [],dM [],dM [],dM [],dM (([(⟨true,25⟩:Amount)]).map eAmount),dI 0,dI 0,dI 0,dI 0,dI 0,dM []],.c (dM []),.c (dI 10),.c (dI 0)]) [(10,.arr 1 2 [])] [some 0,some 1,some 2,some 3,some 4,some 5,some 6,some 7,some 8,some 9,none] [] (F11_ok ht7) ⟨?_,rfl,?_⟩ ?_ ?_ ?_ ?_ ?_ ?_ ?_ ?_
  ·simp only[ZZ.down,Nat.reduceEqDiff,reduceCtorEq,Nat.reduceAdd,Nat.reduceLeDiff,Nat.reduceLT,Nat.reduceBNe,EE.down]
  ·simp only[ZZ.down,Nat.reduceEqDiff,reduceCtorEq,Nat.reduceAdd,Nat.reduceLeDiff,Nat.reduceLT,Nat.reduceBNe,EE.down]
  ·simp only[ZZ.down,Nat.reduceEqDiff,reduceCtorEq,Nat.reduceAdd,Nat.reduceLeDiff,Nat.reduceLT,Nat.reduceBNe,EE.down]
  ·rfl
  ·rfl
  ·simp[liveAll,A1.live,C.live]
  ·rfl
  ·decide
  ·exact trivial
  refine ww ?_
  cases h
  exact eM [some 9,some 19] rfl
 rintro _ rfl
 clear ho
 refine ww ?_
 obtain⟨o8,ho,h⟩:=bi h
 refine cutS (fun s=>s=⟨[(1,oc (dM (((lit [(⟨(⟨(⟨#[80,111,100]⟩:ByteArray),(⟨#[110,115]⟩:ByteArray),((⟨#[97]⟩:ByteArray)),0,0,0,0,false,0,[],[],[],[]⟩:Meta),(⟨(⟨#[]⟩:ByteArray),0,0,0,[],[],[],[],[],[]⟩:PodSpec),(⟨1,true,0,0,0,[],0,(⟨#[]⟩:ByteArray),(⟨#[]⟩:ByteArray)⟩:PodStatus)⟩:Pod),(⟨(⟨(⟨#[80,111,100]⟩:ByteArray),(⟨#[110,115]⟩:ByteArray),((⟨#[98]⟩:ByteArray)),0,0,0,0,false,0,[],[],[],[]⟩:Meta),(⟨(⟨#[]⟩:ByteArray),0,0,0,[],[],[],[],[],[]⟩:PodSpec),(⟨1,true,0,0,0,[],0,(⟨#[]⟩:ByteArray),(⟨#[]⟩:ByteArray)⟩:PodStatus)⟩:Pod),(⟨(⟨(⟨#[80,111,100]⟩:ByteArray),(⟨#[110,115]⟩:ByteArray),((⟨#[99]⟩:ByteArray)),0,0,0,0,false,0,[],[],[],[]⟩:Meta),(⟨(⟨#[]⟩:ByteArray),0,0,0,[],[],[],[],[],[]⟩:PodSpec),(⟨1,true,0,0,0,[],0,(⟨#[]⟩:ByteArray),(⟨#[]⟩:ByteArray)⟩:PodStatus)⟩:Pod)])).map ePod))),(2,Pz 0),(3,Pz 1),(4,oc (dM (o8.1.map eBudget))),(5,oc (dI o8.2))],[xb [dS (((⟨#[]⟩:ByteArray))),dS (((⟨#[110,115]⟩:ByteArray))),dS (((⟨#[]⟩:ByteArray))),dI ((0:Int)),dI ((0:Int)),dI ((0:Int)),dI ((0:Int)),dB false,dI ((0:Int)),dM (t5.1.map eLabel),dM (t5.2.1.map eOwner),dM (t5.2.2.1.map eS),dM (t5.2.2.2.1.map eManager),dM (t5.2.2.2.2.1.map eRequirement),dM (t5.2.2.2.2.2.1.map eAmount),dM (t5.2.2.2.2.2.2.1.map eAmount),dI ((0:Int)),dI t5.2.2.2.2.2.2.2.1,dI t5.2.2.2.2.2.2.2.2.1,dI ((if(1000000000000000:Int)<(if(3:Int)<0 then 0 else(3:Int))then(1000000000000000:Int)else(if(3:Int)<0 then 0 else(3:Int)))),dI t5.2.2.2.2.2.2.2.2.2.1,dM (t5.2.2.2.2.2.2.2.2.2.2.map eWorkItem)],xb [dS (((⟨#[]⟩:ByteArray))),dS (((⟨#[]⟩:ByteArray))),dS (((⟨#[]⟩:ByteArray))),dI ((0:Int)),dI ((0:Int)),dI ((0:Int)),dI ((0:Int)),dB false,dI ((0:Int)),dM (o6.1.map eLabel),dM (o6.2.1.map eOwner),dM (o6.2.2.1.map eS),dM (o6.2.2.2.1.map eManager),dM (o6.2.2.2.2.1.map eRequirement),dM (o6.2.2.2.2.2.1.map eAmount),dM (o6.2.2.2.2.2.2.1.map eAmount),dI ((0:Int)),dI o6.2.2.2.2.2.2.2.1,dI o6.2.2.2.2.2.2.2.2.1,dI ((if(1000000000000000:Int)<(if(10:Int)<0 then 0 else(10:Int))then(1000000000000000:Int)else(if(10:Int)<0 then 0 else(10:Int)))),dI o6.2.2.2.2.2.2.2.2.2.1,dM (o6.2.2.2.2.2.2.2.2.2.2.map eWorkItem)]]⟩) ?_ ?_
 ·have h:=ho
  clear ho
  refine ww ?_
  refine t_bslice (enc:=eBudget) (ys:=[(⟨(⟨((⟨#[]⟩:ByteArray)),((⟨#[110,115]⟩:ByteArray)),((⟨#[]⟩:ByteArray)),(0:Int),(0:Int),(0:Int),(0:Int),false,(0:Int),t5.1,t5.2.1,t5.2.2.1,t5.2.2.2.1⟩:Meta),t5.2.2.2.2.1,t5.2.2.2.2.2.1,t5.2.2.2.2.2.2.1,(0:Int),t5.2.2.2.2.2.2.2.1,t5.2.2.2.2.2.2.2.2.1,(if(1000000000000000:Int)<(if(3:Int)<0 then 0 else(3:Int))then(1000000000000000:Int)else(if(3:Int)<0 then 0 else(3:Int))),t5.2.2.2.2.2.2.2.2.2.1,t5.2.2.2.2.2.2.2.2.2.2⟩:Budget)]) rfl rfl (by simp[A1.cells]) (by first|rfl|(simp only[List.drop_zero,take_mapL];rfl)|(simp only[lit,List.map_cons,List.map_nil,List.drop_zero,take_mapL,EE.down];done)|(simp only[lit,List.map_cons,List.map_nil,List.drop_zero,take_mapL,EE.down];rfl)) (ww ?_)
  obtain⟨t9,ht9,h⟩:=bi h
  refine callX_gen (as1:=[.c (dM (([(⟨(⟨((⟨#[]⟩:ByteArray)),((⟨#[110,115]⟩:ByteArray)),((⟨#[]⟩:ByteArray)),(0:Int),(0:Int),(0:Int),(0:Int),false,(0:Int),t5.1,t5.2.1,t5.2.2.1,t5.2.2.2.1⟩:Meta),t5.2.2.2.2.1,t5.2.2.2.2.2.1,t5.2.2.2.2.2.2.1,(0:Int),t5.2.2.2.2.2.2.2.1,t5.2.2.2.2.2.2.2.2.1,(if(1000000000000000:Int)<(if(3:Int)<0 then 0 else(3:Int))then(1000000000000000:Int)else(if(3:Int)<0 then 0 else(3:Int))),t5.2.2.2.2.2.2.2.2.2.1,t5.2.2.2.2.2.2.2.2.2.2⟩:Budget)]).map eBudget)),.c (dM (((lit [(⟨(⟨(⟨#[80,111,100]⟩:ByteArray),(⟨#[110,115]⟩:ByteArray),((⟨#[97]⟩:ByteArray)),0,0,0,0,false,0,[],[],[],[]⟩:Meta),(⟨(⟨#[]⟩:ByteArray),0,0,0,[],[],[],[],[],[]⟩:PodSpec),(⟨1,true,0,0,0,[],0,(⟨#[]⟩:ByteArray),(⟨#[]⟩:ByteArray)⟩:PodStatus)⟩:Pod),(⟨(⟨(⟨#[80,111,100]⟩:ByteArray),(⟨#[110,115]⟩:ByteArray),((⟨#[98]⟩:ByteArray)),0,0,0,0,false,0,[],[],[],[]⟩:Meta),(⟨(⟨#[]⟩:ByteArray),0,0,0,[],[],[],[],[],[]⟩:PodSpec),(⟨1,true,0,0,0,[],0,(⟨#[]⟩:ByteArray),(⟨#[]⟩:ByteArray)⟩:PodStatus)⟩:Pod),(⟨(⟨(⟨#[80,111,100]⟩:ByteArray),(⟨#[110,115]⟩:ByteArray),((⟨#[99]⟩:ByteArray)),0,0,0,0,false,0,[],[],[],[]⟩:Meta),(⟨(⟨#[]⟩:ByteArray),0,0,0,[],[],[],[],[],[]⟩:PodSpec),(⟨1,true,0,0,0,[],0,(⟨#[]⟩:ByteArray),(⟨#[]⟩:ByteArray)⟩:PodStatus)⟩:Pod)])).map ePod)),.c (dS ((⟨#[80,111,100,47,110,115,47,97]⟩:ByteArray))),.c (dI 100)]) [(2,.arr 1 22 [])] [some 0,some 1,none] [] (F14_ok ht9) ⟨?_,rfl,?_⟩ ?_ ?_ ?_ ?_ ?_ ?_ ?_ ?_
  ·simp only[ZZ.down,Nat.reduceEqDiff,reduceCtorEq,Nat.reduceAdd,Nat.reduceLeDiff,Nat.reduceLT,Nat.reduceBNe,EE.down]
  ·simp only[ZZ.down,Nat.reduceEqDiff,reduceCtorEq,Nat.reduceAdd,Nat.reduceLeDiff,Nat.reduceLT,Nat.reduceBNe,EE.down]
  ·simp only[ZZ.down,Nat.reduceEqDiff,reduceCtorEq,Nat.reduceAdd,Nat.reduceLeDiff,Nat.reduceLT,Nat.reduceBNe,EE.down]
  ·rfl
  ·rfl
  ·simp[liveAll,A1.live,C.live]
  ·rfl
  ·decide
  ·exact trivial
  refine ww ?_
  cases h
  exact eM [some 0,some 1] rfl
 rintro _ rfl
 clear ho
 refine ww ?_
 obtain⟨t10,ht10,h⟩:=bi h
 refine cN [] (F14_ok ht10) trivial (ww ?_)
 obtain⟨t11,ht11,h⟩:=bi h
 refine cN [] (F14_ok ht11) trivial (ww ?_)
 obtain⟨o12,ho,h⟩:=bi h
 refine cutS (fun s=>s=⟨[(0,oc (dB o12))],[]⟩) ?_ ?_
 ·have h:=ho
  clear ho
  refine ww ?_
  refine guardDh h (fun g13 h=>ww ?_) (fun g13 h=>ww ?_)
  ·refine guardDh h (fun g14 h=>ww ?_) (fun g14 h=>ww ?_)
   ·refine guardDh h (fun g15 h=>ww ?_) (fun g15 h=>ww ?_)
    ·refine guardDh h (fun g16 h=>ww ?_) (fun g16 h=>ww ?_)
     ·refine guardDh h (fun g17 h=>ww ?_) (fun g17 h=>ww ?_)
      ·obtain⟨y18,hy18,h⟩:=bi h
       refine t_idxF (enc:=eBudget) (xs:=o8.1) rfl rfl hy18 rfl (ww ?_)
       refine guardDh h (fun g19 h=>ww ?_) (fun g19 h=>ww ?_)
       ·refine t_idxF (enc:=eBudget) (xs:=o8.1) rfl rfl hy18 rfl (ww ?_)
        refine guardDh h (fun g20 h=>ww ?_) (fun g20 h=>ww ?_)
        ·refine guardDh h (fun g21 h=>ww ?_) (fun g21 h=>ww ?_)
         ·refine guardDh h (fun g22 h=>ww ?_) (fun g22 h=>ww ?_)
          ·refine t_bslice (enc:=eBudget) (ys:=[(⟨(⟨((⟨#[]⟩:ByteArray)),((⟨#[110,115]⟩:ByteArray)),((⟨#[]⟩:ByteArray)),(0:Int),(0:Int),(0:Int),(0:Int),false,(0:Int),t5.1,t5.2.1,t5.2.2.1,t5.2.2.2.1⟩:Meta),t5.2.2.2.2.1,t5.2.2.2.2.2.1,t5.2.2.2.2.2.2.1,(0:Int),t5.2.2.2.2.2.2.2.1,t5.2.2.2.2.2.2.2.2.1,(if(1000000000000000:Int)<(if(3:Int)<0 then 0 else(3:Int))then(1000000000000000:Int)else(if(3:Int)<0 then 0 else(3:Int))),t5.2.2.2.2.2.2.2.2.2.1,t5.2.2.2.2.2.2.2.2.2.2⟩:Budget)]) rfl rfl (by simp[A1.cells]) (by first|rfl|(simp only[List.drop_zero,take_mapL];rfl)|(simp only[lit,List.map_cons,List.map_nil,List.drop_zero,take_mapL,EE.down];done)|(simp only[lit,List.map_cons,List.map_nil,List.drop_zero,take_mapL,EE.down];rfl)) (ww ?_)
           refine kD_new (by simp[wrs,allW,hset]) (ww ?_)
           obtain⟨y23,hy23,h⟩:=bi h
           refine t_idxF (enc:=ePod) (xs:=((lit [(⟨(⟨(⟨#[80,111,100]⟩:ByteArray),(⟨#[110,115]⟩:ByteArray),((⟨#[97]⟩:ByteArray)),0,0,0,0,false,0,[],[],[],[]⟩:Meta),(⟨(⟨#[]⟩:ByteArray),0,0,0,[],[],[],[],[],[]⟩:PodSpec),(⟨1,true,0,0,0,[],0,(⟨#[]⟩:ByteArray),(⟨#[]⟩:ByteArray)⟩:PodStatus)⟩:Pod),(⟨(⟨(⟨#[80,111,100]⟩:ByteArray),(⟨#[110,115]⟩:ByteArray),((⟨#[98]⟩:ByteArray)),0,0,0,0,false,0,[],[],[],[]⟩:Meta),(⟨(⟨#[]⟩:ByteArray),0,0,0,[],[],[],[],[],[]⟩:PodSpec),(⟨1,true,0,0,0,[],0,(⟨#[]⟩:ByteArray),(⟨#[]⟩:ByteArray)⟩:PodStatus)⟩:Pod),(⟨(⟨(⟨#[80,111,100]⟩:ByteArray),(⟨#[110,115]⟩:ByteArray),((⟨#[99]⟩:ByteArray)),0,0,0,0,false,0,[],[],[],[]⟩:Meta),(⟨(⟨#[]⟩:ByteArray),0,0,0,[],[],[],[],[],[]⟩:PodSpec),(⟨1,true,0,0,0,[],0,(⟨#[]⟩:ByteArray),(⟨#[]⟩:ByteArray)⟩:PodStatus)⟩:Pod)]))) rfl rfl hy23 rfl (ww ?_)
           obtain⟨t24,ht24,h⟩:=bi h
           refine callX_bor (F16_ok ht24) (by simp only[borAs,bors,hp,List.getElem?_cons_zero,List.getElem?_cons_succ,Option.join_some,List.drop_zero,bor_full',true_and,Nat.zero_add,List.length_map,Nat.le_refl,nrm,List.length_cons,List.length_nil,Nat.reduceAdd,Nat.reduceLeDiff,List.take_succ_cons,List.take_zero,List.take_nil,List.map_cons,List.map_nil,List.length_set,EE.down]) rfl ?_
           refine ww ?_
           cases h
           exact eM [] rfl
          cases h
          exact eM [] rfl
         cases h
         exact eM [] rfl
        cases h
        exact eM [] rfl
       cases h
       exact eM [] rfl
      cases h
      exact eM [] rfl
     cases h
     exact eM [] rfl
    cases h
    exact eM [] rfl
   cases h
   exact eM [] rfl
  cases h
  exact eM [] rfl
 rintro _ rfl
 clear ho
 refine ww ?_
 cases h
 exact eF []
def cF5ko:AC:=(.reg [Qa 106 15,
Qa 107 1,
Qa 108 17,
Qa 109 4,
sq 110 (.call 14 [(.t 106),(.t 107),(.t 108),(.t 109)]),
Qa 105 110,
Qo 111 105 0,
Qo 112 105 1,
Qa 18 111,
Qa 19 112])
def F5ko(pods:List Pod)(order:List Int)(now:Int)(fs:List Budget)(go:List D)(st:List Budget)(j:Int)(key:ByteArray):Option ((List Budget)×Int):=(F14 st pods key now).bind fun t1=>some ((t1.1,t1.2))
theorem F5ko_ok{pods order now fs go st j key r}(h:F5ko pods order now fs go st j key=some r):sK Try.prog 169 0 cF5ko [] (sM 169 0 (fun s=>s=⟨[(1,oc (dM (pods.map ePod))),(2,oc (dM (order.map (eK .u8)))),(4,oc (dI now)),(11,oc (dM (fs.map eBudget))),(13,oc (.own 0 0 0 (go.length) none)),(15,oc (dM (st.map eBudget))),(16,oc (dI j)),(17,oc (dS key)),(18,oc (dM (r.1.map eBudget))),(19,oc (dI r.2))],[some (.arr 0 1 (go.map eRaw))]⟩) (xQ 169 0 (fun _ _=>False) (fun _=>False)))
 ⟨[(1,oc (dM (pods.map ePod))),(2,oc (dM (order.map (eK .u8)))),(4,oc (dI now)),(11,oc (dM (fs.map eBudget))),(13,oc (.own 0 0 0 (go.length) none)),(15,oc (dM (st.map eBudget))),(16,oc (dI j)),(17,oc (dS key))],[some (.arr 0 1 (go.map eRaw))]⟩:=by
 rw[F5ko]at h
 simp only[cF5ko,VW.down,Nat.reduceEqDiff,reduceCtorEq,Nat.reduceAdd,Nat.reduceLeDiff,Nat.reduceLT,Nat.reduceBEq,Nat.reduceSub,EE.down]
 obtain⟨t1,ht1,h⟩:=bi h
 refine cN [] (F14_ok ht1) trivial (ww ?_)
 cases h
 exact eM [some 0] rfl
end Go.Proofs.Ytedgocbpegllaaa
