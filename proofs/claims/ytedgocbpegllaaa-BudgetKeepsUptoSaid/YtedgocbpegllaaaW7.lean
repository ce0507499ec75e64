/- Each Go function as a function over typed data, and its walk. -/
import Derived.Test.YtedgocbpegllaaaW0
import Derived.Test.YtedgocbpegllaaaW2
import Derived.Test.YtedgocbpegllaaaW4
import Derived.Test.YtedgocbpegllaaaW5
namespace Go.Proofs.Ytedgocbpegllaaa
open Go Go.Fw Go.Shelf
set_option maxRecDepth 100000
set_option maxHeartbeats 4000000
set_option linter.unusedSimpArgs false
set_option linter.unusedVariables false
def F40_l1(b0:ByteArray):List Pod→Nat→Option ((Int) ⊕ (Unit))
 |[],o1_0=>some (Sum.inr (()))
 |xo1::xs,o1_0=>(F41 xo1 b0).bind fun t3=>(if t3=true then(some ((o1_0:Int))).map Sum.inl else F40_l1 b0 xs (o1_0+1))
def F40(x0:(List Pod))(b0:ByteArray):Option (Int):=(((ck (0≤x0.length∧x0.length≤4294967290)).bind fun u5=>F40_l1 b0 x0 0:Option ((Int) ⊕ (Unit))).bind fun o1=>match o1 with|Sum.inl f=>some f|Sum.inr po1=>some ((-1)))
def a40:AFn:=⟨19,[(.tmp 4)],
 (.seq (.reg [Qe 4 0])
 (.seq (.seq (.reg [Qa 6 0,
Qh 7 6,
Qe 8 0])
 (.sem (.block 0 (.loop (.seq (.reg [Qn 9 8 7])
 (.seq (.cond (.t 9)
 .skip
 (.exit 0))
 (.seq (.block 1 (.seq (.reg [Qa 10 8,
Qa 5 10])
 (.seq (.reg [Qa 11 1,
Qa 12 0,
Qa 13 5,
Qp 14 32 12 13,
Qc 15 32 14,
zl 16 (.callv (.t 11) [(.t 15)]) [] [12,14]])
 (.cond (.t 16)
 (.seq (.reg [Qa 17 5,
Qa 4 17])
 .ret)
 .skip))))
 (.reg [Qm 18 8 1,
Qa 8 18]))))))))
 (.seq (.reg [sq 4 (.mv (kI (-1)))])
 .ret)))⟩
theorem F40_ok{x0 b0 r}(h:F40 x0 b0=some r):CallD Try.prog 40 [.c (dM (x0.map ePod)),.c (.fn 41 [(0,0)])] [xb [dS b0]] (tupV [.c (dI r)]) [xb [dS b0]]:=by
 rw[F40]at h
 refine zc a40 (by kernel_rfl) rfl (ww ?_)
 obtain⟨o1,ho,h⟩:=bi h
 refine cutS (fun s=>∃po1,o1=Sum.inr po1∧s=⟨[],[xb [dS b0]]⟩) ?_ ?_
 ·have h0o1:=h
  have h:=ho
  clear ho
  obtain⟨_,hk,h⟩:=bi h
  have hk:=ck_some hk
  refine ww ?_
  refine bL (fun j s=>∃(o1_0:Nat),(o1_0≤x0.length∧j=x0.length-o1_0)∧s=⟨[(0,oc (dM (x0.map ePod))),(1,oc (.fn 41 [(0,0)])),(7,oc (dI ((x0.length:Int)))),(8,oc (dI ((o1_0:Int))))],[xb [dS b0]]⟩∧F40_l1 b0 (x0.drop o1_0) o1_0=some o1) (x0.length-0) [some 0] ⟨0,⟨hk.1,rfl⟩,rfl,h⟩ ?_
  rintro _ _ ⟨o1_0,⟨hi,rfl⟩,rfl,h⟩
  refine ww ?_
  refine condS (fun c2=>?_) (fun c2=>?_)
  ·obtain⟨xo1,hxo1,hd⟩:=countY (show(o1_0:Int)<(x0.length:Int)from c2)
   rw[hd,F40_l1]at h
   refine ww ?_
   refine t_idxF (enc:=ePod) (xs:=x0) rfl rfl hxo1 rfl (ww ?_)
   obtain⟨t3,ht3,h⟩:=bi h
   refine cN [0] (F41_ok ht3) ⟨⟨rfl,by simp[Blk.live,C.live,hp]⟩,trivial⟩ ?_
   refine ww ?_
   refine condBh h (fun c4 h=>ww ?_) (fun c4 h=>ww ?_)
   ·obtain⟨fh0o1,hfh0o1,rfl⟩:=Option.map_eq_some_iff.1 h
    have h:=hfh0o1.trans h0o1
    cases h
    exact eF [some 0]
   rw[wrapN (by omega)]
   exact eL' (x0.length-(o1_0+1)) [some 0] ⟨o1_0+1,⟨by omega,rfl⟩,rfl,h⟩ (by omega)
  rw[countN (show¬((o1_0:Int)<(x0.length:Int))from c2),F40_l1]at h
  refine ww ?_
  cases h
  exact eM [some 0] ⟨_,rfl,rfl⟩
 rintro _ ⟨po1,rfl,rfl⟩
 clear ho
 dsimp only at h
 refine ww ?_
 cases h
 exact eF [some 0]
def cF14m1:AC:=(.reg [Qa 34 1,
sq 35 (.fn 41 [(.t 6)]),
Ql 36 40 34 35,
Qa 13 36])
def F14m1(l:List Budget)(pods:List Pod)(key:ByteArray)(now:Int)(cs:List RBud)(n:Int)(i:Int)(c:Bool):Option (Int):=(F40 pods key).bind fun t1=>some t1
theorem F14m1_ok{l pods key now cs n i c r}(h:F14m1 l pods key now cs n i c=some r):sK Try.prog 118 0 cF14m1 [] (sM 118 0 (fun s=>s=⟨[(0,oc (dM (l.map eBudget))),(1,oc (dM (pods.map ePod))),(3,oc (dI now)),(6,Pz 0),(10,oc (.own 1 0 0 (cs.length) none)),(13,oc (dI r))],[xb [dS key],some (.arr 0 22 (cs.map eRBud))]⟩) (xQ 118 0 (fun _ _=>False) (fun _=>False)))
 ⟨[(0,oc (dM (l.map eBudget))),(1,oc (dM (pods.map ePod))),(3,oc (dI now)),(6,Pz 0),(10,oc (.own 1 0 0 (cs.length) none)),(21,oc (.own 1 0 0 (cs.length) none)),(22,oc (dI n)),(23,oc (dI i)),(24,oc (dB c))],[xb [dS key],some (.arr 0 22 (cs.map eRBud))]⟩:=by
 rw[F14m1]at h
 simp only[cF14m1,VW.down,Nat.reduceEqDiff,reduceCtorEq,Nat.reduceAdd,Nat.reduceLeDiff,Nat.reduceLT,Nat.reduceBEq,Nat.reduceSub,EE.down]
 obtain⟨t1,ht1,h⟩:=bi h
 refine cN [0] (F40_ok ht1) ⟨⟨rfl,by simp[Blk.live,C.live,hp]⟩,trivial⟩ ?_
 refine ww ?_
 cases h
 exact eM [some 0,some 1] rfl
def F44(x0:WorkItem)(x1:WorkItem):Option (Int):=(F45 x0.Key x1.Key).bind fun t1=>some t1
def a44:AFn:=⟨10,[(.tmp 4)],
 (.seq (.reg [Qg 2 0,
Qg 3 1,
Qe 4 0])
 (.seq (.reg [Qb 5 0 2,
Qd 6 5,
Qb 7 0 3,
Qd 8 7,
Ql 9 45 6 8,
Qa 4 9])
 .ret))⟩
theorem F44_ok{x0 x1 r}(h:F44 x0 x1=some r):CallD Try.prog 44 [.agg [dS x0.Key,dI x0.At],.agg [dS x1.Key,dI x1.At]] [] (tupV [.c (dI r)]) []:=by
 rw[F44]at h
 refine zc a44 (by kernel_rfl) rfl (ww ?_)
 obtain⟨t1,ht1,h⟩:=bi h
 refine cN [] (F45_ok ht1) trivial (ww ?_)
 cases h
 exact eF []
def F43_l1(x0:(List WorkItem))(x1:WorkItem):Nat→Int→Int→Option (Int)
 |0,_,_=>none
 |k+1,o1_0,o1_1=>(if o1_0<o1_1 then(rdI x0 ((IntKind.i64.wrap ((shrV .u64 ((IntKind.u64.wrap ((IntKind.i64.wrap (o1_0+o1_1))))) 1))))).bind fun y3=>(F44 y3 x1).bind fun t4=>(if t4<0 then F43_l1 x0 x1 k ((IntKind.i64.wrap (((IntKind.i64.wrap ((shrV .u64 ((IntKind.u64.wrap ((IntKind.i64.wrap (o1_0+o1_1))))) 1))))+1))) o1_1 else F43_l1 x0 x1 k o1_0 ((IntKind.i64.wrap ((shrV .u64 ((IntKind.u64.wrap ((IntKind.i64.wrap (o1_0+o1_1))))) 1)))))else some o1_0)
def F43(x0:(List WorkItem))(x1:WorkItem):Option (Int×Bool):=((F43_l1 x0 x1 1099511627776 0 ((x0.length:Int))).bind fun o1=>(((if o1<(x0.length:Int)then(rdI x0 o1).bind fun y8=>(F44 y8 x1).bind fun t9=>some (decide (t9=0))else some false)).bind fun o6=>some ((o1,o6))))
def a43:AFn:=⟨49,[(.tmp 6),(.tmp 7)],
 (.seq (.reg [Qg 4 1,
Qe 6 0,
Qf 7 false])
 (.seq (.reg [Qa 12 0,
Qh 13 12,
Qa 8 13])
 (.seq (.reg [Qa 14 8,
Qe 9 0,
Qa 10 14])
 (.seq (.sem (.block 0 (.loop (.seq (.seq (.reg [Qa 15 9,
Qa 16 10,
Qn 17 15 16])
 (.cond (.t 17)
 .skip
 (.exit 0)))
 (.block 1 (.seq (.reg [Qa 18 9,
Qa 19 10,
sq 20 (.bin .add (.t 18) (.t 19)),
sq 21 (.conv .u64 (.t 20)),
sq 22 (.bin .shr (.t 21) (.k (.c (.d (.v (.int .u64 1)))))),
sq 23 (.conv .i64 (.t 22)),
Qa 11 23])
 (.seq (.regd [Qa 24 2,
Qa 25 0,
Qa 26 11,
sd 27 (.indexA 2 (.t 25) (.t 26)) [1,2],
sd 28 (.load (some 2) (.t 27)) [1,2,3],
Qc 29 2 4,
zl 30 (.callv (.t 24) [(.t 28),(.t 29)]) [0,1,2,3,4,5] [],
sd 31 (.bin .lss (.t 30) (kI 0)) [0,1,2,3,4,5,6]])
 (.cond (.t 31)
 (.reg [Qa 32 11,
Qm 33 32 1,
Qa 9 33])
 (.reg [Qa 34 11,
Qa 10 34])))))))))
 (.seq (.sem (.regd [Qa 35 9,
Qa 36 9,
Qa 37 8,
sd 38 (.bin .lss (.t 36) (.t 37)) [1,2],
sd 39 (.mv (.t 38)) [1,2,3],
⟨(some 40),(some (39,true)),.mv (.t 2),[1,2,3,4],(.new [])⟩,
⟨(some 41),(some (39,true)),.mv (.t 0),[1,2,3,4],(.new [])⟩,
⟨(some 42),(some (39,true)),.mv (.t 9),[1,2,3,4],(.new [])⟩,
⟨(some 43),(some (39,true)),.indexA 2 (.t 41) (.t 42),[1,2,3,4,6,7],(.new [])⟩,
⟨(some 44),(some (39,true)),.load (some 2) (.t 43),[1,2,3,4,6,7,8],(.new [])⟩,
⟨(some 45),(some (39,true)),.load (some 2) (.t 4),[1,2,3,4],(.new [])⟩,
⟨(some 46),(some (39,true)),.callv (.t 40) [(.t 44),(.t 45)],[1,2,3,4,5,6,7,8,9,10],(.lone [])⟩,
⟨(some 47),(some (39,true)),.bin .eql (.t 46) (kI 0),[1,2,3,4,5,6,7,8,9,10,11],(.new [])⟩,
sd 48 (.pick (.t 39) (.t 47) (kB false)) [1,2,3,4,5,6,7,8,9,10,11,12],
sd 6 (.mv (.t 35)) [0,1,2,3,4,5,6,7,8,9,10,11],
sd 7 (.mv (.t 48)) [0,1,2,3,4,5,6,7,8,9,10,11,12,13,14]]))
 .ret)))))⟩
theorem F43_ok{x0 x1 r}(h:F43 x0 x1=some r):CallD Try.prog 43 [.c (dM (x0.map eWorkItem)),.agg [dS x1.Key,dI x1.At],.c (.fn 44 [])] [] (tupV [.c (dI r.1),.c (dB r.2)]) []:=by
 rw[F43]at h
 refine zc a43 (by kernel_rfl) rfl (ww ?_)
 obtain⟨o1,ho,h⟩:=bi h
 refine cutS (fun s=>s=⟨[(0,oc (dM (x0.map eWorkItem))),(2,oc (.fn 44 [])),(4,Pz 0),(8,oc (dI ((x0.length:Int)))),(9,oc (dI o1))],[xb [dS x1.Key,dI x1.At]]⟩) ?_ ?_
 ·have h:=ho
  clear ho
  refine ww ?_
  refine bL (fun j s=>∃(o1_0:Int) (o1_1:Int),s=⟨[(0,oc (dM (x0.map eWorkItem))),(2,oc (.fn 44 [])),(4,Pz 0),(8,oc (dI ((x0.length:Int)))),(9,oc (dI o1_0)),(10,oc (dI o1_1))],[xb [dS x1.Key,dI x1.At]]⟩∧F43_l1 x0 x1 j o1_0 o1_1=some o1) 1099511627776 [some 0] ⟨0,(x0.length:Int),rfl,h⟩ ?_
  rintro j _ ⟨o1_0,o1_1,rfl,h⟩
  cases j with
  |zero=>cases(show(none:Option _)=some _ from h)
  |succ j=>
   rw[F43_l1]at h
   refine ww ?_
   refine condSh h (fun c2 h=>ww ?_) (fun c2 h=>?_)
   ·refine⟨by decide,?_⟩
    refine ww ?_
    obtain⟨y3,hy3,h⟩:=bi h
    refine t_idxF (enc:=eWorkItem) (xs:=x0) rfl rfl hy3 rfl (ww ?_)
    obtain⟨t4,ht4,h⟩:=bi h
    refine cN [] (F44_ok ht4) trivial (ww ?_)
    refine condSh h (fun c5 h=>ww ?_) (fun c5 h=>?_)
    ·exact eL' j [some 0] ⟨(IntKind.i64.wrap (((IntKind.i64.wrap ((shrV .u64 ((IntKind.u64.wrap ((IntKind.i64.wrap (o1_0+o1_1))))) 1))))+1)),o1_1,rfl,h⟩ (Nat.lt_succ_self _)
    ·refine ww ?_
     exact eL' j [some 0] ⟨o1_0,(IntKind.i64.wrap ((shrV .u64 ((IntKind.u64.wrap ((IntKind.i64.wrap (o1_0+o1_1))))) 1))),rfl,h⟩ (Nat.lt_succ_self _)
   ·refine ww ?_
    cases h
    exact eM [some 0] rfl
 rintro _ rfl
 clear ho
 refine ww ?_
 obtain⟨o6,ho,h⟩:=bi h
 refine cutS (fun s=>s=⟨[(6,oc (dI o1)),(7,oc (dB o6))],[]⟩) ?_ ?_
 ·have h:=ho
  clear ho
  refine ww ?_
  refine guardDh h (fun g7 h=>ww ?_) (fun g7 h=>ww ?_)
  ·obtain⟨y8,hy8,h⟩:=bi h
   refine t_idxF (enc:=eWorkItem) (xs:=x0) rfl rfl hy8 rfl (ww ?_)
   obtain⟨t9,ht9,h⟩:=bi h
   refine cN [] (F44_ok ht9) trivial (ww ?_)
   cases h
   exact eM [] rfl
  cases h
  exact eM [] rfl
 rintro _ rfl
 clear ho
 refine ww ?_
 cases h
 exact eF []
def cF14c4:AC:=(.seq (.reg [Qb 90 20 16,
Qd 91 90,
sq 92 (.bin .sub (.t 91) (kI 1)),
Qb 93 20 16,
⟨none,none,.store 1 (.t 93) (.t 92),[],(.lone [16,90,16])⟩])
 (.seq (.reg [Qb 94 17 16,
Qd 95 94,
sq 96 (.bin .sub (.t 95) (kI 1)),
Qb 97 17 16,
⟨none,none,.store 1 (.t 97) (.t 96),[],(.lone [16,94,16])⟩])
 (.seq (.reg [Qb 99 21 16,
Qd 100 99,
Qc 101 2 14,
sq 102 (.call 43 [(.t 100),(.t 101),(.f 44)]),
Qa 98 102,
Qo 103 98 0,
Qo 104 98 1,
Qa 17 103,
Qa 18 104])
 (.seq (.reg [Qb 105 21 16,
Qd 106 105,
Qa 107 17,
Qc 108 2 14,
sq 109 (.bslice 2 [(.t 108)]),
sq 110 (.call 46 [(.t 106),(.t 107),(.t 109)]),
Qb 111 21 16,
su (.store 1 (.t 111) (.t 110))])
 (.reg [Qa 112 10,
Qa 113 15,
Qc 114 22 16,
Qp 115 22 112 113,
⟨none,none,.store 22 (.t 115) (.t 114),[],(.lone [16,112])⟩])))))
def F14c4(pods:List Pod)(key:ByteArray)(cs:List RBud)(at_:Int)(item:WorkItem)(n:Int)(i:Int)(b:Budget)(ws:List WorkItem):Option ((List RBud)):=(F43 ws item).bind fun t1=>(insI ws t1.1 item).bind fun t2=>(rdI cs i).bind fun y3=>some ((cs.set i.toNat ((⟨b.Meta,b.Selector,b.MinAvailable,b.MaxUnavailable,b.Observed,(IntKind.i64.wrap (b.Healthy-1)),b.Desired,b.Expected,(IntKind.i64.wrap (b.Allowed-1)),(D.sl (t2.map eWorkItem))⟩:RBud))))
theorem F14c4_ok{pods key cs at_ item n i b ws r}(h:F14c4 pods key cs at_ item n i b ws=some r):sK Try.prog 118 0 cF14c4 [] (sM 118 0 (fun s=>s=⟨[(1,oc (dM (pods.map ePod))),(6,Pz 0),(10,oc (.own 1 0 0 (r.length) none)),(13,oc (dI at_)),(14,Pz 2),(71,oc (.own 1 0 0 (r.length) none)),(72,oc (dI n)),(73,oc (dI i))],[xb [dS key],some (.arr 0 22 (r.map eRBud)),xb [dS item.Key,dI item.At]]⟩) (xQ 118 0 (fun _ _=>False) (fun _=>False)))
 ⟨[(1,oc (dM (pods.map ePod))),(6,Pz 0),(10,oc (.own 1 0 0 (cs.length) none)),(13,oc (dI at_)),(14,Pz 2),(15,oc (dI i)),(16,Pz 3),(71,oc (.own 1 0 0 (cs.length) none)),(72,oc (dI n)),(73,oc (dI i))],[xb [dS key],some (.arr 0 22 (cs.map eRBud)),xb [dS item.Key,dI item.At],xb [dS b.Meta.Kind,dS b.Meta.Namespace,dS b.Meta.Name,dI b.Meta.Uid,dI b.Meta.Version,dI b.Meta.Generation,dI b.Meta.Created,dB b.Meta.Deleting,dI b.Meta.DeleteAt,dM (b.Meta.Labels.map eLabel),dM (b.Meta.Owners.map eOwner),dM (b.Meta.Finalizers.map eS),dM (b.Meta.Managers.map eManager),dM (b.Selector.map eRequirement),dM (b.MinAvailable.map eAmount),dM (b.MaxUnavailable.map eAmount),dI b.Observed,dI b.Healthy,dI b.Desired,dI b.Expected,dI b.Allowed,.own 4 0 0 (ws.length) none],some (.arr 0 2 (ws.map eWorkItem))]⟩:=by
 rw[F14c4]at h
 simp only[cF14c4,VW.down,Nat.reduceEqDiff,reduceCtorEq,Nat.reduceAdd,Nat.reduceLeDiff,Nat.reduceLT,Nat.reduceBEq,Nat.reduceSub,EE.down]
 obtain⟨t1,ht1,h⟩:=bi h
 refine callX_bor (F43_ok ht1) (by simp only[borAs,bors,hp,List.getElem?_cons_zero,List.getElem?_cons_succ,Option.join_some,List.drop_zero,bor_full',true_and,Nat.zero_add,List.length_map,Nat.le_refl,nrm,List.length_cons,List.length_nil,Nat.reduceAdd,Nat.reduceLeDiff,List.take_succ_cons,List.take_zero,List.take_nil,List.map_cons,List.map_nil,List.length_set,EE.down]) rfl ?_
 refine ww ?_
 refine t_bslice (enc:=eWorkItem) (ys:=[item]) rfl rfl (by simp[A1.cells]) (by first|rfl|(simp only[List.drop_zero,take_mapL];rfl)|(simp only[lit,List.map_cons,List.map_nil,List.drop_zero,take_mapL,EE.down];done)|(simp only[lit,List.map_cons,List.map_nil,List.drop_zero,take_mapL,EE.down];rfl)) (ww ?_)
 obtain⟨t2,ht2,h⟩:=bi h
 refine cN [4,5] (F46_ok (e0:=0) (e1:=0) ht2) ⟨⟨rfl,trivial⟩,⟨⟨rfl,trivial⟩,trivial⟩⟩ ?_
 refine ww ?_
 obtain⟨y3,hy3,h⟩:=bi h
 refine t_idxO (enc:=eRBud) (xs:=cs) rfl rfl rfl (by first|rfl|simp only[List.length_set]|exact(clrL_len (slI_len (by assumption))).symm) hy3 (ww ?_)
 refine StRow.rd (y':=(⟨b.Meta,b.Selector,b.MinAvailable,b.MaxUnavailable,b.Observed,(IntKind.i64.wrap (b.Healthy-1)),b.Desired,b.Expected,(IntKind.i64.wrap (b.Allowed-1)),(D.sl (t2.map eWorkItem))⟩:RBud)) (rdI_some hy3).2.1 (by simp[EE.down]) (by first|rfl|(simp only[bor_full'];rfl)) (ww ?_)
 cases h
 exact eM [some 0,some 1,some 2] rfl
def F35(x0:Budget)(x1:Pod):Option (Bool):=(((if x0.Meta.Namespace=x1.Meta.Namespace then(F65 x0.Selector x1.Meta.Labels).bind fun t3=>some t3 else some false)).bind fun o1=>some o1)
def a35:AFn:=⟨20,[(.tmp 4)],
 (.seq (.reg [Qg 2 0,
Qg 3 1,
Qf 4 false])
 (.seq (.sem (.reg [Qb 5 0 2,
Qb 6 1 5,
Qd 7 6,
Qb 8 0 3,
Qb 9 1 8,
Qd 10 9,
sq 11 (.bin .eql (.t 7) (.t 10)),
Qa 12 11,
Qs 13 12 true 13 2,
Qt 14 12 true 13,
Qs 15 12 true 0 3,
Qs 16 12 true 9 15,
Qt 17 12 true 16,
zg 18 12 true (.call 65 [(.t 14),(.t 17)]),
Qi 19 12 18,
Qa 4 19]))
 .ret))⟩
theorem F35_ok{x0 x1 r}(h:F35 x0 x1=some r):CallD Try.prog 35 [.agg (bBudget x0),.agg (bPod x1)] [] (tupV [.c (dB r)]) []:=by
 rw[F35]at h
 refine zc a35 (by kernel_rfl) rfl (ww ?_)
 obtain⟨o1,ho,h⟩:=bi h
 refine cutS (fun s=>s=⟨[(4,oc (dB o1))],[]⟩) ?_ ?_
 ·have h:=ho
  clear ho
  refine ww ?_
  refine guardSh h (fun g2 h=>ww ?_) (fun g2 h=>ww ?_)
  ·obtain⟨t3,ht3,h⟩:=bi h
   refine cN [] (F65_ok ht3) trivial (ww ?_)
   cases h
   exact eM [] rfl
  cases h
  exact eM [] rfl
 rintro _ rfl
 clear ho
 refine ww ?_
 cases h
 exact eF []
def F21_l1(x0:Budget)(x2:(List WorkItem)):List Pod→Nat→Int→Option (Int)
 |[],o1_1,o1_0=>some o1_0
 |xo1::xs,o1_1,o1_0=>(((((F35 x0 xo1).bind fun t5=>(if t5=true then(F36 xo1).bind fun t7=>(if t7=true then(F20 xo1.Meta).bind fun t9=>(F37 x2 t9).bind fun t10=>some (nb t10)else some false)else some false)).bind fun o4=>(if o4=true then some ((IntKind.i64.wrap (o1_0+1)))else some o1_0))).bind fun o3=>F21_l1 x0 x2 xs (o1_1+1) o3)
def F21(x0:Budget)(x1:(List Pod))(x2:(List WorkItem)):Option (Int):=(((ck (0≤x1.length∧x1.length≤4294967290)).bind fun u12=>F21_l1 x0 x2 x1 0 0).bind fun o1=>some o1)
def a21:AFn:=⟨42,[(.tmp 6)],
 (.seq (.reg [Qg 3 0,
Qe 6 0])
 (.seq (.reg [Qe 7 0])
 (.seq (.seq (.reg [Qe 8 0])
 (.sem (.block 0 (.loop (.seq (.seq (.reg [Qa 9 8,
Qa 10 1,
Qh 11 10,
Qn 12 9 11])
 (.cond (.t 12)
 .skip
 (.exit 0)))
 (.seq (.sem (.block 1 (.seq (.sem (.regd [Qc 15 22 3,
Qa 16 1,
Qa 17 8,
sd 18 (.indexA 32 (.t 16) (.t 17)) [1,2],
sd 19 (.load (some 32) (.t 18)) [1,2,3],
zl 20 (.call 35 [(.t 15),(.t 19)]) [0,1,2,3,4] [],
sd 21 (.mv (.t 20)) [0,1,2,3,4,5],
⟨(some 22),(some (21,true)),.mv (.t 1),[0,1,2,3,4,5,6],(.new [])⟩,
⟨(some 23),(some (21,true)),.mv (.t 8),[0,1,2,3,4,5,6],(.new [])⟩,
⟨(some 24),(some (21,true)),.indexA 32 (.t 22) (.t 23),[0,1,2,3,4,5,6,7,8],(.new [])⟩,
⟨(some 25),(some (21,true)),.load (some 32) (.t 24),[0,1,2,3,4,5,6,7,8,9],(.new [])⟩,
⟨(some 26),(some (21,true)),.call 36 [(.t 25)],[0,1,2,3,4,5,6,7,8,9,10],(.lone [])⟩,
zl 27 (.pick (.t 21) (.t 26) (kB false)) [0,1,2,3,4,5,6,7,8,9,10,11] [],
sd 28 (.mv (.t 27)) [0,1,2,3,4,5,6,7,8,9,10,11,12],
⟨(some 29),(some (28,true)),.mv (.t 2),[0,1,2,3,4,5,6,7,8,9,10,11,12,13],(.new [])⟩,
⟨(some 30),(some (28,true)),.mv (.t 1),[0,1,2,3,4,5,6,7,8,9,10,11,12,13],(.new [])⟩,
⟨(some 31),(some (28,true)),.mv (.t 8),[0,1,2,3,4,5,6,7,8,9,10,11,12,13],(.new [])⟩,
⟨(some 32),(some (28,true)),.indexA 32 (.t 30) (.t 31),[0,1,2,3,4,5,6,7,8,9,10,11,12,13,15,16],(.new [])⟩,
⟨(some 33),(some (28,true)),.fieldA 0 (.t 32),[0,1,2,3,4,5,6,7,8,9,10,11,12,13,15,16,17],(.new [])⟩,
⟨(some 34),(some (28,true)),.load (some 13) (.t 33),[0,1,2,3,4,5,6,7,8,9,10,11,12,13,15,16,17,18],(.new [])⟩,
⟨(some 35),(some (28,true)),.call 20 [(.t 34)],[0,1,2,3,4,5,6,7,8,9,10,11,12,13,15,16,17,18,19],(.lone [])⟩,
⟨(some 36),(some (28,true)),.call 37 [(.t 29),(.t 35)],[0,1,2,3,4,5,6,7,8,9,10,11,12,13,14,15,16,17,18,19,20],(.lone [])⟩,
⟨(some 37),(some (28,true)),.not (.t 36),[0,1,2,3,4,5,6,7,8,9,10,11,12,13,14,15,16,17,18,19,20,21],(.new [])⟩,
zl 38 (.pick (.t 28) (.t 37) (kB false)) [0,1,2,3,4,5,6,7,8,9,10,11,12,13,14,15,16,17,18,19,20,21,22] []]))
 (.cond (.t 38)
 (.reg [Qa 39 7,
Qm 40 39 1,
Qa 7 40])
 .skip))))
 (.reg [Qa 13 8,
Qm 14 13 1,
Qa 8 14])))))))
 (.seq (.reg [Qa 41 7,
Qa 6 41])
 .ret))))⟩
theorem F21_ok{x0 x1 x2 r}(h:F21 x0 x1 x2=some r):CallD Try.prog 21 [.agg (bBudget x0),.c (dM (x1.map ePod)),.c (dM (x2.map eWorkItem))] [] (tupV [.c (dI r)]) []:=by
 rw[F21]at h
 refine zc a21 (by kernel_rfl) rfl (ww ?_)
 obtain⟨o1,ho,h⟩:=bi h
 refine cutS (fun s=>s=⟨[(7,oc (dI o1))],[]⟩) ?_ ?_
 ·have h:=ho
  clear ho
  obtain⟨_,hk,h⟩:=bi h
  have hk:=ck_some hk
  refine ww ?_
  refine bL (fun j s=>∃(o1_1:Nat) (o1_0:Int),(o1_1≤x1.length∧j=x1.length-o1_1)∧s=⟨[(1,oc (dM (x1.map ePod))),(2,oc (dM (x2.map eWorkItem))),(3,Pz 0),(7,oc (dI o1_0)),(8,oc (dI ((o1_1:Int))))],[xb (bBudget x0)]⟩∧F21_l1 x0 x2 (x1.drop o1_1) o1_1 o1_0=some o1) (x1.length-0) [some 0] ⟨0,0,⟨hk.1,rfl⟩,rfl,h⟩ ?_
  rintro _ _ ⟨o1_1,o1_0,⟨hi,rfl⟩,rfl,h⟩
  refine ww ?_
  refine condS (fun c2=>?_) (fun c2=>?_)
  ·obtain⟨xo1,hxo1,hd⟩:=countY (show(o1_1:Int)<(x1.length:Int)from c2)
   rw[hd,F21_l1]at h
   refine ww ?_
   obtain⟨o3,ho,h⟩:=bi h
   refine cutS (fun s=>s=⟨[(1,oc (dM (x1.map ePod))),(2,oc (dM (x2.map eWorkItem))),(3,Pz 0),(7,oc (dI o3)),(8,oc (dI ((o1_1:Int))))],[xb (bBudget x0)]⟩) ?_ ?_
   ·have h:=ho
    clear ho
    refine ww ?_
    obtain⟨o4,ho,h⟩:=bi h
    refine cutS (fun s=>s=⟨[(1,oc (dM (x1.map ePod))),(2,oc (dM (x2.map eWorkItem))),(3,Pz 0),(7,oc (dI o1_0)),(8,oc (dI ((o1_1:Int)))),(38,oc (dB o4))],[xb (bBudget x0)]⟩) ?_ ?_
    ·have h:=ho
     clear ho
     refine ww ?_
     refine t_idxF (enc:=ePod) (xs:=x1) rfl rfl hxo1 rfl (ww ?_)
     obtain⟨t5,ht5,h⟩:=bi h
     refine cN [] (F35_ok ht5) trivial (ww ?_)
     refine guardDBh h (fun g6 h=>ww ?_) (fun g6 h=>ww ?_)
     ·refine t_idxF (enc:=ePod) (xs:=x1) rfl rfl hxo1 rfl (ww ?_)
      obtain⟨t7,ht7,h⟩:=bi h
      refine cN [] (F36_ok ht7) trivial (ww ?_)
      refine guardDBh h (fun g8 h=>ww ?_) (fun g8 h=>ww ?_)
      ·refine t_idxF (enc:=ePod) (xs:=x1) rfl rfl hxo1 rfl (ww ?_)
       obtain⟨t9,ht9,h⟩:=bi h
       refine cN [] (F20_ok ht9) trivial (ww ?_)
       obtain⟨t10,ht10,h⟩:=bi h
       refine cN [] (F37_ok ht10) trivial (ww ?_)
       cases h
       exact eM [some 0] rfl
      cases h
      exact eM [some 0] rfl
     cases h
     exact eM [some 0] rfl
    rintro _ rfl
    clear ho
    refine ww ?_
    refine condBh h (fun c11 h=>ww ?_) (fun c11 h=>ww ?_)
    ·cases h
     exact eM [some 0] rfl
    cases h
    exact eM [some 0] rfl
   rintro _ rfl
   clear ho
   refine ww ?_
   rw[wrapN (by omega)]
   exact eL' (x1.length-(o1_1+1)) [some 0] ⟨o1_1+1,o3,⟨by omega,rfl⟩,rfl,h⟩ (by omega)
  rw[countN (show¬((o1_1:Int)<(x1.length:Int))from c2),F21_l1]at h
  refine ww ?_
  cases h
  exact eM [] rfl
 rintro _ rfl
 clear ho
 refine ww ?_
 cases h
 exact eF []
def F5ky_l1(gw:List (List WorkItem))(pods:List Pod):List Budget→Nat→Option (((Unit) ⊕ (Unit)) ⊕ (Unit))
 |[],o1_0=>some (Sum.inr (()))
 |xo1::xs,o1_0=>(((if xo1.Desired≤xo1.Healthy then(rdI gw ((o1_0:Int))).bind fun y5=>(F21 xo1 pods y5).bind fun t6=>some (decide (t6<xo1.Desired))else some false)).bind fun o3=>(if o3=true then(some (Sum.inl (()))).map Sum.inl else F5ky_l1 gw pods xs (o1_0+1)))
def cF5ky:AC:=(.seq (.reg [Qe 21 0])
 (.sem (.block 8 (.loop (.seq (.seq (.reg [Qa 133 21,
Qa 134 11,
Qh 135 134,
Qn 136 133 135])
 (.cond (.t 136)
 .skip
 (.exit 8)))
 (.seq (.block 9 (.seq (.sem (.regd [Qa 139 11,
Qa 140 21,
sd 141 (.indexA 22 (.t 139) (.t 140)) [0,1],
sd 142 (.fieldA 17 (.t 141)) [0,1,2],
sd 143 (.load none (.t 142)) [0,1,2,3],
Qa 144 11,
Qa 145 21,
sd 146 (.indexA 22 (.t 144) (.t 145)) [5,6],
sd 147 (.fieldA 18 (.t 146)) [5,6,7],
sd 148 (.load none (.t 147)) [5,6,7,8],
sd 149 (.bin .geq (.t 143) (.t 148)) [0,1,2,3,4,5,6,7,8,9],
sd 150 (.mv (.t 149)) [0,1,2,3,4,5,6,7,8,9,10],
⟨(some 151),(some (150,true)),.mv (.t 11),[0,1,2,3,4,5,6,7,8,9,10,11],(.new [])⟩,
⟨(some 152),(some (150,true)),.mv (.t 21),[0,1,2,3,4,5,6,7,8,9,10,11],(.new [])⟩,
⟨(some 153),(some (150,true)),.indexA 22 (.t 151) (.t 152),[0,1,2,3,4,5,6,7,8,9,10,11,12,13],(.new [])⟩,
⟨(some 154),(some (150,true)),.load (some 22) (.t 153),[0,1,2,3,4,5,6,7,8,9,10,11,12,13,14],(.new [])⟩,
⟨(some 155),(some (150,true)),.mv (.t 1),[0,1,2,3,4,5,6,7,8,9,10,11],(.new [])⟩,
⟨(some 156),(some (150,true)),.mv (.t 13),[0,1,2,3,4,5,6,7,8,9,10,11],(.new [])⟩,
⟨(some 157),(some (150,true)),.mv (.t 21),[0,1,2,3,4,5,6,7,8,9,10,11],(.new [])⟩,
⟨(some 158),(some (150,true)),.indexA 1 (.t 156) (.t 157),[0,1,2,3,4,5,6,7,8,9,10,11,17,18],(.new [])⟩,
⟨(some 159),(some (150,true)),.load none (.t 158),[0,1,2,3,4,5,6,7,8,9,10,11,17,18,19],(.new [])⟩,
⟨(some 160),(some (150,true)),.call 21 [(.t 154),(.t 155),(.t 159)],[0,1,2,3,4,5,6,7,8,9,10,11,12,13,14,15,16,17,18,19,20],(.new [12,13,14,15,16,17,18,19,20])⟩,
⟨(some 161),(some (150,true)),.mv (.t 11),[0,1,2,3,4,5,6,7,8,9,10,11],(.new [])⟩,
⟨(some 162),(some (150,true)),.mv (.t 21),[0,1,2,3,4,5,6,7,8,9,10,11],(.new [])⟩,
⟨(some 163),(some (150,true)),.indexA 22 (.t 161) (.t 162),[0,1,2,3,4,5,6,7,8,9,10,11,22,23],(.new [])⟩,
⟨(some 164),(some (150,true)),.fieldA 18 (.t 163),[0,1,2,3,4,5,6,7,8,9,10,11,22,23,24],(.new [])⟩,
⟨(some 165),(some (150,true)),.load none (.t 164),[0,1,2,3,4,5,6,7,8,9,10,11,22,23,24,25],(.new [])⟩,
⟨(some 166),(some (150,true)),.bin .lss (.t 160) (.t 165),[0,1,2,3,4,5,6,7,8,9,10,11,12,13,14,15,16,17,18,19,20,21,22,23,24,25,26],(.new [])⟩,
zl 167 (.pick (.t 150) (.t 166) (kB false)) [0,1,2,3,4,5,6,7,8,9,10,11,12,13,14,15,16,17,18,19,20,21,22,23,24,25,26,27] []]))
 (.cond (.t 167)
 (.seq (.reg [Qf 10 false])
 .ret)
 .skip)))
 (.reg [Qa 137 21,
Qm 138 137 1,
Qa 21 138])))))))
def F5ky(pods:List Pod)(fs:List Budget)(gw:List (List WorkItem)):Option ((Unit) ⊕ (Unit)):=(((ck (0≤fs.length∧fs.length≤4294967290)).bind fun u8=>F5ky_l1 gw pods fs 0:Option (((Unit) ⊕ (Unit)) ⊕ (Unit))).bind fun o1=>match o1 with|Sum.inl f=>some f|Sum.inr po1=>some (Sum.inr (())))
theorem F5ky_ok{pods fs gw r}(h:F5ky pods fs gw=some r):sK Try.prog 169 0 cF5ky [] (sM 169 0 (fun s=>∃o1,r=Sum.inr (o1)∧s=⟨[],[]⟩) (xQ 169 0 (fun _ _=>False) (fun s=>∃o0,r=Sum.inl o0∧s=⟨[(10,oc (dB false))],[]⟩)))
 ⟨[(1,oc (dM (pods.map ePod))),(11,oc (dM (fs.map eBudget))),(13,oc (.own 0 0 0 (gw.length) none))],[some (.arr 0 1 (gw.map (eL eWorkItem)))]⟩:=by
 rw[F5ky]at h
 simp only[cF5ky,VW.down,Nat.reduceEqDiff,reduceCtorEq,Nat.reduceAdd,Nat.reduceLeDiff,Nat.reduceLT,Nat.reduceBEq,Nat.reduceSub,EE.down]
 obtain⟨o1,ho,h⟩:=bi h
 refine cutS (fun s=>∃po1,o1=Sum.inr po1∧s=⟨[],[]⟩) ?_ ?_
 ·have h0o1:=h
  have h:=ho
  clear ho
  obtain⟨_,hk,h⟩:=bi h
  have hk:=ck_some hk
  refine ww ?_
  refine bL (fun j s=>∃(o1_0:Nat),(o1_0≤fs.length∧j=fs.length-o1_0)∧s=⟨[(1,oc (dM (pods.map ePod))),(11,oc (dM (fs.map eBudget))),(13,oc (.own 0 0 0 (gw.length) none)),(21,oc (dI ((o1_0:Int))))],[some (.arr 0 1 (gw.map (eL eWorkItem)))]⟩∧F5ky_l1 gw pods (fs.drop o1_0) o1_0=some o1) (fs.length-0) [some 0] ⟨0,⟨hk.1,rfl⟩,rfl,h⟩ ?_
  rintro _ _ ⟨o1_0,⟨hi,rfl⟩,rfl,h⟩
  refine ww ?_
  refine condS (fun c2=>?_) (fun c2=>?_)
  ·obtain⟨xo1,hxo1,hd⟩:=countY (show(o1_0:Int)<(fs.length:Int)from c2)
   rw[hd,F5ky_l1]at h
   refine ww ?_
   obtain⟨o3,ho,h⟩:=bi h
   refine cutS (fun s=>s=⟨[(1,oc (dM (pods.map ePod))),(11,oc (dM (fs.map eBudget))),(13,oc (.own 0 0 0 (gw.length) none)),(21,oc (dI ((o1_0:Int)))),(167,oc (dB o3))],[some (.arr 0 1 (gw.map (eL eWorkItem)))]⟩) ?_ ?_
   ·have h:=ho
    clear ho
    refine ww ?_
    refine t_idxF (enc:=eBudget) (xs:=fs) rfl rfl hxo1 rfl (ww ?_)
    refine t_idxF (enc:=eBudget) (xs:=fs) rfl rfl hxo1 rfl (ww ?_)
    refine guardDh h (fun g4 h=>ww ?_) (fun g4 h=>?_)
    ·refine t_idxF (enc:=eBudget) (xs:=fs) rfl rfl hxo1 rfl (ww ?_)
     obtain⟨y5,hy5,h⟩:=bi h
     refine t_idxO (enc:=(eL eWorkItem)) (xs:=gw) rfl rfl rfl (by first|rfl|simp only[List.length_set]|exact(clrL_len (slI_len (by assumption))).symm) hy5 (ww ?_)
     refine LdRow.rd (rdI_some hy5).2.1 (ww ?_)
     obtain⟨t6,ht6,h⟩:=bi h
     refine cN [] (F21_ok ht6) trivial (ww ?_)
     refine t_idxF (enc:=eBudget) (xs:=fs) rfl rfl hxo1 rfl (ww ?_)
     cases h
     exact eM [some 0] rfl
    ·refine ww ?_
     cases h
     exact eM [some 0] rfl
   ·rintro _ rfl
    clear ho
    refine ww ?_
    refine condBh h (fun c7 h=>ww ?_) (fun c7 h=>?_)
    ·obtain⟨fh0o1,hfh0o1,rfl⟩:=Option.map_eq_some_iff.1 h
     have h:=hfh0o1.trans h0o1
     cases h
     exact eR [] ⟨_,rfl,rfl⟩
    ·refine ww ?_
     rw[wrapN (by omega)]
     exact eL' (fs.length-(o1_0+1)) [some 0] ⟨o1_0+1,⟨by omega,rfl⟩,rfl,h⟩ (by omega)
  ·rw[countN (show¬((o1_0:Int)<(fs.length:Int))from c2),F5ky_l1]at h
   refine ww ?_
   cases h
   exact eM [] ⟨_,rfl,rfl⟩
 ·rintro _ ⟨po1,rfl,rfl⟩
  clear ho
  dsimp only at h
  refine ww ?_
  cases h
  exact eM [] ⟨_,rfl,rfl⟩
end Go.Proofs.Ytedgocbpegllaaa
