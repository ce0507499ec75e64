/- Each Go function as a function over typed data, and its walk. -/
import Derived.Test.YtfkkccgopmcnaaaW0
import Derived.Test.YtfkkccgopmcnaaaW2
import Derived.Test.YtfkkccgopmcnaaaW3
import Derived.Test.YtfkkccgopmcnaaaW4
import Derived.Test.YtfkkccgopmcnaaaW5
import Derived.Test.YtfkkccgopmcnaaaW7
import Derived.Test.YtfkkccgopmcnaaaW11
import Derived.Test.YtfkkccgopmcnaaaW12
namespace Go.Proofs.Ytfkkccgopmcnaaa
open Go Go.Fw Go.Shelf
set_option maxRecDepth 100000
set_option maxHeartbeats 4000000
set_option linter.unusedSimpArgs false
set_option linter.unusedVariables false
def F30(x0:Service)(x1:Pod):Option (Bool):=(((if x1.Meta.Namespace=x0.Meta.Namespace then(F18 x0.Selector x1.Meta.Labels).bind fun t3=>(if t3=true then(if 0<x1.Status.Address then(if x1.Status.Phase=0 then some true else some (decide (x1.Status.Phase=1)))else some false)else some false)else some false)).bind fun o1=>some o1)
def a30:AFn:=⟨38,[(.tmp 4)],
 (.seq (.reg [sq 2 (.box (.t 0)),
sq 3 (.box (.t 1)),
sq 4 (.mv (kB false))])
 (.seq (.sem (.reg [sq 5 (.fieldA 0 (.t 3)),
sq 6 (.fieldA 1 (.t 5)),
sq 7 (.load none (.t 6)),
sq 8 (.fieldA 0 (.t 2)),
sq 9 (.fieldA 1 (.t 8)),
sq 10 (.load none (.t 9)),
sq 11 (.bin .eql (.t 7) (.t 10)),
sq 12 (.mv (.t 11)),
zg 13 12 true (.fieldA 13 (.t 2)),
zg 14 12 true (.load none (.t 13)),
zg 15 12 true (.fieldA 0 (.t 3)),
zg 16 12 true (.fieldA 9 (.t 15)),
zg 17 12 true (.load none (.t 16)),
zg 18 12 true (.call 18 [(.t 14),(.t 17)]),
sq 19 (.pick (.t 12) (.t 18) (kB false)),
sq 20 (.mv (.t 19)),
zg 21 20 true (.fieldA 23 (.t 3)),
zg 22 20 true (.fieldA 6 (.t 21)),
zg 23 20 true (.load none (.t 22)),
zg 24 20 true (.bin .gtr (.t 23) (kI 0)),
sq 25 (.pick (.t 20) (.t 24) (kB false)),
sq 26 (.mv (.t 25)),
zg 27 26 true (.fieldA 23 (.t 3)),
zg 28 26 true (.fieldA 0 (.t 27)),
zg 29 26 true (.load none (.t 28)),
zg 30 26 true (.bin .eql (.t 29) (kI 0)),
zg 31 26 true (.mv (.t 30)),
zg 32 31 false (.fieldA 23 (.t 3)),
zg 33 31 false (.fieldA 0 (.t 32)),
zg 34 31 false (.load none (.t 33)),
zg 35 31 false (.bin .eql (.t 34) (kI 1)),
zg 36 26 true (.pick (.t 31) (kB true) (.t 35)),
sq 37 (.pick (.t 26) (.t 36) (kB false)),
sq 4 (.mv (.t 37))]))
 .ret))⟩
theorem F30_ok{x0 x1 r}(h:F30 x0 x1=some r):CallD Try.prog 30 [.agg [dS x0.Meta.Kind,dS x0.Meta.Namespace,dS x0.Meta.Name,dI x0.Meta.Uid,dI x0.Meta.Version,dI x0.Meta.Generation,dI x0.Meta.Created,dB x0.Meta.Deleting,dI x0.Meta.DeleteAt,dM (x0.Meta.Labels.map eLabel),dM (x0.Meta.Owners.map eOwner),dM (x0.Meta.Finalizers.map eS),dM (x0.Meta.Managers.map eManager),dM (x0.Selector.map eRequirement),dM (x0.Ports.map eServicePort),dB x0.Sticky,dI x0.Address],.agg [dS x1.Meta.Kind,dS x1.Meta.Namespace,dS x1.Meta.Name,dI x1.Meta.Uid,dI x1.Meta.Version,dI x1.Meta.Generation,dI x1.Meta.Created,dB x1.Meta.Deleting,dI x1.Meta.DeleteAt,dM (x1.Meta.Labels.map eLabel),dM (x1.Meta.Owners.map eOwner),dM (x1.Meta.Finalizers.map eS),dM (x1.Meta.Managers.map eManager),dS x1.Spec.Node,dI x1.Spec.Priority,dI x1.Spec.Restart,dI x1.Spec.Grace,dM (x1.Spec.Containers.map eContainer),dM (x1.Spec.NodeSelector.map eRequirement),dM (x1.Spec.NodeTerms.map eNodeTerm),dM (x1.Spec.PodTerms.map ePodTerm),dM (x1.Spec.Spread.map eSpreadRule),dM (x1.Spec.Tolerations.map eToleration),dI x1.Status.Phase,dB x1.Status.Ready,dI x1.Status.ReadySince,dI x1.Status.Started,dI x1.Status.Finished,dM (x1.Status.Containers.map eContainerStatus),dI x1.Status.Address,dS x1.Status.Nominated,dS x1.Status.Reason]] [] (tupV [.c (dB r)]) []:=by
 rw[F30]at h
 refine zc a30 (by kernel_rfl) rfl (ww ?_)
 obtain⟨o1,ho,h⟩:=bi h
 refine cutS (fun s=>s=⟨[(4,.one (.c (dB o1)))],[]⟩) ?_ ?_
 ·have h:=ho
  clear ho
  refine ww ?_
  refine guardSh h (fun g2 h=>?_) (fun g2 h=>?_)
  ·refine ww ?_
   obtain⟨t3,ht3,h⟩:=bi h
   refine cN [] (F18_ok ht3) trivial (ww ?_)
   refine guardSBh h (fun g4 h=>?_) (fun g4 h=>?_)
   ·refine ww ?_
    refine guardSh h (fun g5 h=>?_) (fun g5 h=>?_)
    ·refine ww ?_
     refine guardSh h (fun g6 h=>?_) (fun g6 h=>?_)
     ·refine ww ?_
      cases h
      exact eM [] rfl
     refine ww ?_
     cases h
     exact eM [] rfl
    refine ww ?_
    cases h
    exact eM [] rfl
   refine ww ?_
   cases h
   exact eM [] rfl
  refine ww ?_
  cases h
  exact eM [] rfl
 rintro _ rfl
 clear ho
 refine ww ?_
 cases h
 exact eF []
def F31_l1(x0:(List Endpoint))(x1:Endpoint):Nat→Int→Option (Int)
 |0,_=>none
 |k+1,o1_0=>(((if o1_0<(x0.length:Int)then(rdI x0 o1_0).bind fun y4=>some ((Op.bytesLess y4.Pod.toList x1.Pod.toList||decide (y4.Pod=x1.Pod)))else some false)).bind fun o2=>(if o2=true then F31_l1 x0 x1 k ((IntKind.i64.wrap (o1_0+1)))else some o1_0))
def F31(x0:(List Endpoint))(x1:Endpoint):Option ((List Endpoint)):=((F31_l1 x0 x1 1099511627776 0).bind fun o1=>(slI x0 0 o1).bind fun s6=>(apI ([]:List Endpoint) s6).bind fun a7=>(apI a7 ([x1])).bind fun a8=>(slI x0 o1 ((x0.length:Int))).bind fun s9=>(apI a8 s9).bind fun a10=>some a10)
def a31:AFn:=⟨38,[(.tmp 4)],
 (.seq (.reg [sq 3 (.box (.t 1)),
sq 4 (.mv kN)])
 (.seq (.reg [sq 5 (.mv (kI 0))])
 (.seq (.sem (.block 0 (.loop (.seq (.seq (.sem (.regd [sq 7 (.mv (.t 5)),
sq 8 (.mv (.t 0)),
sd 9 (.len (.t 8)) [1],
sd 10 (.bin .lss (.t 7) (.t 9)) [0,1,2],
sd 11 (.mv (.t 10)) [0,1,2,3],
⟨(some 12),(some (11,true)),.mv (.t 0),[0,1,2,3,4],(.new [])⟩,
⟨(some 13),(some (11,true)),.mv (.t 5),[0,1,2,3,4],(.new [])⟩,
⟨(some 14),(some (11,true)),.indexA 5 (.t 12) (.t 13),[0,1,2,3,4,5,6],(.new [])⟩,
⟨(some 15),(some (11,true)),.fieldA 0 (.t 14),[0,1,2,3,4,5,6,7],(.new [])⟩,
⟨(some 16),(some (11,true)),.load none (.t 15),[0,1,2,3,4,5,6,7,8],(.new [])⟩,
⟨(some 17),(some (11,true)),.fieldA 0 (.t 3),[0,1,2,3,4],(.new [])⟩,
⟨(some 18),(some (11,true)),.load none (.t 17),[0,1,2,3,4,10],(.new [])⟩,
⟨(some 19),(some (11,true)),.bin .leq (.t 16) (.t 18),[0,1,2,3,4,5,6,7,8,9,10,11],(.new [])⟩,
zl 20 (.pick (.t 11) (.t 19) (kB false)) [0,1,2,3,4,5,6,7,8,9,10,11,12] []]))
 (.cond (.t 20)
 .skip
 (.exit 0)))
 (.block 1 (.reg [sq 21 (.mv (.t 5)),
sq 22 (.bin .add (.t 21) (kI 1)),
sq 5 (.mv (.t 22))]))))))
 (.seq (.reg [sq 23 (.bslice 5 []),
sq 24 (.mv (.t 0)),
sq 25 (.mv (.t 5)),
sq 26 (.slice 5 (.t 24) none (some (.t 25)) none),
sq 27 (.app 5 48 (.t 23) (.t 26)),
sq 6 (.mv (.t 27))])
 (.seq (.reg [sq 28 (.mv (.t 6)),
sq 29 (.load (some 5) (.t 3)),
sq 30 (.bslice 5 [(.t 29)]),
sq 31 (.app 5 48 (.t 28) (.t 30)),
sq 6 (.mv (.t 31))])
 (.seq (.reg [sq 32 (.mv (.t 6)),
sq 33 (.mv (.t 0)),
sq 34 (.mv (.t 5)),
sq 35 (.slice 5 (.t 33) (some (.t 34)) none none),
sq 36 (.app 5 48 (.t 32) (.t 35)),
sq 6 (.mv (.t 36))])
 (.seq (.reg [sq 37 (.mv (.t 6)),
sq 4 (.mv (.t 37))])
 .ret)))))))⟩
theorem F31_ok{x0 x1 r}(h:F31 x0 x1=some r):CallD Try.prog 31 [.c (dM (x0.map eEndpoint)),.agg [dS x1.Pod,dS x1.Node,dI x1.Address,dB x1.Ready,dB x1.Terminating]] [] (tupV [.c (.own 0 0 0 (r.length) none)]) [some (.arr 0 5 (r.map eEndpoint))]:=by
 rw[F31]at h
 refine zc a31 (by kernel_rfl) rfl (ww ?_)
 obtain⟨o1,ho,h⟩:=bi h
 refine cutS (fun s=>s=⟨[(0,.one (.c (dM (x0.map eEndpoint)))),(3,.one (.c (.pt 0 0))),(5,.one (.c (dI o1)))],[some (.box [dS x1.Pod,dS x1.Node,dI x1.Address,dB x1.Ready,dB x1.Terminating])]⟩) ?_ ?_
 ·have h:=ho
  clear ho
  refine ww ?_
  refine bL (fun j s=>∃(o1_0:Int),s=⟨[(0,.one (.c (dM (x0.map eEndpoint)))),(3,.one (.c (.pt 0 0))),(5,.one (.c (dI o1_0)))],[some (.box [dS x1.Pod,dS x1.Node,dI x1.Address,dB x1.Ready,dB x1.Terminating])]⟩∧F31_l1 x0 x1 j o1_0=some o1) 1099511627776 [some 0] ⟨0,rfl,h⟩ ?_
  rintro j _ ⟨o1_0,rfl,h⟩
  cases j with
  |zero=>cases(show(none:Option _)=some _ from h)
  |succ j=>
   rw[F31_l1]at h
   refine ww ?_
   obtain⟨o2,ho,h⟩:=bi h
   refine cutS (fun s=>s=⟨[(0,.one (.c (dM (x0.map eEndpoint)))),(3,.one (.c (.pt 0 0))),(5,.one (.c (dI o1_0))),(20,.one (.c (dB o2)))],[some (.box [dS x1.Pod,dS x1.Node,dI x1.Address,dB x1.Ready,dB x1.Terminating])]⟩) ?_ ?_
   ·have h:=ho
    clear ho
    refine ww ?_
    refine guardDh h (fun g3 h=>?_) (fun g3 h=>?_)
    ·refine ww ?_
     obtain⟨y4,hy4,h⟩:=bi h
     refine t_idxF (enc:=eEndpoint) (xs:=x0) rfl rfl hy4 rfl (ww ?_)
     cases h
     exact eM [some 0] rfl
    ·refine ww ?_
     cases h
     exact eM [some 0] rfl
   ·rintro _ rfl
    clear ho
    refine ww ?_
    refine condBh h (fun c5 h=>?_) (fun c5 h=>?_)
    ·refine ww ?_
     exact eL' j [some 0] ⟨(IntKind.i64.wrap (o1_0+1)),rfl,h⟩ (Nat.lt_succ_self _)
    ·refine ww ?_
     cases h
     exact eM [some 0] rfl
 rintro _ rfl
 clear ho
 refine ww ?_
 refine t_bslice (enc:=eEndpoint) (ys:=([]:List Endpoint)) rfl rfl (by simp[A1.cells]) (by first|rfl|(simp only[List.drop_zero,take_mapL];rfl)|(simp only[lit,List.map_cons,List.map_nil,List.drop_zero,take_mapL,EE.down];done)|(simp only[lit,List.map_cons,List.map_nil,List.drop_zero,take_mapL,EE.down];rfl)) (ww ?_)
 obtain⟨s6,hs6,h⟩:=bi h
 refine t_slice (enc:=eEndpoint) (xs:=x0) rfl rfl rfl (fun _=>rfl) hs6 (ww ?_)
 obtain⟨a7,ha7,h⟩:=bi h
 refine t_app (enc:=eEndpoint) (xs:=([]:List Endpoint)) rfl rfl (by first|rfl|simp only[List.length_set]|exact(clrL_len (slI_len (by assumption))).symm) rfl (rows_frz (enc:=eEndpoint) (fun _=>rfl)) ha7 (ww ?_)
 refine t_bslice (enc:=eEndpoint) (ys:=[x1]) rfl rfl (by simp[A1.cells]) (by first|rfl|(simp only[List.drop_zero,take_mapL];rfl)|(simp only[lit,List.map_cons,List.map_nil,List.drop_zero,take_mapL,EE.down];done)|(simp only[lit,List.map_cons,List.map_nil,List.drop_zero,take_mapL,EE.down];rfl)) (ww ?_)
 obtain⟨a8,ha8,h⟩:=bi h
 refine t_app (enc:=eEndpoint) (xs:=a7) rfl rfl (by first|rfl|simp only[List.length_set]|exact(clrL_len (slI_len (by assumption))).symm) rfl (rows_full (enc:=eEndpoint) (by first|rfl|simp only[List.length_set]|exact(clrL_len (slI_len (by assumption))).symm) rfl) ha8 (ww ?_)
 obtain⟨s9,hs9,h⟩:=bi h
 refine t_slice (enc:=eEndpoint) (xs:=x0) rfl rfl rfl (fun _=>rfl) hs9 (ww ?_)
 obtain⟨a10,ha10,h⟩:=bi h
 refine t_app (enc:=eEndpoint) (xs:=a8) rfl rfl (by first|rfl|simp only[List.length_set]|exact(clrL_len (slI_len (by assumption))).symm) rfl (rows_frz (enc:=eEndpoint) (fun _=>rfl)) ha10 (ww ?_)
 cases h
 exact eF [some 1]
def F11_l1(x0:Service):List Pod→Nat→(List Endpoint)→Option ((List Endpoint))
 |[],o1_1,o1_0=>some o1_0
 |xo1::xs,o1_1,o1_0=>(((F30 x0 xo1).bind fun t4=>(if t4=true then(F19 xo1.Meta).bind fun t6=>(if xo1.Status.Ready=true then(F31 o1_0 ((⟨t6,xo1.Spec.Node,xo1.Status.Address,nb xo1.Meta.Deleting,xo1.Meta.Deleting⟩:Endpoint))).bind fun t8=>some t8 else(F31 o1_0 ((⟨t6,xo1.Spec.Node,xo1.Status.Address,false,xo1.Meta.Deleting⟩:Endpoint))).bind fun t9=>some t9)else some o1_0)).bind fun o3=>F11_l1 x0 xs (o1_1+1) o3)
def F11(x0:Service)(x1:(List Pod)):Option ((List Endpoint)):=(((ck (0≤x1.length∧x1.length≤4294967290)).bind fun u10=>F11_l1 x0 x1 0 ([])).bind fun o1=>some o1)
def a11:AFn:=⟨58,[(.cell 4 (some 15))],
 (.seq (.reg [sq 2 (.box (.t 0)),
sq 4 (.zbox [dS ⟨#[]⟩,dS ⟨#[]⟩,dS ⟨#[]⟩,dI 0,dI 0,dI 0,dI 0,dB false,dI 0,dN,dN,dN,dN,dN,dN])])
 (.seq (.reg [sq 8 (.fieldA 0 (.t 2)),
sq 9 (.fieldA 1 (.t 8)),
sq 10 (.load none (.t 9)),
sq 11 (.fieldA 0 (.t 2)),
sq 12 (.fieldA 2 (.t 11)),
sq 13 (.load none (.t 12)),
sq 14 (.build [dS ⟨#[]⟩,dS ⟨#[]⟩,dS ⟨#[]⟩,dI 0,dI 0,dI 0,dI 0,dB false,dI 0,dN,dN,dN,dN] [(0,1,(kS ⟨#[69,110,100,112,111,105,110,116,83,101,116]⟩)),(1,1,(.t 10)),(2,1,(.t 13))]),
sq 15 (.fieldA 14 (.t 2)),
sq 16 (.load none (.t 15)),
sq 17 (.build [dS ⟨#[]⟩,dS ⟨#[]⟩,dS ⟨#[]⟩,dI 0,dI 0,dI 0,dI 0,dB false,dI 0,dN,dN,dN,dN,dN,dN] [(0,13,(.t 14)),(13,1,(.t 16))]),
sq 5 (.zbox [dS ⟨#[]⟩,dS ⟨#[]⟩,dS ⟨#[]⟩,dI 0,dI 0,dI 0,dI 0,dB false,dI 0,dN,dN,dN,dN,dN,dN]),
su (.store 15 (.t 5) (.t 17))])
 (.seq (.seq (.reg [sq 6 (.mv (kI 0))])
 (.sem (.block 0 (.loop (.seq (.seq (.reg [sq 18 (.mv (.t 6)),
sq 19 (.mv (.t 1)),
sq 20 (.len (.t 19)),
sq 21 (.bin .lss (.t 18) (.t 20))])
 (.cond (.t 21)
 .skip
 (.exit 0)))
 (.seq (.sem (.block 1 (.seq (.reg [sq 24 (.mv (.t 1)),
sq 25 (.mv (.t 6)),
sq 26 (.indexA 32 (.t 24) (.t 25)),
sq 27 (.load (some 32) (.t 26)),
sq 7 (.zbox [dS ⟨#[]⟩,dS ⟨#[]⟩,dS ⟨#[]⟩,dI 0,dI 0,dI 0,dI 0,dB false,dI 0,dN,dN,dN,dN,dS ⟨#[]⟩,dI 0,dI 0,dI 0,dN,dN,dN,dN,dN,dN,dI 0,dB false,dI 0,dI 0,dI 0,dN,dI 0,dS ⟨#[]⟩,dS ⟨#[]⟩]),
su (.store 32 (.t 7) (.t 27))])
 (.seq (.reg [sq 28 (.load (some 17) (.t 2)),
sq 29 (.load (some 32) (.t 7)),
zl 30 (.call 30 [(.t 28),(.t 29)]) [] [2,7]])
 (.cond (.t 30)
 (.regd [sq 31 (.fieldA 14 (.t 5)),
sd 32 (.load none (.t 31)) [0],
sq 33 (.fieldA 0 (.t 7)),
sd 34 (.load (some 13) (.t 33)) [2],
zn 35 (.call 19 [(.t 34)]) [2,3] [2,3],
sq 36 (.fieldA 13 (.t 7)),
sd 37 (.fieldA 0 (.t 36)) [5],
sd 38 (.load none (.t 37)) [5,6],
sq 39 (.fieldA 23 (.t 7)),
sd 40 (.fieldA 6 (.t 39)) [8],
sd 41 (.load none (.t 40)) [8,9],
sq 42 (.fieldA 23 (.t 7)),
sd 43 (.fieldA 1 (.t 42)) [11],
sd 44 (.load none (.t 43)) [11,12],
sd 45 (.mv (.t 44)) [2,3,4,11,12,13],
⟨(some 46),(some (45,true)),.fieldA 0 (.t 7),[2,3,4,11,12,13,14],(.new [])⟩,
⟨(some 47),(some (45,true)),.fieldA 7 (.t 46),[2,3,4,11,12,13,14,15],(.new [])⟩,
⟨(some 48),(some (45,true)),.load none (.t 47),[2,3,4,11,12,13,14,15,16],(.new [])⟩,
⟨(some 49),(some (45,true)),.not (.t 48),[2,3,4,11,12,13,14,15,16,17],(.new [])⟩,
sd 50 (.pick (.t 45) (.t 49) (kB false)) [2,3,4,11,12,13,14,15,16,17,18],
sq 51 (.fieldA 0 (.t 7)),
sd 52 (.fieldA 7 (.t 51)) [20],
sd 53 (.load none (.t 52)) [20,21],
zl 54 (.build [dS ⟨#[]⟩,dS ⟨#[]⟩,dI 0,dB false,dB false] [(0,1,(.t 35)),(1,1,(.t 38)),(2,1,(.t 41)),(3,1,(.t 50)),(4,1,(.t 53))]) [2,3,4,5,6,7,8,9,10,11,12,13,14,15,16,17,18,19,20,21,22] [5,31],
zl 55 (.call 31 [(.t 32),(.t 54)]) [0,1,2,3,4,5,6,7,8,9,10,11,12,13,14,15,16,17,18,19,20,21,22,23] [],
sd 56 (.fieldA 14 (.t 5)) [0,1,2,3,4,5,6,7,8,9,10,11,12,13,14,15,16,17,18,19,20,21,22,23,24],
⟨none,none,.store 1 (.t 56) (.t 55),[0,1,2,3,4,5,6,7,8,9,10,11,12,13,14,15,16,17,18,19,20,21,22,23,24,25],(.lone [])⟩])
 .skip)))))
 (.reg [sq 22 (.mv (.t 6)),
sq 23 (.bin .add (.t 22) (kI 1)),
sq 6 (.mv (.t 23))])))))))
 (.seq (.reg [sq 57 (.load (some 15) (.t 5)),
⟨none,none,.store 15 (.t 4) (.t 57),[],(.lone [5])⟩])
 .ret))))⟩
theorem F11_ok{x0 x1 r}(h:F11 x0 x1=some r):CallD Try.prog 11 [.agg [dS x0.Meta.Kind,dS x0.Meta.Namespace,dS x0.Meta.Name,dI x0.Meta.Uid,dI x0.Meta.Version,dI x0.Meta.Generation,dI x0.Meta.Created,dB x0.Meta.Deleting,dI x0.Meta.DeleteAt,dM (x0.Meta.Labels.map eLabel),dM (x0.Meta.Owners.map eOwner),dM (x0.Meta.Finalizers.map eS),dM (x0.Meta.Managers.map eManager),dM (x0.Selector.map eRequirement),dM (x0.Ports.map eServicePort),dB x0.Sticky,dI x0.Address],.c (dM (x1.map ePod))] [] (tupV [.agg [dS ((⟨#[69,110,100,112,111,105,110,116,83,101,116]⟩:ByteArray)),dS x0.Meta.Namespace,dS x0.Meta.Name,dI 0,dI 0,dI 0,dI 0,dB false,dI 0,dM (([]:List Label).map eLabel),dM (([]:List Owner).map eOwner),dM (([]:List ByteArray).map eS),dM (([]:List Manager).map eManager),dM (x0.Ports.map eServicePort),.own 0 0 0 (r.length) none]]) [some (.arr 0 5 (r.map eEndpoint))]:=by
 rw[F11]at h
 refine zc a11 (by kernel_rfl) rfl (ww ?_)
 obtain⟨o1,ho,h⟩:=bi h
 refine cutS (fun s=>s=⟨[(4,.one (.c (.pt 0 0))),(5,.one (.c (.pt 1 0)))],[some (.box [dS ((⟨#[]⟩:ByteArray)),dS ((⟨#[]⟩:ByteArray)),dS ((⟨#[]⟩:ByteArray)),dI 0,dI 0,dI 0,dI 0,dB false,dI 0,dN,dN,dN,dN,dN,dN]),some (.box [dS ((⟨#[69,110,100,112,111,105,110,116,83,101,116]⟩:ByteArray)),dS x0.Meta.Namespace,dS x0.Meta.Name,dI 0,dI 0,dI 0,dI 0,dB false,dI 0,dN,dN,dN,dN,dM (x0.Ports.map eServicePort),.own 2 0 0 (o1.length) none]),some (.arr 0 5 (o1.map eEndpoint))]⟩) ?_ ?_
 ·have h:=ho
  clear ho
  obtain⟨_,hk,h⟩:=bi h
  have hk:=ck_some hk
  refine ww ?_
  refine bL (fun j s=>∃(o1_1:Nat) (o1_0:List Endpoint),(o1_1≤x1.length∧j=x1.length-o1_1)∧s=⟨[(1,.one (.c (dM (x1.map ePod)))),(2,.one (.c (.pt 0 0))),(4,.one (.c (.pt 1 0))),(5,.one (.c (.pt 2 0))),(6,.one (.c (dI ((o1_1:Int)))))],[some (.box [dS x0.Meta.Kind,dS x0.Meta.Namespace,dS x0.Meta.Name,dI x0.Meta.Uid,dI x0.Meta.Version,dI x0.Meta.Generation,dI x0.Meta.Created,dB x0.Meta.Deleting,dI x0.Meta.DeleteAt,dM (x0.Meta.Labels.map eLabel),dM (x0.Meta.Owners.map eOwner),dM (x0.Meta.Finalizers.map eS),dM (x0.Meta.Managers.map eManager),dM (x0.Selector.map eRequirement),dM (x0.Ports.map eServicePort),dB x0.Sticky,dI x0.Address]),some (.box [dS ((⟨#[]⟩:ByteArray)),dS ((⟨#[]⟩:ByteArray)),dS ((⟨#[]⟩:ByteArray)),dI 0,dI 0,dI 0,dI 0,dB false,dI 0,dN,dN,dN,dN,dN,dN]),some (.box [dS ((⟨#[69,110,100,112,111,105,110,116,83,101,116]⟩:ByteArray)),dS x0.Meta.Namespace,dS x0.Meta.Name,dI 0,dI 0,dI 0,dI 0,dB false,dI 0,dN,dN,dN,dN,dM (x0.Ports.map eServicePort),.own 3 0 0 (o1_0.length) none]),some (.arr 0 5 (o1_0.map eEndpoint))]⟩∧F11_l1 x0 (x1.drop o1_1) o1_1 o1_0=some o1) (x1.length-0) [some 0,some 1,some 2,none] ⟨0,[],⟨hk.1,rfl⟩,rfl,h⟩ ?_
  rintro _ _ ⟨o1_1,o1_0,⟨hi,rfl⟩,rfl,h⟩
  refine ww ?_
  refine condS (fun c2=>?_) (fun c2=>?_)
  ·obtain⟨xo1,hxo1,hd⟩:=countY (show(o1_1:Int)<(x1.length:Int)from c2)
   rw[hd,F11_l1]at h
   refine ww ?_
   obtain⟨o3,ho,h⟩:=bi h
   refine cutS (fun s=>s=⟨[(1,.one (.c (dM (x1.map ePod)))),(2,.one (.c (.pt 0 0))),(4,.one (.c (.pt 1 0))),(5,.one (.c (.pt 2 0))),(6,.one (.c (dI ((o1_1:Int)))))],[some (.box [dS x0.Meta.Kind,dS x0.Meta.Namespace,dS x0.Meta.Name,dI x0.Meta.Uid,dI x0.Meta.Version,dI x0.Meta.Generation,dI x0.Meta.Created,dB x0.Meta.Deleting,dI x0.Meta.DeleteAt,dM (x0.Meta.Labels.map eLabel),dM (x0.Meta.Owners.map eOwner),dM (x0.Meta.Finalizers.map eS),dM (x0.Meta.Managers.map eManager),dM (x0.Selector.map eRequirement),dM (x0.Ports.map eServicePort),dB x0.Sticky,dI x0.Address]),some (.box [dS ((⟨#[]⟩:ByteArray)),dS ((⟨#[]⟩:ByteArray)),dS ((⟨#[]⟩:ByteArray)),dI 0,dI 0,dI 0,dI 0,dB false,dI 0,dN,dN,dN,dN,dN,dN]),some (.box [dS ((⟨#[69,110,100,112,111,105,110,116,83,101,116]⟩:ByteArray)),dS x0.Meta.Namespace,dS x0.Meta.Name,dI 0,dI 0,dI 0,dI 0,dB false,dI 0,dN,dN,dN,dN,dM (x0.Ports.map eServicePort),.own 3 0 0 (o3.length) none]),some (.arr 0 5 (o3.map eEndpoint))]⟩) ?_ ?_
   ·have h:=ho
    clear ho
    refine ww ?_
    refine t_idxF (enc:=ePod) (xs:=x1) rfl rfl hxo1 rfl (ww ?_)
    obtain⟨t4,ht4,h⟩:=bi h
    refine cN [] (F30_ok ht4) trivial (ww ?_)
    refine condBh h (fun c5 h=>?_) (fun c5 h=>?_)
    ·refine ww ?_
     obtain⟨t6,ht6,h⟩:=bi h
     refine cN [] (F19_ok ht6) trivial (ww ?_)
     refine guardDBh h (fun g7 h=>?_) (fun g7 h=>?_)
     ·refine ww ?_
      obtain⟨t8,ht8,h⟩:=bi h
      refine callX_borF (F31_ok ht8) (by simp only[borAs,bors,hp,List.getElem?_cons_zero,List.getElem?_cons_succ,Option.join_some,List.drop_zero,bor_full',true_and,Nat.zero_add,List.length_map,Nat.le_refl,nrm,List.length_cons,List.length_nil,Nat.reduceAdd,Nat.reduceLeDiff,List.take_succ_cons,List.take_zero,List.take_nil,List.map_cons,List.map_nil,List.length_set,EE.down]) rfl ⟨flat_rows (enc:=eEndpoint) (fun _=>rfl) _,trivial⟩ ?_
      refine ww ?_
      cases h
      exact eM [some 0,some 1,some 2,some 5] rfl
     refine ww ?_
     obtain⟨t9,ht9,h⟩:=bi h
     refine callX_borF (F31_ok ht9) (by simp only[borAs,bors,hp,List.getElem?_cons_zero,List.getElem?_cons_succ,Option.join_some,List.drop_zero,bor_full',true_and,Nat.zero_add,List.length_map,Nat.le_refl,nrm,List.length_cons,List.length_nil,Nat.reduceAdd,Nat.reduceLeDiff,List.take_succ_cons,List.take_zero,List.take_nil,List.map_cons,List.map_nil,List.length_set,EE.down]) rfl ⟨flat_rows (enc:=eEndpoint) (fun _=>rfl) _,trivial⟩ ?_
     refine ww ?_
     cases h
     exact eM [some 0,some 1,some 2,some 5] rfl
    refine ww ?_
    cases h
    exact eM [some 0,some 1,some 2,some 3] rfl
   rintro _ rfl
   clear ho
   refine ww ?_
   rw[wrapN (by omega)]
   exact eL' (x1.length-(o1_1+1)) [some 0,some 1,some 2,some 3] ⟨o1_1+1,o3,⟨by omega,rfl⟩,rfl,h⟩ (by omega)
  rw[countN (show¬((o1_1:Int)<(x1.length:Int))from c2),F11_l1]at h
  refine ww ?_
  cases h
  exact eM [some 1,some 2,some 3] rfl
 rintro _ rfl
 clear ho
 refine ww ?_
 cases h
 exact eF [some 2]
def F32_l2(x1:(List Label)):List Label→Nat→Option ((Bool) ⊕ (Unit))
 |[],o2_0=>some (Sum.inr (()))
 |xo2::xs,o2_0=>(rdI x1 ((o2_0:Int))).bind fun y4=>(if¬(xo2.Key=y4.Key∧xo2.Value=y4.Value)then(some false).map Sum.inl else F32_l2 x1 xs (o2_0+1))
def F32(x0:(List Label))(x1:(List Label)):Option (Bool):=(if¬((x0.length:Int)=(x1.length:Int))then some false else(((ck (0≤x0.length∧x0.length≤4294967290)).bind fun u6=>F32_l2 x1 x0 0:Option ((Bool) ⊕ (Unit))).bind fun o2=>match o2 with|Sum.inl f=>some f|Sum.inr po2=>some true))
def a32:AFn:=⟨26,[(.tmp 4)],
 (.seq (.reg [sq 4 (.mv (kB false))])
 (.seq (.seq (.reg [sq 6 (.mv (.t 0)),
sq 7 (.len (.t 6)),
sq 8 (.mv (.t 1)),
sq 9 (.len (.t 8)),
sq 10 (.bin .neq (.t 7) (.t 9))])
 (.cond (.t 10)
 (.seq (.reg [sq 4 (.mv (kB false))])
 .ret)
 .skip))
 (.seq (.seq (.reg [sq 5 (.mv (kI 0))])
 (.sem (.block 0 (.loop (.seq (.seq (.reg [sq 11 (.mv (.t 5)),
sq 12 (.mv (.t 0)),
sq 13 (.len (.t 12)),
sq 14 (.bin .lss (.t 11) (.t 13))])
 (.cond (.t 14)
 .skip
 (.exit 0)))
 (.seq (.block 1 (.seq (.regd [sq 17 (.mv (.t 0)),
sq 18 (.mv (.t 5)),
sd 19 (.indexA 2 (.t 17) (.t 18)) [0,1],
sd 20 (.load (some 2) (.t 19)) [0,1,2],
sq 21 (.mv (.t 1)),
sq 22 (.mv (.t 5)),
sd 23 (.indexA 2 (.t 21) (.t 22)) [4,5],
sd 24 (.load (some 2) (.t 23)) [4,5,6],
zl 25 (.eqs true [(0,2),(1,2)] (.t 20) (.t 24)) [0,1,2,3,4,5,6,7] []])
 (.cond (.t 25)
 (.seq (.reg [sq 4 (.mv (kB false))])
 .ret)
 .skip)))
 (.reg [sq 15 (.mv (.t 5)),
sq 16 (.bin .add (.t 15) (kI 1)),
sq 5 (.mv (.t 16))])))))))
 (.seq (.reg [sq 4 (.mv (kB true))])
 .ret))))⟩
theorem F32_ok{x0 x1 r}(h:F32 x0 x1=some r):CallD Try.prog 32 [.c (dM (x0.map eLabel)),.c (dM (x1.map eLabel))] [] (tupV [.c (dB r)]) []:=by
 rw[F32]at h
 refine zc a32 (by kernel_rfl) rfl (ww ?_)
 refine condSh h (fun c1 h=>?_) (fun c1 h=>?_)
 ·refine ww ?_
  cases h
  exact eF []
 refine ww ?_
 obtain⟨o2,ho,h⟩:=bi h
 refine cutS (fun s=>∃po2,o2=Sum.inr po2∧s=⟨[],[]⟩) ?_ ?_
 ·have h0o2:=h
  have h:=ho
  clear ho
  obtain⟨_,hk,h⟩:=bi h
  have hk:=ck_some hk
  refine ww ?_
  refine bL (fun j s=>∃(o2_0:Nat),(o2_0≤x0.length∧j=x0.length-o2_0)∧s=⟨[(0,.one (.c (dM (x0.map eLabel)))),(1,.one (.c (dM (x1.map eLabel)))),(5,.one (.c (dI ((o2_0:Int)))))],[]⟩∧F32_l2 x1 (x0.drop o2_0) o2_0=some o2) (x0.length-0) [] ⟨0,⟨hk.1,rfl⟩,rfl,h⟩ ?_
  rintro _ _ ⟨o2_0,⟨hi,rfl⟩,rfl,h⟩
  refine ww ?_
  refine condS (fun c3=>?_) (fun c3=>?_)
  ·obtain⟨xo2,hxo2,hd⟩:=countY (show(o2_0:Int)<(x0.length:Int)from c3)
   rw[hd,F32_l2]at h
   refine ww ?_
   refine t_idxF (enc:=eLabel) (xs:=x0) rfl rfl hxo2 rfl (ww ?_)
   obtain⟨y4,hy4,h⟩:=bi h
   refine t_idxF (enc:=eLabel) (xs:=x1) rfl rfl hy4 rfl (ww ?_)
   refine condSh h (fun c5 h=>?_) (fun c5 h=>?_)
   ·refine ww ?_
    obtain⟨fh0o2,hfh0o2,rfl⟩:=Option.map_eq_some_iff.1 h
    have h:=hfh0o2.trans h0o2
    cases h
    exact eF []
   refine ww ?_
   rw[wrapN (by omega)]
   exact eL' (x0.length-(o2_0+1)) [] ⟨o2_0+1,⟨by omega,rfl⟩,rfl,h⟩ (by omega)
  rw[countN (show¬((o2_0:Int)<(x0.length:Int))from c3),F32_l2]at h
  refine ww ?_
  cases h
  exact eM [] ⟨_,rfl,rfl⟩
 rintro _ ⟨po2,rfl,rfl⟩
 clear ho
 dsimp only at h
 refine ww ?_
 cases h
 exact eF []
def F12_l18(x1:Meta):List Owner→Nat→Option ((Bool) ⊕ (Unit))
 |[],o18_0=>some (Sum.inr (()))
 |xo18::xs,o18_0=>(rdI x1.Owners ((o18_0:Int))).bind fun y20=>(if(nb ((decide (xo18.Kind=y20.Kind)&&(decide (xo18.Name=y20.Name)&&(decide (xo18.Uid=y20.Uid)&&((xo18.Controller==y20.Controller)&&(xo18.Block==y20.Block)))))))=true then(some false).map Sum.inl else F12_l18 x1 xs (o18_0+1))
def F12_l23(x1:Meta):List Manager→Nat→Option ((Bool) ⊕ (Unit))
 |[],o23_0=>some (Sum.inr (()))
 |xo23::xs,o23_0=>(((rdI x1.Managers ((o23_0:Int))).bind fun y26=>(if¬(xo23.Name=y26.Name)then some true else(F16 xo23.Fields y26.Fields).bind fun t28=>some (nb t28))).bind fun o25=>(if o25=true then(some false).map Sum.inl else F12_l23 x1 xs (o23_0+1)))
def F12(x0:Meta)(x1:Meta):Option (Bool):=(((if¬(x0.Kind=x1.Kind)then some true else(if¬(x0.Namespace=x1.Namespace)then some true else(if¬(x0.Name=x1.Name)then some true else(if¬(x0.Uid=x1.Uid)then some true else(if¬(x0.Version=x1.Version)then some true else(if¬(x0.Generation=x1.Generation)then some true else(if¬(x0.Created=x1.Created)then some true else(if(((x0.Deleting==x1.Deleting)!=true))=true then some true else some (decide (¬(x0.DeleteAt=x1.DeleteAt)))))))))))).bind fun o1=>(if o1=true then some false else(((F32 x0.Labels x1.Labels).bind fun t12=>(if(nb t12)=true then some true else(F16 x0.Finalizers x1.Finalizers).bind fun t14=>(if(nb t14)=true then some true else(if¬((x0.Owners.length:Int)=(x1.Owners.length:Int))then some true else some (decide (¬((x0.Managers.length:Int)=(x1.Managers.length:Int)))))))).bind fun o11=>(if o11=true then some false else(((ck (0≤x0.Owners.length∧x0.Owners.length≤4294967290)).bind fun u22=>F12_l18 x1 x0.Owners 0:Option ((Bool) ⊕ (Unit))).bind fun o18=>match o18 with|Sum.inl f=>some f|Sum.inr po18=>(((ck (0≤x0.Managers.length∧x0.Managers.length≤4294967290)).bind fun u30=>F12_l23 x1 x0.Managers 0:Option ((Bool) ⊕ (Unit))).bind fun o23=>match o23 with|Sum.inl f=>some f|Sum.inr po23=>some true))))))
def a12:AFn:=⟨154,[(.tmp 4)],
 (.seq (.reg [sq 2 (.box (.t 0)),
sq 3 (.box (.t 1)),
sq 4 (.mv (kB false))])
 (.seq (.seq (.sem (.reg [sq 7 (.fieldA 0 (.t 2)),
sq 8 (.load none (.t 7)),
sq 9 (.fieldA 0 (.t 3)),
sq 10 (.load none (.t 9)),
sq 11 (.bin .neq (.t 8) (.t 10)),
sq 12 (.mv (.t 11)),
zg 13 12 false (.fieldA 1 (.t 2)),
zg 14 12 false (.load none (.t 13)),
zg 15 12 false (.fieldA 1 (.t 3)),
zg 16 12 false (.load none (.t 15)),
zg 17 12 false (.bin .neq (.t 14) (.t 16)),
sq 18 (.pick (.t 12) (kB true) (.t 17)),
sq 19 (.mv (.t 18)),
zg 20 19 false (.fieldA 2 (.t 2)),
zg 21 19 false (.load none (.t 20)),
zg 22 19 false (.fieldA 2 (.t 3)),
zg 23 19 false (.load none (.t 22)),
zg 24 19 false (.bin .neq (.t 21) (.t 23)),
sq 25 (.pick (.t 19) (kB true) (.t 24)),
sq 26 (.mv (.t 25)),
zg 27 26 false (.fieldA 3 (.t 2)),
zg 28 26 false (.load none (.t 27)),
zg 29 26 false (.fieldA 3 (.t 3)),
zg 30 26 false (.load none (.t 29)),
zg 31 26 false (.bin .neq (.t 28) (.t 30)),
sq 32 (.pick (.t 26) (kB true) (.t 31)),
sq 33 (.mv (.t 32)),
zg 34 33 false (.fieldA 4 (.t 2)),
zg 35 33 false (.load none (.t 34)),
zg 36 33 false (.fieldA 4 (.t 3)),
zg 37 33 false (.load none (.t 36)),
zg 38 33 false (.bin .neq (.t 35) (.t 37)),
sq 39 (.pick (.t 33) (kB true) (.t 38)),
sq 40 (.mv (.t 39)),
zg 41 40 false (.fieldA 5 (.t 2)),
zg 42 40 false (.load none (.t 41)),
zg 43 40 false (.fieldA 5 (.t 3)),
zg 44 40 false (.load none (.t 43)),
zg 45 40 false (.bin .neq (.t 42) (.t 44)),
sq 46 (.pick (.t 40) (kB true) (.t 45)),
sq 47 (.mv (.t 46)),
zg 48 47 false (.fieldA 6 (.t 2)),
zg 49 47 false (.load none (.t 48)),
zg 50 47 false (.fieldA 6 (.t 3)),
zg 51 47 false (.load none (.t 50)),
zg 52 47 false (.bin .neq (.t 49) (.t 51)),
sq 53 (.pick (.t 47) (kB true) (.t 52)),
sq 54 (.mv (.t 53)),
zg 55 54 false (.fieldA 7 (.t 2)),
zg 56 54 false (.load none (.t 55)),
zg 57 54 false (.fieldA 7 (.t 3)),
zg 58 54 false (.load none (.t 57)),
zg 59 54 false (.beq true (.t 56) (.t 58)),
sq 60 (.pick (.t 54) (kB true) (.t 59)),
sq 61 (.mv (.t 60)),
zg 62 61 false (.fieldA 8 (.t 2)),
zg 63 61 false (.load none (.t 62)),
zg 64 61 false (.fieldA 8 (.t 3)),
zg 65 61 false (.load none (.t 64)),
zg 66 61 false (.bin .neq (.t 63) (.t 65)),
sq 67 (.pick (.t 61) (kB true) (.t 66))]))
 (.cond (.t 67)
 (.seq (.reg [sq 4 (.mv (kB false))])
 .ret)
 .skip))
 (.seq (.seq (.sem (.reg [sq 68 (.fieldA 9 (.t 2)),
sq 69 (.load none (.t 68)),
sq 70 (.fieldA 9 (.t 3)),
sq 71 (.load none (.t 70)),
sq 72 (.call 32 [(.t 69),(.t 71)]),
sq 73 (.not (.t 72)),
sq 74 (.mv (.t 73)),
zg 75 74 false (.fieldA 11 (.t 2)),
zg 76 74 false (.load none (.t 75)),
zg 77 74 false (.fieldA 11 (.t 3)),
zg 78 74 false (.load none (.t 77)),
zg 79 74 false (.call 16 [(.t 76),(.t 78)]),
zg 80 74 false (.not (.t 79)),
sq 81 (.pick (.t 74) (kB true) (.t 80)),
sq 82 (.mv (.t 81)),
zg 83 82 false (.fieldA 10 (.t 2)),
zg 84 82 false (.load none (.t 83)),
zg 85 82 false (.len (.t 84)),
zg 86 82 false (.fieldA 10 (.t 3)),
zg 87 82 false (.load none (.t 86)),
zg 88 82 false (.len (.t 87)),
zg 89 82 false (.bin .neq (.t 85) (.t 88)),
sq 90 (.pick (.t 82) (kB true) (.t 89)),
sq 91 (.mv (.t 90)),
zg 92 91 false (.fieldA 12 (.t 2)),
zg 93 91 false (.load none (.t 92)),
zg 94 91 false (.len (.t 93)),
zg 95 91 false (.fieldA 12 (.t 3)),
zg 96 91 false (.load none (.t 95)),
zg 97 91 false (.len (.t 96)),
zg 98 91 false (.bin .neq (.t 94) (.t 97)),
sq 99 (.pick (.t 91) (kB true) (.t 98))]))
 (.cond (.t 99)
 (.seq (.reg [sq 4 (.mv (kB false))])
 .ret)
 .skip))
 (.seq (.seq (.reg [sq 5 (.mv (kI 0))])
 (.sem (.block 0 (.loop (.seq (.seq (.reg [sq 100 (.mv (.t 5)),
sq 101 (.fieldA 10 (.t 2)),
sq 102 (.load none (.t 101)),
sq 103 (.len (.t 102)),
sq 104 (.bin .lss (.t 100) (.t 103))])
 (.cond (.t 104)
 .skip
 (.exit 0)))
 (.seq (.block 1 (.seq (.regd [sq 107 (.fieldA 10 (.t 2)),
sd 108 (.load none (.t 107)) [0],
sq 109 (.mv (.t 5)),
sd 110 (.indexA 5 (.t 108) (.t 109)) [0,1,2],
sd 111 (.load (some 5) (.t 110)) [0,1,2,3],
sq 112 (.fieldA 10 (.t 3)),
sd 113 (.load none (.t 112)) [5],
sq 114 (.mv (.t 5)),
sd 115 (.indexA 5 (.t 113) (.t 114)) [5,6,7],
sd 116 (.load (some 5) (.t 115)) [5,6,7,8],
zl 117 (.eqs true [(0,2),(1,2),(2,0),(3,1),(4,1)] (.t 111) (.t 116)) [0,1,2,3,4,5,6,7,8,9] []])
 (.cond (.t 117)
 (.seq (.reg [sq 4 (.mv (kB false))])
 .ret)
 .skip)))
 (.reg [sq 105 (.mv (.t 5)),
sq 106 (.bin .add (.t 105) (kI 1)),
sq 5 (.mv (.t 106))])))))))
 (.seq (.seq (.reg [sq 6 (.mv (kI 0))])
 (.sem (.block 2 (.loop (.seq (.seq (.reg [sq 118 (.mv (.t 6)),
sq 119 (.fieldA 12 (.t 2)),
sq 120 (.load none (.t 119)),
sq 121 (.len (.t 120)),
sq 122 (.bin .lss (.t 118) (.t 121))])
 (.cond (.t 122)
 .skip
 (.exit 2)))
 (.seq (.block 3 (.seq (.sem (.regd [sq 125 (.fieldA 12 (.t 2)),
sd 126 (.load none (.t 125)) [0],
sq 127 (.mv (.t 6)),
sd 128 (.indexA 2 (.t 126) (.t 127)) [0,1,2],
sd 129 (.fieldA 0 (.t 128)) [0,1,2,3],
sd 130 (.load none (.t 129)) [0,1,2,3,4],
sq 131 (.fieldA 12 (.t 3)),
sd 132 (.load none (.t 131)) [6],
sq 133 (.mv (.t 6)),
sd 134 (.indexA 2 (.t 132) (.t 133)) [6,7,8],
sd 135 (.fieldA 0 (.t 134)) [6,7,8,9],
sd 136 (.load none (.t 135)) [6,7,8,9,10],
sd 137 (.bin .neq (.t 130) (.t 136)) [0,1,2,3,4,5,6,7,8,9,10,11],
sd 138 (.mv (.t 137)) [0,1,2,3,4,5,6,7,8,9,10,11,12],
⟨(some 139),(some (138,false)),.fieldA 12 (.t 2),[0,1,2,3,4,5,6,7,8,9,10,11,12,13],(.new [])⟩,
⟨(some 140),(some (138,false)),.load none (.t 139),[0,1,2,3,4,5,6,7,8,9,10,11,12,13,14],(.new [])⟩,
⟨(some 141),(some (138,false)),.mv (.t 6),[0,1,2,3,4,5,6,7,8,9,10,11,12,13],(.new [])⟩,
⟨(some 142),(some (138,false)),.indexA 2 (.t 140) (.t 141),[0,1,2,3,4,5,6,7,8,9,10,11,12,13,14,15,16],(.new [])⟩,
⟨(some 143),(some (138,false)),.fieldA 1 (.t 142),[0,1,2,3,4,5,6,7,8,9,10,11,12,13,14,15,16,17],(.new [])⟩,
⟨(some 144),(some (138,false)),.load none (.t 143),[0,1,2,3,4,5,6,7,8,9,10,11,12,13,14,15,16,17,18],(.new [])⟩,
⟨(some 145),(some (138,false)),.fieldA 12 (.t 3),[0,1,2,3,4,5,6,7,8,9,10,11,12,13],(.new [])⟩,
⟨(some 146),(some (138,false)),.load none (.t 145),[0,1,2,3,4,5,6,7,8,9,10,11,12,13,20],(.new [])⟩,
⟨(some 147),(some (138,false)),.mv (.t 6),[0,1,2,3,4,5,6,7,8,9,10,11,12,13],(.new [])⟩,
⟨(some 148),(some (138,false)),.indexA 2 (.t 146) (.t 147),[0,1,2,3,4,5,6,7,8,9,10,11,12,13,20,21,22],(.new [])⟩,
⟨(some 149),(some (138,false)),.fieldA 1 (.t 148),[0,1,2,3,4,5,6,7,8,9,10,11,12,13,20,21,22,23],(.new [])⟩,
⟨(some 150),(some (138,false)),.load none (.t 149),[0,1,2,3,4,5,6,7,8,9,10,11,12,13,20,21,22,23,24],(.new [])⟩,
⟨(some 151),(some (138,false)),.call 16 [(.t 144),(.t 150)],[0,1,2,3,4,5,6,7,8,9,10,11,12,13,14,15,16,17,18,19,20,21,22,23,24,25],(.lone [])⟩,
⟨(some 152),(some (138,false)),.not (.t 151),[0,1,2,3,4,5,6,7,8,9,10,11,12,13,14,15,16,17,18,19,20,21,22,23,24,25,26],(.new [])⟩,
zl 153 (.pick (.t 138) (kB true) (.t 152)) [0,1,2,3,4,5,6,7,8,9,10,11,12,13,14,15,16,17,18,19,20,21,22,23,24,25,26,27] []]))
 (.cond (.t 153)
 (.seq (.reg [sq 4 (.mv (kB false))])
 .ret)
 .skip)))
 (.reg [sq 123 (.mv (.t 6)),
sq 124 (.bin .add (.t 123) (kI 1)),
sq 6 (.mv (.t 124))])))))))
 (.seq (.reg [sq 4 (.mv (kB true))])
 .ret))))))⟩
theorem F12_ok{x0 x1 r}(h:F12 x0 x1=some r):CallD Try.prog 12 [.agg [dS x0.Kind,dS x0.Namespace,dS x0.Name,dI x0.Uid,dI x0.Version,dI x0.Generation,dI x0.Created,dB x0.Deleting,dI x0.DeleteAt,dM (x0.Labels.map eLabel),dM (x0.Owners.map eOwner),dM (x0.Finalizers.map eS),dM (x0.Managers.map eManager)],.agg [dS x1.Kind,dS x1.Namespace,dS x1.Name,dI x1.Uid,dI x1.Version,dI x1.Generation,dI x1.Created,dB x1.Deleting,dI x1.DeleteAt,dM (x1.Labels.map eLabel),dM (x1.Owners.map eOwner),dM (x1.Finalizers.map eS),dM (x1.Managers.map eManager)]] [] (tupV [.c (dB r)]) []:=by
 rw[F12]at h
 refine zc a12 (by kernel_rfl) rfl (ww ?_)
 obtain⟨o1,ho,h⟩:=bi h
 refine cutS (fun s=>s=⟨[(2,.one (.c (.pt 0 0))),(3,.one (.c (.pt 1 0))),(67,.one (.c (dB o1)))],[some (.box [dS x0.Kind,dS x0.Namespace,dS x0.Name,dI x0.Uid,dI x0.Version,dI x0.Generation,dI x0.Created,dB x0.Deleting,dI x0.DeleteAt,dM (x0.Labels.map eLabel),dM (x0.Owners.map eOwner),dM (x0.Finalizers.map eS),dM (x0.Managers.map eManager)]),some (.box [dS x1.Kind,dS x1.Namespace,dS x1.Name,dI x1.Uid,dI x1.Version,dI x1.Generation,dI x1.Created,dB x1.Deleting,dI x1.DeleteAt,dM (x1.Labels.map eLabel),dM (x1.Owners.map eOwner),dM (x1.Finalizers.map eS),dM (x1.Managers.map eManager)])]⟩) ?_ ?_
 ·have h:=ho
  clear ho
  refine ww ?_
  refine guardSh h (fun g2 h=>?_) (fun g2 h=>?_)
  ·refine ww ?_
   cases h
   exact eM [some 0,some 1] rfl
  refine ww ?_
  refine guardSh h (fun g3 h=>?_) (fun g3 h=>?_)
  ·refine ww ?_
   cases h
   exact eM [some 0,some 1] rfl
  refine ww ?_
  refine guardSh h (fun g4 h=>?_) (fun g4 h=>?_)
  ·refine ww ?_
   cases h
   exact eM [some 0,some 1] rfl
  refine ww ?_
  refine guardSh h (fun g5 h=>?_) (fun g5 h=>?_)
  ·refine ww ?_
   cases h
   exact eM [some 0,some 1] rfl
  refine ww ?_
  refine guardSh h (fun g6 h=>?_) (fun g6 h=>?_)
  ·refine ww ?_
   cases h
   exact eM [some 0,some 1] rfl
  refine ww ?_
  refine guardSh h (fun g7 h=>?_) (fun g7 h=>?_)
  ·refine ww ?_
   cases h
   exact eM [some 0,some 1] rfl
  refine ww ?_
  refine guardSh h (fun g8 h=>?_) (fun g8 h=>?_)
  ·refine ww ?_
   cases h
   exact eM [some 0,some 1] rfl
  refine ww ?_
  refine guardSBh h (fun g9 h=>?_) (fun g9 h=>?_)
  ·refine ww ?_
   cases h
   exact eM [some 0,some 1] rfl
  refine ww ?_
  cases h
  exact eM [some 0,some 1] rfl
 rintro _ rfl
 clear ho
 refine ww ?_
 refine condBh h (fun c10 h=>?_) (fun c10 h=>?_)
 ·refine ww ?_
  cases h
  exact eF []
 refine ww ?_
 obtain⟨o11,ho,h⟩:=bi h
 refine cutS (fun s=>s=⟨[(2,.one (.c (.pt 0 0))),(3,.one (.c (.pt 1 0))),(99,.one (.c (dB o11)))],[some (.box [dS x0.Kind,dS x0.Namespace,dS x0.Name,dI x0.Uid,dI x0.Version,dI x0.Generation,dI x0.Created,dB x0.Deleting,dI x0.DeleteAt,dM (x0.Labels.map eLabel),dM (x0.Owners.map eOwner),dM (x0.Finalizers.map eS),dM (x0.Managers.map eManager)]),some (.box [dS x1.Kind,dS x1.Namespace,dS x1.Name,dI x1.Uid,dI x1.Version,dI x1.Generation,dI x1.Created,dB x1.Deleting,dI x1.DeleteAt,dM (x1.Labels.map eLabel),dM (x1.Owners.map eOwner),dM (x1.Finalizers.map eS),dM (x1.Managers.map eManager)])]⟩) ?_ ?_
 ·have h:=ho
  clear ho
  refine ww ?_
  obtain⟨t12,ht12,h⟩:=bi h
  refine cN [] (F32_ok ht12) trivial (ww ?_)
  refine guardSBh h (fun g13 h=>?_) (fun g13 h=>?_)
  ·refine ww ?_
   cases h
   exact eM [some 0,some 1] rfl
  refine ww ?_
  obtain⟨t14,ht14,h⟩:=bi h
  refine cN [] (F16_ok ht14) trivial (ww ?_)
  refine guardSBh h (fun g15 h=>?_) (fun g15 h=>?_)
  ·refine ww ?_
   cases h
   exact eM [some 0,some 1] rfl
  refine ww ?_
  refine guardSh h (fun g16 h=>?_) (fun g16 h=>?_)
  ·refine ww ?_
   cases h
   exact eM [some 0,some 1] rfl
  refine ww ?_
  cases h
  exact eM [some 0,some 1] rfl
 rintro _ rfl
 clear ho
 refine ww ?_
 refine condBh h (fun c17 h=>?_) (fun c17 h=>?_)
 ·refine ww ?_
  cases h
  exact eF []
 refine ww ?_
 obtain⟨o18,ho,h⟩:=bi h
 refine cutS (fun s=>∃po18,o18=Sum.inr po18∧s=⟨[(2,.one (.c (.pt 0 0))),(3,.one (.c (.pt 1 0)))],[some (.box [dS x0.Kind,dS x0.Namespace,dS x0.Name,dI x0.Uid,dI x0.Version,dI x0.Generation,dI x0.Created,dB x0.Deleting,dI x0.DeleteAt,dM (x0.Labels.map eLabel),dM (x0.Owners.map eOwner),dM (x0.Finalizers.map eS),dM (x0.Managers.map eManager)]),some (.box [dS x1.Kind,dS x1.Namespace,dS x1.Name,dI x1.Uid,dI x1.Version,dI x1.Generation,dI x1.Created,dB x1.Deleting,dI x1.DeleteAt,dM (x1.Labels.map eLabel),dM (x1.Owners.map eOwner),dM (x1.Finalizers.map eS),dM (x1.Managers.map eManager)])]⟩) ?_ ?_
 ·have h0o18:=h
  have h:=ho
  clear ho
  obtain⟨_,hk,h⟩:=bi h
  have hk:=ck_some hk
  refine ww ?_
  refine bL (fun j s=>∃(o18_0:Nat),(o18_0≤x0.Owners.length∧j=x0.Owners.length-o18_0)∧s=⟨[(2,.one (.c (.pt 0 0))),(3,.one (.c (.pt 1 0))),(5,.one (.c (dI ((o18_0:Int)))))],[some (.box [dS x0.Kind,dS x0.Namespace,dS x0.Name,dI x0.Uid,dI x0.Version,dI x0.Generation,dI x0.Created,dB x0.Deleting,dI x0.DeleteAt,dM (x0.Labels.map eLabel),dM (x0.Owners.map eOwner),dM (x0.Finalizers.map eS),dM (x0.Managers.map eManager)]),some (.box [dS x1.Kind,dS x1.Namespace,dS x1.Name,dI x1.Uid,dI x1.Version,dI x1.Generation,dI x1.Created,dB x1.Deleting,dI x1.DeleteAt,dM (x1.Labels.map eLabel),dM (x1.Owners.map eOwner),dM (x1.Finalizers.map eS),dM (x1.Managers.map eManager)])]⟩∧F12_l18 x1 (x0.Owners.drop o18_0) o18_0=some o18) (x0.Owners.length-0) [some 0,some 1] ⟨0,⟨hk.1,rfl⟩,rfl,h⟩ ?_
  rintro _ _ ⟨o18_0,⟨hi,rfl⟩,rfl,h⟩
  refine ww ?_
  refine condS (fun c19=>?_) (fun c19=>?_)
  ·obtain⟨xo18,hxo18,hd⟩:=countY (show(o18_0:Int)<(x0.Owners.length:Int)from c19)
   rw[hd,F12_l18]at h
   refine ww ?_
   refine t_idxF (enc:=eOwner) (xs:=x0.Owners) rfl rfl hxo18 rfl (ww ?_)
   obtain⟨y20,hy20,h⟩:=bi h
   refine t_idxF (enc:=eOwner) (xs:=x1.Owners) rfl rfl hy20 rfl (ww ?_)
   refine condBh h (fun c21 h=>?_) (fun c21 h=>?_)
   ·refine ww ?_
    obtain⟨fh0o18,hfh0o18,rfl⟩:=Option.map_eq_some_iff.1 h
    have h:=hfh0o18.trans h0o18
    cases h
    exact eF []
   refine ww ?_
   rw[wrapN (by omega)]
   exact eL' (x0.Owners.length-(o18_0+1)) [some 0,some 1] ⟨o18_0+1,⟨by omega,rfl⟩,rfl,h⟩ (by omega)
  rw[countN (show¬((o18_0:Int)<(x0.Owners.length:Int))from c19),F12_l18]at h
  refine ww ?_
  cases h
  exact eM [some 0,some 1] ⟨_,rfl,rfl⟩
 rintro _ ⟨po18,rfl,rfl⟩
 clear ho
 dsimp only at h
 refine ww ?_
 obtain⟨o23,ho,h⟩:=bi h
 refine cutS (fun s=>∃po23,o23=Sum.inr po23∧s=⟨[],[]⟩) ?_ ?_
 ·have h0o23:=h
  have h:=ho
  clear ho
  obtain⟨_,hk,h⟩:=bi h
  have hk:=ck_some hk
  refine ww ?_
  refine bL (fun j s=>∃(o23_0:Nat),(o23_0≤x0.Managers.length∧j=x0.Managers.length-o23_0)∧s=⟨[(2,.one (.c (.pt 0 0))),(3,.one (.c (.pt 1 0))),(6,.one (.c (dI ((o23_0:Int)))))],[some (.box [dS x0.Kind,dS x0.Namespace,dS x0.Name,dI x0.Uid,dI x0.Version,dI x0.Generation,dI x0.Created,dB x0.Deleting,dI x0.DeleteAt,dM (x0.Labels.map eLabel),dM (x0.Owners.map eOwner),dM (x0.Finalizers.map eS),dM (x0.Managers.map eManager)]),some (.box [dS x1.Kind,dS x1.Namespace,dS x1.Name,dI x1.Uid,dI x1.Version,dI x1.Generation,dI x1.Created,dB x1.Deleting,dI x1.DeleteAt,dM (x1.Labels.map eLabel),dM (x1.Owners.map eOwner),dM (x1.Finalizers.map eS),dM (x1.Managers.map eManager)])]⟩∧F12_l23 x1 (x0.Managers.drop o23_0) o23_0=some o23) (x0.Managers.length-0) [some 0,some 1] ⟨0,⟨hk.1,rfl⟩,rfl,h⟩ ?_
  rintro _ _ ⟨o23_0,⟨hi,rfl⟩,rfl,h⟩
  refine ww ?_
  refine condS (fun c24=>?_) (fun c24=>?_)
  ·obtain⟨xo23,hxo23,hd⟩:=countY (show(o23_0:Int)<(x0.Managers.length:Int)from c24)
   rw[hd,F12_l23]at h
   refine ww ?_
   obtain⟨o25,ho,h⟩:=bi h
   refine cutS (fun s=>s=⟨[(2,.one (.c (.pt 0 0))),(3,.one (.c (.pt 1 0))),(6,.one (.c (dI ((o23_0:Int))))),(153,.one (.c (dB o25)))],[some (.box [dS x0.Kind,dS x0.Namespace,dS x0.Name,dI x0.Uid,dI x0.Version,dI x0.Generation,dI x0.Created,dB x0.Deleting,dI x0.DeleteAt,dM (x0.Labels.map eLabel),dM (x0.Owners.map eOwner),dM (x0.Finalizers.map eS),dM (x0.Managers.map eManager)]),some (.box [dS x1.Kind,dS x1.Namespace,dS x1.Name,dI x1.Uid,dI x1.Version,dI x1.Generation,dI x1.Created,dB x1.Deleting,dI x1.DeleteAt,dM (x1.Labels.map eLabel),dM (x1.Owners.map eOwner),dM (x1.Finalizers.map eS),dM (x1.Managers.map eManager)])]⟩) ?_ ?_
   ·have h:=ho
    clear ho
    refine ww ?_
    refine t_idxF (enc:=eManager) (xs:=x0.Managers) rfl rfl hxo23 rfl (ww ?_)
    obtain⟨y26,hy26,h⟩:=bi h
    refine t_idxF (enc:=eManager) (xs:=x1.Managers) rfl rfl hy26 rfl (ww ?_)
    refine guardDh h (fun g27 h=>?_) (fun g27 h=>?_)
    ·refine ww ?_
     cases h
     exact eM [some 0,some 1] rfl
    refine ww ?_
    refine t_idxF (enc:=eManager) (xs:=x0.Managers) rfl rfl hxo23 rfl (ww ?_)
    refine t_idxF (enc:=eManager) (xs:=x1.Managers) rfl rfl hy26 rfl (ww ?_)
    obtain⟨t28,ht28,h⟩:=bi h
    refine cN [] (F16_ok ht28) trivial (ww ?_)
    cases h
    exact eM [some 0,some 1] rfl
   rintro _ rfl
   clear ho
   refine ww ?_
   refine condBh h (fun c29 h=>?_) (fun c29 h=>?_)
   ·refine ww ?_
    obtain⟨fh0o23,hfh0o23,rfl⟩:=Option.map_eq_some_iff.1 h
    have h:=hfh0o23.trans h0o23
    cases h
    exact eF []
   refine ww ?_
   rw[wrapN (by omega)]
   exact eL' (x0.Managers.length-(o23_0+1)) [some 0,some 1] ⟨o23_0+1,⟨by omega,rfl⟩,rfl,h⟩ (by omega)
  rw[countN (show¬((o23_0:Int)<(x0.Managers.length:Int))from c24),F12_l23]at h
  refine ww ?_
  cases h
  exact eM [] ⟨_,rfl,rfl⟩
 rintro _ ⟨po23,rfl,rfl⟩
 clear ho
 dsimp only at h
 refine ww ?_
 cases h
 exact eF []
def F3_l10(t7:(List ServicePort)×(List Endpoint))(x0:Service):List ServicePort→Nat→Option ((Bool) ⊕ (Unit))
 |[],o10_0=>some (Sum.inr (()))
 |xo10::xs,o10_0=>(rdI t7.1 ((o10_0:Int))).bind fun y12=>(rdI x0.Ports ((o10_0:Int))).bind fun y13=>(if¬(y12.Name=y13.Name∧y12.Port=y13.Port∧y12.Target=y13.Target)then(some false).map Sum.inl else F3_l10 t7 x0 xs (o10_0+1))
def F3(x0:Service)(x1:(List Pod)):Option (Bool):=(((F7 x0).bind fun t2=>(if(nb t2)=true then some true else(F8 x1).bind fun t4=>some (nb t4))).bind fun o1=>(if o1=true then(F9).bind fun t6=>some t6 else(F10 x0 x1).bind fun t7=>(F11 x0 x1).bind fun t8=>(if¬((t7.1.length:Int)=(x0.Ports.length:Int))then some false else(((ck (0≤t7.1.length∧t7.1.length≤4294967290)).bind fun u15=>F3_l10 t7 x0 t7.1 0:Option ((Bool) ⊕ (Unit))).bind fun o10=>match o10 with|Sum.inl f=>some f|Sum.inr po10=>(((F12 ((⟨(⟨#[69,110,100,112,111,105,110,116,83,101,116]⟩:ByteArray),x0.Meta.Namespace,x0.Meta.Name,0,0,0,0,false,0,[],[],[],[]⟩:Meta)) ((⟨(⟨#[69,110,100,112,111,105,110,116,83,101,116]⟩:ByteArray),x0.Meta.Namespace,x0.Meta.Name,0,0,0,0,false,0,[],[],[],[]⟩:Meta))).bind fun t17=>(if t17=true then(F13 t7.2 t8).bind fun t19=>(if t19=true then(F9).bind fun t21=>some t21 else some false)else some false)).bind fun o16=>some o16)))))
def a3:AFn:=⟨63,[(.tmp 4)],
 (.seq (.reg [sq 2 (.box (.t 0)),
sq 4 (.mv (kB false))])
 (.seq (.seq (.sem (.reg [sq 8 (.load (some 17) (.t 2)),
sq 9 (.call 7 [(.t 8)]),
sq 10 (.not (.t 9)),
sq 11 (.mv (.t 10)),
zg 12 11 false (.mv (.t 1)),
zg 13 11 false (.call 8 [(.t 12)]),
zg 14 11 false (.not (.t 13)),
sq 15 (.pick (.t 11) (kB true) (.t 14))]))
 (.cond (.t 15)
 (.seq (.reg [sq 16 (.call 9 []),
sq 4 (.mv (.t 16))])
 .ret)
 .skip))
 (.seq (.regd [sq 17 (.load (some 17) (.t 2)),
sq 18 (.mv (.t 1)),
zn 19 (.call 10 [(.t 17),(.t 18)]) [0,1] [0,1],
sq 20 (.load (some 17) (.t 2)),
sq 21 (.mv (.t 1)),
zn 22 (.call 11 [(.t 20),(.t 21)]) [0,1,2,3,4] [0,1,2,3,4],
sq 5 (.zbox [dS ⟨#[]⟩,dS ⟨#[]⟩,dS ⟨#[]⟩,dI 0,dI 0,dI 0,dI 0,dB false,dI 0,dN,dN,dN,dN,dN,dN]),
sq 6 (.zbox [dS ⟨#[]⟩,dS ⟨#[]⟩,dS ⟨#[]⟩,dI 0,dI 0,dI 0,dI 0,dB false,dI 0,dN,dN,dN,dN,dN,dN]),
⟨none,none,.store 15 (.t 5) (.t 19),[0,1,2,3,4,5,6,7],(.lone [])⟩,
⟨none,none,.store 15 (.t 6) (.t 22),[0,1,2,3,4,5,6,7,8],(.lone [])⟩])
 (.seq (.seq (.reg [sq 23 (.fieldA 13 (.t 5)),
sq 24 (.load none (.t 23)),
sq 25 (.len (.t 24)),
sq 26 (.fieldA 13 (.t 6)),
sq 27 (.load none (.t 26)),
sq 28 (.len (.t 27)),
sq 29 (.bin .neq (.t 25) (.t 28))])
 (.cond (.t 29)
 (.seq (.reg [sq 4 (.mv (kB false))])
 .ret)
 .skip))
 (.seq (.seq (.reg [sq 30 (.fieldA 13 (.t 5)),
sq 31 (.load none (.t 30)),
sq 32 (.len (.t 31)),
sq 33 (.mv (kI 0))])
 (.sem (.block 0 (.loop (.seq (.reg [sq 34 (.bin .lss (.t 33) (.t 32))])
 (.seq (.cond (.t 34)
 .skip
 (.exit 0))
 (.seq (.block 1 (.seq (.reg [sq 35 (.mv (.t 33)),
sq 7 (.mv (.t 35))])
 (.seq (.regd [sq 36 (.fieldA 13 (.t 5)),
sd 37 (.load none (.t 36)) [0],
sq 38 (.mv (.t 7)),
sd 39 (.indexA 3 (.t 37) (.t 38)) [0,1,2],
sd 40 (.load (some 3) (.t 39)) [0,1,2,3],
sq 41 (.fieldA 13 (.t 6)),
sd 42 (.load none (.t 41)) [5],
sq 43 (.mv (.t 7)),
sd 44 (.indexA 3 (.t 42) (.t 43)) [5,6,7],
sd 45 (.load (some 3) (.t 44)) [5,6,7,8],
zl 46 (.eqs true [(0,2),(1,0),(2,0)] (.t 40) (.t 45)) [0,1,2,3,4,5,6,7,8,9] []])
 (.cond (.t 46)
 (.seq (.reg [sq 4 (.mv (kB false))])
 .ret)
 .skip))))
 (.reg [sq 47 (.bin .add (.t 33) (kI 1)),
sq 33 (.mv (.t 47))]))))))))
 (.seq (.sem (.reg [sq 48 (.fieldA 0 (.t 5)),
sq 49 (.load (some 13) (.t 48)),
sq 50 (.fieldA 0 (.t 6)),
sq 51 (.load (some 13) (.t 50)),
sq 52 (.call 12 [(.t 49),(.t 51)]),
sq 53 (.mv (.t 52)),
zg 54 53 true (.fieldA 14 (.t 5)),
zg 55 53 true (.load none (.t 54)),
zg 56 53 true (.fieldA 14 (.t 6)),
zg 57 53 true (.load none (.t 56)),
zg 58 53 true (.call 13 [(.t 55),(.t 57)]),
sq 59 (.pick (.t 53) (.t 58) (kB false)),
sq 60 (.mv (.t 59)),
zg 61 60 true (.call 9 []),
sq 62 (.pick (.t 60) (.t 61) (kB false)),
sq 4 (.mv (.t 62))]))
 .ret))))))⟩
theorem F3_ok{x0 x1 r}(h:F3 x0 x1=some r):CallD Try.prog 3 [.agg [dS x0.Meta.Kind,dS x0.Meta.Namespace,dS x0.Meta.Name,dI x0.Meta.Uid,dI x0.Meta.Version,dI x0.Meta.Generation,dI x0.Meta.Created,dB x0.Meta.Deleting,dI x0.Meta.DeleteAt,dM (x0.Meta.Labels.map eLabel),dM (x0.Meta.Owners.map eOwner),dM (x0.Meta.Finalizers.map eS),dM (x0.Meta.Managers.map eManager),dM (x0.Selector.map eRequirement),dM (x0.Ports.map eServicePort),dB x0.Sticky,dI x0.Address],.c (dM (x1.map ePod))] [] (tupV [.c (dB r)]) []:=by
 rw[F3]at h
 refine zc a3 (by kernel_rfl) rfl (ww ?_)
 obtain⟨o1,ho,h⟩:=bi h
 refine cutS (fun s=>s=⟨[(1,.one (.c (dM (x1.map ePod)))),(2,.one (.c (.pt 0 0))),(15,.one (.c (dB o1)))],[some (.box [dS x0.Meta.Kind,dS x0.Meta.Namespace,dS x0.Meta.Name,dI x0.Meta.Uid,dI x0.Meta.Version,dI x0.Meta.Generation,dI x0.Meta.Created,dB x0.Meta.Deleting,dI x0.Meta.DeleteAt,dM (x0.Meta.Labels.map eLabel),dM (x0.Meta.Owners.map eOwner),dM (x0.Meta.Finalizers.map eS),dM (x0.Meta.Managers.map eManager),dM (x0.Selector.map eRequirement),dM (x0.Ports.map eServicePort),dB x0.Sticky,dI x0.Address])]⟩) ?_ ?_
 ·have h:=ho
  clear ho
  refine ww ?_
  obtain⟨t2,ht2,h⟩:=bi h
  refine cN [] (F7_ok ht2) trivial (ww ?_)
  refine guardSBh h (fun g3 h=>?_) (fun g3 h=>?_)
  ·refine ww ?_
   cases h
   exact eM [some 0] rfl
  refine ww ?_
  obtain⟨t4,ht4,h⟩:=bi h
  refine cN [] (F8_ok ht4) trivial (ww ?_)
  cases h
  exact eM [some 0] rfl
 rintro _ rfl
 clear ho
 refine ww ?_
 refine condBh h (fun c5 h=>?_) (fun c5 h=>?_)
 ·refine ww ?_
  obtain⟨t6,ht6,h⟩:=bi h
  refine cN [] (F9_ok ht6) trivial (ww ?_)
  cases h
  exact eF []
 refine ww ?_
 obtain⟨t7,ht7,h⟩:=bi h
 refine cN [] (F10_ok ht7) trivial (ww ?_)
 refine kD_new (by simp[wrs,allW,hset]) (ww ?_)
 obtain⟨t8,ht8,h⟩:=bi h
 refine cN [] (F11_ok ht8) trivial (ww ?_)
 refine kD_new (by simp[wrs,allW,hset]) (ww ?_)
 refine kD_new (by simp[wrs,allW,hset]) (ww ?_)
 refine kD_new (by simp[wrs,allW,hset]) (ww ?_)
 refine condSh h (fun c9 h=>?_) (fun c9 h=>?_)
 ·refine ww ?_
  cases h
  exact eF []
 refine ww ?_
 obtain⟨o10,ho,h⟩:=bi h
 refine cutS (fun s=>∃po10,o10=Sum.inr po10∧s=⟨[(5,.one (.c (.pt 0 0))),(6,.one (.c (.pt 3 0)))],[some (.box [dS ((⟨#[69,110,100,112,111,105,110,116,83,101,116]⟩:ByteArray)),dS x0.Meta.Namespace,dS x0.Meta.Name,dI 0,dI 0,dI 0,dI 0,dB false,dI 0,dM (([]:List Label).map eLabel),dM (([]:List Owner).map eOwner),dM (([]:List ByteArray).map eS),dM (([]:List Manager).map eManager),.own 1 0 0 (t7.1.length) none,.own 2 0 0 (t7.2.length) none]),some (.arr 0 3 (t7.1.map eServicePort)),some (.arr 0 5 (t7.2.map eEndpoint)),some (.box [dS ((⟨#[69,110,100,112,111,105,110,116,83,101,116]⟩:ByteArray)),dS x0.Meta.Namespace,dS x0.Meta.Name,dI 0,dI 0,dI 0,dI 0,dB false,dI 0,dM (([]:List Label).map eLabel),dM (([]:List Owner).map eOwner),dM (([]:List ByteArray).map eS),dM (([]:List Manager).map eManager),dM (x0.Ports.map eServicePort),.own 4 0 0 (t8.length) none]),some (.arr 0 5 (t8.map eEndpoint))]⟩) ?_ ?_
 ·have h0o10:=h
  have h:=ho
  clear ho
  obtain⟨_,hk,h⟩:=bi h
  have hk:=ck_some hk
  refine ww ?_
  refine bL (fun j s=>∃(o10_0:Nat),(o10_0≤t7.1.length∧j=t7.1.length-o10_0)∧s=⟨[(5,.one (.c (.pt 0 0))),(6,.one (.c (.pt 3 0))),(32,.one (.c (dI ((t7.1.length:Int))))),(33,.one (.c (dI ((o10_0:Int)))))],[some (.box [dS ((⟨#[69,110,100,112,111,105,110,116,83,101,116]⟩:ByteArray)),dS x0.Meta.Namespace,dS x0.Meta.Name,dI 0,dI 0,dI 0,dI 0,dB false,dI 0,dM (([]:List Label).map eLabel),dM (([]:List Owner).map eOwner),dM (([]:List ByteArray).map eS),dM (([]:List Manager).map eManager),.own 1 0 0 (t7.1.length) none,.own 2 0 0 (t7.2.length) none]),some (.arr 0 3 (t7.1.map eServicePort)),some (.arr 0 5 (t7.2.map eEndpoint)),some (.box [dS ((⟨#[69,110,100,112,111,105,110,116,83,101,116]⟩:ByteArray)),dS x0.Meta.Namespace,dS x0.Meta.Name,dI 0,dI 0,dI 0,dI 0,dB false,dI 0,dM (([]:List Label).map eLabel),dM (([]:List Owner).map eOwner),dM (([]:List ByteArray).map eS),dM (([]:List Manager).map eManager),dM (x0.Ports.map eServicePort),.own 4 0 0 (t8.length) none]),some (.arr 0 5 (t8.map eEndpoint))]⟩∧F3_l10 t7 x0 (t7.1.drop o10_0) o10_0=some o10) (t7.1.length-0) [some 4,some 1,some 2,some 5,some 3] ⟨0,⟨hk.1,rfl⟩,rfl,h⟩ ?_
  rintro _ _ ⟨o10_0,⟨hi,rfl⟩,rfl,h⟩
  refine ww ?_
  refine condS (fun c11=>?_) (fun c11=>?_)
  ·obtain⟨xo10,hxo10,hd⟩:=countY (show(o10_0:Int)<(t7.1.length:Int)from c11)
   rw[hd,F3_l10]at h
   refine ww ?_
   obtain⟨y12,hy12,h⟩:=bi h
   refine t_idxO (enc:=eServicePort) (xs:=t7.1) rfl rfl rfl (by first|rfl|simp only[List.length_set]|exact(clrL_len (slI_len (by assumption))).symm) hy12 (ww ?_)
   refine LdRow.rd (rdI_some hy12).2.1 (ww ?_)
   obtain⟨y13,hy13,h⟩:=bi h
   refine t_idxF (enc:=eServicePort) (xs:=x0.Ports) rfl rfl hy13 rfl (ww ?_)
   refine condSh h (fun c14 h=>?_) (fun c14 h=>?_)
   ·refine ww ?_
    obtain⟨fh0o10,hfh0o10,rfl⟩:=Option.map_eq_some_iff.1 h
    have h:=hfh0o10.trans h0o10
    cases h
    exact eF []
   refine ww ?_
   rw[wrapN (by omega)]
   exact eL' (t7.1.length-(o10_0+1)) [some 0,some 1,some 2,some 3,some 4] ⟨o10_0+1,⟨by omega,rfl⟩,rfl,h⟩ (by omega)
  rw[countN (show¬((o10_0:Int)<(t7.1.length:Int))from c11),F3_l10]at h
  refine ww ?_
  cases h
  exact eM [some 0,some 1,some 2,some 3,some 4] ⟨_,rfl,rfl⟩
 rintro _ ⟨po10,rfl,rfl⟩
 clear ho
 dsimp only at h
 refine ww ?_
 obtain⟨o16,ho,h⟩:=bi h
 refine cutS (fun s=>s=⟨[(4,.one (.c (dB o16)))],[]⟩) ?_ ?_
 ·have h:=ho
  clear ho
  refine ww ?_
  obtain⟨t17,ht17,h⟩:=bi h
  refine cN [] (F12_ok ht17) trivial (ww ?_)
  refine guardSBh h (fun g18 h=>?_) (fun g18 h=>?_)
  ·refine ww ?_
   obtain⟨t19,ht19,h⟩:=bi h
   refine callX_bor (F13_ok ht19) (by simp only[borAs,bors,hp,List.getElem?_cons_zero,List.getElem?_cons_succ,Option.join_some,List.drop_zero,bor_full',true_and,Nat.zero_add,List.length_map,Nat.le_refl,nrm,List.length_cons,List.length_nil,Nat.reduceAdd,Nat.reduceLeDiff,List.take_succ_cons,List.take_zero,List.take_nil,List.map_cons,List.map_nil,List.length_set,EE.down]) rfl ?_
   refine ww ?_
   refine guardSBh h (fun g20 h=>?_) (fun g20 h=>?_)
   ·refine ww ?_
    obtain⟨t21,ht21,h⟩:=bi h
    refine cN [] (F9_ok ht21) trivial (ww ?_)
    cases h
    exact eM [] rfl
   refine ww ?_
   cases h
   exact eM [] rfl
  refine ww ?_
  cases h
  exact eM [] rfl
 rintro _ rfl
 clear ho
 refine ww ?_
 cases h
 exact eF []
end Go.Proofs.Ytfkkccgopmcnaaa
