/- Each Go function as a function over typed data, and its walk. -/
import Derived.Test.YtfkkccgopmcnaaaW0
import Derived.Test.YtfkkccgopmcnaaaW2
import Derived.Test.YtfkkccgopmcnaaaW5
import Derived.Test.YtfkkccgopmcnaaaW7
import Derived.Test.YtfkkccgopmcnaaaW11
import Derived.Test.YtfkkccgopmcnaaaW12
import Derived.Test.YtfkkccgopmcnaaaW13
namespace Go.Proofs.Ytfkkccgopmcnaaa
open Go Go.Fw Go.Shelf
set_option maxRecDepth 100000
set_option maxHeartbeats 4000000
set_option linter.unusedSimpArgs false
set_option linter.unusedVariables false
def F6(x0:Service)(x1:(List Pod))(x2:Int):Option (Bool):=(((F7 x0).bind fun t2=>(if(nb t2)=true then some true else(F8 x1).bind fun t4=>(if(nb t4)=true then some true else(F17 x1).bind fun t6=>some (nb t6)))).bind fun o1=>(if o1=true then(F9).bind fun t8=>some t8 else(F10 x0 x1).bind fun t9=>(((if 0<(x1.length:Int)then(ck ((x1.length:Int)≠0)).bind fun u12=>(((slI x1 ((((IntKind.i64.wrap x2)).tmod ((x1.length:Int)))) ((x1.length:Int))).bind fun s14=>(apI ([]:List Pod) s14).bind fun a15=>(slI x1 0 ((((IntKind.i64.wrap x2)).tmod ((x1.length:Int))))).bind fun s16=>(apI a15 s16).bind fun a17=>some a17).bind fun o13=>(F10 x0 o13).bind fun t18=>(F13 t18.2 t9.2).bind fun t19=>(if(nb t19)=true then(some false).map Sum.inl else(((rdI x1 ((((IntKind.i64.wrap x2)).tmod ((x1.length:Int))))).bind fun y22=>(F18 x0.Selector y22.Meta.Labels).bind fun t23=>(if(nb t23)=true then(slI x1 0 ((((IntKind.i64.wrap x2)).tmod ((x1.length:Int))))).bind fun s25=>(apI ([]:List Pod) s25).bind fun a26=>(slI x1 ((IntKind.i64.wrap (((((IntKind.i64.wrap x2)).tmod ((x1.length:Int))))+1))) ((x1.length:Int))).bind fun s27=>(apI a26 s27).bind fun a28=>(F10 x0 a28).bind fun t29=>(F13 t29.2 t9.2).bind fun t30=>some (nb t30)else some false)).bind fun o21=>(if o21=true then(some false).map Sum.inl else some (Sum.inr (()))))))else some (Sum.inr (()))):Option ((Bool) ⊕ (Unit))).bind fun o10=>match o10 with|Sum.inl f=>some f|Sum.inr po10=>(F10 x0 ([])).bind fun t32=>(F14 ((⟨(⟨(⟨#[69,110,100,112,111,105,110,116,83,101,116]⟩:ByteArray),x0.Meta.Namespace,x0.Meta.Name,0,0,0,0,false,0,[],[],[],[]⟩:Meta),t9.1,t9.2⟩:EndpointSet)) ((⟨(⟨(⟨#[69,110,100,112,111,105,110,116,83,101,116]⟩:ByteArray),x0.Meta.Namespace,x0.Meta.Name,0,0,0,0,false,0,[],[],[],[]⟩:Meta),t32.1,t32.2⟩:EndpointSet))).bind fun t33=>(((if(t33.1.length:Int)=0 then(if(t33.2.1.length:Int)=(t9.2.length:Int)then(if(t33.2.2.length:Int)=0 then(F9).bind fun t38=>some t38 else some false)else some false)else some false)).bind fun o34=>some o34))))
def a6:AFn:=⟨111,[(.tmp 6)],
 (.seq (.reg [sq 3 (.box (.t 0)),
sq 6 (.mv (kB false))])
 (.seq (.seq (.sem (.reg [sq 13 (.load (some 17) (.t 3)),
sq 14 (.call 7 [(.t 13)]),
sq 15 (.not (.t 14)),
sq 16 (.mv (.t 15)),
zg 17 16 false (.mv (.t 1)),
zg 18 16 false (.call 8 [(.t 17)]),
zg 19 16 false (.not (.t 18)),
sq 20 (.pick (.t 16) (kB true) (.t 19)),
sq 21 (.mv (.t 20)),
zg 22 21 false (.mv (.t 1)),
zg 23 21 false (.call 17 [(.t 22)]),
zg 24 21 false (.not (.t 23)),
sq 25 (.pick (.t 21) (kB true) (.t 24))]))
 (.cond (.t 25)
 (.seq (.reg [sq 26 (.call 9 []),
sq 6 (.mv (.t 26))])
 .ret)
 .skip))
 (.seq (.reg [sq 27 (.load (some 17) (.t 3)),
sq 28 (.mv (.t 1)),
sq 29 (.call 10 [(.t 27),(.t 28)]),
sq 7 (.zbox [dS ⟨#[]⟩,dS ⟨#[]⟩,dS ⟨#[]⟩,dI 0,dI 0,dI 0,dI 0,dB false,dI 0,dN,dN,dN,dN,dN,dN]),
su (.store 15 (.t 7) (.t 29))])
 (.seq (.sem (.seq (.reg [sq 30 (.mv (.t 1)),
sq 31 (.len (.t 30)),
sq 32 (.bin .gtr (.t 31) (kI 0))])
 (.cond (.t 32)
 (.seq (.reg [sq 33 (.mv (.t 2)),
sq 34 (.conv .i64 (.t 33)),
sq 35 (.mv (.t 1)),
sq 36 (.len (.t 35)),
sq 37 (.bin .rem (.t 34) (.t 36)),
sq 8 (.mv (.t 37))])
 (.seq (.sem (.regd [sq 38 (.bslice 32 []),
sq 39 (.mv (.t 1)),
sq 40 (.mv (.t 8)),
sd 41 (.slice 32 (.t 39) (some (.t 40)) none none) [1,2],
zn 42 (.app 32 480 (.t 38) (.t 41)) [0,1,2,3] [0,1,2,3],
sq 43 (.mv (.t 1)),
sq 44 (.mv (.t 8)),
sd 45 (.slice 32 (.t 43) none (some (.t 44)) none) [5,6],
zl 46 (.app 32 480 (.t 42) (.t 45)) [0,1,2,3,4,5,6,7] [],
sd 9 (.mv (.t 46)) [0,1,2,3,4,5,6,7,8]]))
 (.seq (.seq (.regd [sq 47 (.load (some 17) (.t 3)),
sq 48 (.mv (.t 9)),
zn 49 (.call 10 [(.t 47),(.t 48)]) [0,1] [0,1],
sd 50 (.field 14 none (.t 49)) [0,1,2],
sq 51 (.fieldA 14 (.t 7)),
sd 52 (.load none (.t 51)) [4],
zl 53 (.call 13 [(.t 50),(.t 52)]) [0,1,2,3,4,5] [],
sd 54 (.not (.t 53)) [0,1,2,3,4,5,6]])
 (.cond (.t 54)
 (.seq (.reg [sq 6 (.mv (kB false))])
 .ret)
 .skip))
 (.seq (.sem (.regd [sq 55 (.fieldA 13 (.t 3)),
sd 56 (.load none (.t 55)) [0],
sq 57 (.mv (.t 1)),
sq 58 (.mv (.t 8)),
sd 59 (.indexA 32 (.t 57) (.t 58)) [2,3],
sd 60 (.fieldA 0 (.t 59)) [2,3,4],
sd 61 (.fieldA 9 (.t 60)) [2,3,4,5],
sd 62 (.load none (.t 61)) [2,3,4,5,6],
zl 63 (.call 18 [(.t 56),(.t 62)]) [0,1,2,3,4,5,6,7] [],
sd 64 (.not (.t 63)) [0,1,2,3,4,5,6,7,8],
sd 65 (.mv (.t 64)) [0,1,2,3,4,5,6,7,8,9],
⟨(some 66),(some (65,true)),.load (some 17) (.t 3),[0,1,2,3,4,5,6,7,8,9,10],(.new [])⟩,
⟨(some 67),(some (65,true)),.bslice 32 [],[0,1,2,3,4,5,6,7,8,9,10],(.new [])⟩,
⟨(some 68),(some (65,true)),.mv (.t 1),[0,1,2,3,4,5,6,7,8,9,10],(.new [])⟩,
⟨(some 69),(some (65,true)),.mv (.t 8),[0,1,2,3,4,5,6,7,8,9,10],(.new [])⟩,
⟨(some 70),(some (65,true)),.slice 32 (.t 68) none (some (.t 69)) none,[0,1,2,3,4,5,6,7,8,9,10,13,14],(.new [])⟩,
⟨(some 71),(some (65,true)),.app 32 480 (.t 67) (.t 70),[0,1,2,3,4,5,6,7,8,9,10,12,13,14,15],(.new [12,13,14,15])⟩,
⟨(some 72),(some (65,true)),.mv (.t 1),[0,1,2,3,4,5,6,7,8,9,10],(.new [])⟩,
⟨(some 73),(some (65,true)),.mv (.t 8),[0,1,2,3,4,5,6,7,8,9,10],(.new [])⟩,
⟨(some 74),(some (65,true)),.bin .add (.t 73) (kI 1),[0,1,2,3,4,5,6,7,8,9,10,18],(.new [])⟩,
⟨(some 75),(some (65,true)),.slice 32 (.t 72) (some (.t 74)) none none,[0,1,2,3,4,5,6,7,8,9,10,17,18,19],(.new [])⟩,
⟨(some 76),(some (65,true)),.app 32 480 (.t 71) (.t 75),[0,1,2,3,4,5,6,7,8,9,10,12,13,14,15,16,17,18,19,20],(.new [12,13,14,15,16,17,18,19,20])⟩,
⟨(some 77),(some (65,true)),.call 10 [(.t 66),(.t 76)],[0,1,2,3,4,5,6,7,8,9,10,11,12,13,14,15,16,17,18,19,20,21],(.new [11,12,13,14,15,16,17,18,19,20,21])⟩,
⟨(some 78),(some (65,true)),.field 14 none (.t 77),[0,1,2,3,4,5,6,7,8,9,10,11,12,13,14,15,16,17,18,19,20,21,22],(.new [])⟩,
⟨(some 79),(some (65,true)),.fieldA 14 (.t 7),[0,1,2,3,4,5,6,7,8,9,10],(.new [])⟩,
⟨(some 80),(some (65,true)),.load none (.t 79),[0,1,2,3,4,5,6,7,8,9,10,24],(.new [])⟩,
⟨(some 81),(some (65,true)),.call 13 [(.t 78),(.t 80)],[0,1,2,3,4,5,6,7,8,9,10,11,12,13,14,15,16,17,18,19,20,21,22,23,24,25],(.lone [])⟩,
⟨(some 82),(some (65,true)),.not (.t 81),[0,1,2,3,4,5,6,7,8,9,10,11,12,13,14,15,16,17,18,19,20,21,22,23,24,25,26],(.new [])⟩,
zl 83 (.pick (.t 65) (.t 82) (kB false)) [0,1,2,3,4,5,6,7,8,9,10,11,12,13,14,15,16,17,18,19,20,21,22,23,24,25,26,27] []]))
 (.cond (.t 83)
 (.seq (.reg [sq 6 (.mv (kB false))])
 .ret)
 .skip)))))
 .skip)))
 (.seq (.regd [sq 85 (.load (some 15) (.t 7)),
sq 86 (.load (some 17) (.t 3)),
zl 87 (.call 10 [(.t 86),kN]) [1] [7],
zl 88 (.call 14 [(.t 85),(.t 87)]) [0,1,2] [],
sd 84 (.mv (.t 88)) [0,1,2,3],
sd 89 (.ext (.t 84) 0) [0,1,2,3,4],
sd 90 (.ext (.t 84) 1) [0,1,2,3,4],
sd 91 (.ext (.t 84) 2) [0,1,2,3,4],
sd 10 (.mv (.t 89)) [0,1,2,3,4,5],
sd 11 (.mv (.t 90)) [0,1,2,3,4,5,6,8],
sd 12 (.mv (.t 91)) [0,1,2,3,4,5,6,7,8,9]])
 (.seq (.sem (.reg [sq 92 (.mv (.t 10)),
sq 93 (.len (.t 92)),
sq 94 (.bin .eql (.t 93) (kI 0)),
sq 95 (.mv (.t 94)),
zg 96 95 true (.mv (.t 11)),
zg 97 95 true (.len (.t 96)),
zg 98 95 true (.fieldA 14 (.t 7)),
zg 99 95 true (.load none (.t 98)),
zg 100 95 true (.len (.t 99)),
zg 101 95 true (.bin .eql (.t 97) (.t 100)),
sq 102 (.pick (.t 95) (.t 101) (kB false)),
sq 103 (.mv (.t 102)),
zg 104 103 true (.mv (.t 12)),
zg 105 103 true (.len (.t 104)),
zg 106 103 true (.bin .eql (.t 105) (kI 0)),
sq 107 (.pick (.t 103) (.t 106) (kB false)),
sq 108 (.mv (.t 107)),
zg 109 108 true (.call 9 []),
sq 110 (.pick (.t 108) (.t 109) (kB false)),
sq 6 (.mv (.t 110))]))
 .ret))))))⟩
theorem F6_ok{x0 x1 x2 r}(h:F6 x0 x1 x2=some r):CallD Try.prog 6 [.agg [dS x0.Meta.Kind,dS x0.Meta.Namespace,dS x0.Meta.Name,dI x0.Meta.Uid,dI x0.Meta.Version,dI x0.Meta.Generation,dI x0.Meta.Created,dB x0.Meta.Deleting,dI x0.Meta.DeleteAt,dM (x0.Meta.Labels.map eLabel),dM (x0.Meta.Owners.map eOwner),dM (x0.Meta.Finalizers.map eS),dM (x0.Meta.Managers.map eManager),dM (x0.Selector.map eRequirement),dM (x0.Ports.map eServicePort),dB x0.Sticky,dI x0.Address],.c (dM (x1.map ePod)),.c (.d (.v (.int .u8 x2)))] [] (tupV [.c (dB r)]) []:=by
 rw[F6]at h
 refine zc a6 (by kernel_rfl) rfl (ww ?_)
 obtain⟨o1,ho,h⟩:=bi h
 refine cutS (fun s=>s=⟨[(1,.one (.c (dM (x1.map ePod)))),(2,.one (.c (.d (.v (.int .u8 x2))))),(3,.one (.c (.pt 0 0))),(25,.one (.c (dB o1)))],[some (.box [dS x0.Meta.Kind,dS x0.Meta.Namespace,dS x0.Meta.Name,dI x0.Meta.Uid,dI x0.Meta.Version,dI x0.Meta.Generation,dI x0.Meta.Created,dB x0.Meta.Deleting,dI x0.Meta.DeleteAt,dM (x0.Meta.Labels.map eLabel),dM (x0.Meta.Owners.map eOwner),dM (x0.Meta.Finalizers.map eS),dM (x0.Meta.Managers.map eManager),dM (x0.Selector.map eRequirement),dM (x0.Ports.map eServicePort),dB x0.Sticky,dI x0.Address])]⟩) ?_ ?_
 ·have h:=ho
  clear ho
  refine ww ?_
  obtain⟨t2,ht2,h⟩:=bi h
  refine cN [] (F7_ok ht2) trivial (ww ?_)
  refine guardSBh h (fun g3 h=>?_) (fun g3 h=>?_)
  ·refine ww ?_
   cases h
   exact eM [some 0] rfl
  refine ww ?_
  obtain⟨t4,ht4,h⟩:=bi h
  refine cN [] (F8_ok ht4) trivial (ww ?_)
  refine guardSBh h (fun g5 h=>?_) (fun g5 h=>?_)
  ·refine ww ?_
   cases h
   exact eM [some 0] rfl
  refine ww ?_
  obtain⟨t6,ht6,h⟩:=bi h
  refine cN [] (F17_ok ht6) trivial (ww ?_)
  cases h
  exact eM [some 0] rfl
 rintro _ rfl
 clear ho
 refine ww ?_
 refine condBh h (fun c7 h=>?_) (fun c7 h=>?_)
 ·refine ww ?_
  obtain⟨t8,ht8,h⟩:=bi h
  refine cN [] (F9_ok ht8) trivial (ww ?_)
  cases h
  exact eF []
 refine ww ?_
 obtain⟨t9,ht9,h⟩:=bi h
 refine cN [] (F10_ok ht9) trivial (ww ?_)
 obtain⟨o10,ho,h⟩:=bi h
 refine cutS (fun s=>∃po10,o10=Sum.inr po10∧s=⟨[(3,.one (.c (.pt 0 0))),(7,.one (.c (.pt 1 0)))],[some (.box [dS x0.Meta.Kind,dS x0.Meta.Namespace,dS x0.Meta.Name,dI x0.Meta.Uid,dI x0.Meta.Version,dI x0.Meta.Generation,dI x0.Meta.Created,dB x0.Meta.Deleting,dI x0.Meta.DeleteAt,dM (x0.Meta.Labels.map eLabel),dM (x0.Meta.Owners.map eOwner),dM (x0.Meta.Finalizers.map eS),dM (x0.Meta.Managers.map eManager),dM (x0.Selector.map eRequirement),dM (x0.Ports.map eServicePort),dB x0.Sticky,dI x0.Address]),some (.box [dS ((⟨#[69,110,100,112,111,105,110,116,83,101,116]⟩:ByteArray)),dS x0.Meta.Namespace,dS x0.Meta.Name,dI 0,dI 0,dI 0,dI 0,dB false,dI 0,dM (([]:List Label).map eLabel),dM (([]:List Owner).map eOwner),dM (([]:List ByteArray).map eS),dM (([]:List Manager).map eManager),dM (t9.1.map eServicePort),dM (t9.2.map eEndpoint)])]⟩) ?_ ?_
 ·have h0o10:=h
  have h:=ho
  clear ho
  refine ww ?_
  refine condSh h (fun c11 h=>?_) (fun c11 h=>?_)
  ·refine ww ?_
   obtain⟨u12,hu12,h⟩:=bi h
   refine⟨ck_some hu12,?_⟩
   refine ww ?_
   obtain⟨o13,ho,h⟩:=bi h
   refine cutS (fun s=>s=⟨[(1,.one (.c (dM (x1.map ePod)))),(3,.one (.c (.pt 0 0))),(7,.one (.c (.pt 1 0))),(8,.one (.c (dI ((((IntKind.i64.wrap x2)).tmod ((x1.length:Int))))))),(9,.one (.c (dM (o13.map ePod))))],[some (.box [dS x0.Meta.Kind,dS x0.Meta.Namespace,dS x0.Meta.Name,dI x0.Meta.Uid,dI x0.Meta.Version,dI x0.Meta.Generation,dI x0.Meta.Created,dB x0.Meta.Deleting,dI x0.Meta.DeleteAt,dM (x0.Meta.Labels.map eLabel),dM (x0.Meta.Owners.map eOwner),dM (x0.Meta.Finalizers.map eS),dM (x0.Meta.Managers.map eManager),dM (x0.Selector.map eRequirement),dM (x0.Ports.map eServicePort),dB x0.Sticky,dI x0.Address]),some (.box [dS ((⟨#[69,110,100,112,111,105,110,116,83,101,116]⟩:ByteArray)),dS x0.Meta.Namespace,dS x0.Meta.Name,dI 0,dI 0,dI 0,dI 0,dB false,dI 0,dM (([]:List Label).map eLabel),dM (([]:List Owner).map eOwner),dM (([]:List ByteArray).map eS),dM (([]:List Manager).map eManager),dM (t9.1.map eServicePort),dM (t9.2.map eEndpoint)])]⟩) ?_ ?_
   ·have h:=ho
    clear ho
    refine ww ?_
    refine t_bslice (enc:=ePod) (ys:=([]:List Pod)) rfl rfl (by simp[A1.cells]) (by first|rfl|(simp only[List.drop_zero,take_mapL];rfl)|(simp only[lit,List.map_cons,List.map_nil,List.drop_zero,take_mapL,EE.down];done)|(simp only[lit,List.map_cons,List.map_nil,List.drop_zero,take_mapL,EE.down];rfl)) (ww ?_)
    refine kD_new (by simp[wrs,allW,hset]) (ww ?_)
    obtain⟨s14,hs14,h⟩:=bi h
    refine t_slice (enc:=ePod) (xs:=x1) rfl rfl rfl (fun _=>rfl) hs14 (ww ?_)
    obtain⟨a15,ha15,h⟩:=bi h
    refine t_app (enc:=ePod) (xs:=([]:List Pod)) rfl rfl (by first|rfl|simp only[List.length_set]|exact(clrL_len (slI_len (by assumption))).symm) rfl (rows_frz (enc:=ePod) (fun _=>rfl)) ha15 (ww ?_)
    refine kD_own (by simp[wrs,allW,hset,ownW]) (ww ?_)
    obtain⟨s16,hs16,h⟩:=bi h
    refine t_slice (enc:=ePod) (xs:=x1) rfl rfl rfl (fun _=>rfl) hs16 (ww ?_)
    obtain⟨a17,ha17,h⟩:=bi h
    refine t_app (enc:=ePod) (xs:=a15) rfl rfl (by first|rfl|simp only[List.length_set]|exact(clrL_len (slI_len (by assumption))).symm) rfl (rows_frz (enc:=ePod) (fun _=>rfl)) ha17 (ww ?_)
    cases h
    exact eM [some 0,some 3] rfl
   rintro _ rfl
   clear ho
   refine ww ?_
   obtain⟨t18,ht18,h⟩:=bi h
   refine cN [] (F10_ok ht18) trivial (ww ?_)
   refine kD_new (by simp[wrs,allW,hset]) (ww ?_)
   obtain⟨t19,ht19,h⟩:=bi h
   refine callX_bor (F13_ok ht19) (by simp only[borAs,bors,hp,List.getElem?_cons_zero,List.getElem?_cons_succ,Option.join_some,List.drop_zero,bor_full',true_and,Nat.zero_add,List.length_map,Nat.le_refl,nrm,List.length_cons,List.length_nil,Nat.reduceAdd,Nat.reduceLeDiff,List.take_succ_cons,List.take_zero,List.take_nil,List.map_cons,List.map_nil,List.length_set,EE.down]) rfl ?_
   refine ww ?_
   refine condBh h (fun c20 h=>?_) (fun c20 h=>?_)
   ·refine ww ?_
    obtain⟨fh0o10,hfh0o10,rfl⟩:=Option.map_eq_some_iff.1 h
    have h:=hfh0o10.trans h0o10
    cases h
    exact eF []
   refine ww ?_
   obtain⟨o21,ho,h⟩:=bi h
   refine cutS (fun s=>s=⟨[(3,.one (.c (.pt 0 0))),(7,.one (.c (.pt 1 0))),(83,.one (.c (dB o21)))],[some (.box [dS x0.Meta.Kind,dS x0.Meta.Namespace,dS x0.Meta.Name,dI x0.Meta.Uid,dI x0.Meta.Version,dI x0.Meta.Generation,dI x0.Meta.Created,dB x0.Meta.Deleting,dI x0.Meta.DeleteAt,dM (x0.Meta.Labels.map eLabel),dM (x0.Meta.Owners.map eOwner),dM (x0.Meta.Finalizers.map eS),dM (x0.Meta.Managers.map eManager),dM (x0.Selector.map eRequirement),dM (x0.Ports.map eServicePort),dB x0.Sticky,dI x0.Address]),some (.box [dS ((⟨#[69,110,100,112,111,105,110,116,83,101,116]⟩:ByteArray)),dS x0.Meta.Namespace,dS x0.Meta.Name,dI 0,dI 0,dI 0,dI 0,dB false,dI 0,dM (([]:List Label).map eLabel),dM (([]:List Owner).map eOwner),dM (([]:List ByteArray).map eS),dM (([]:List Manager).map eManager),dM (t9.1.map eServicePort),dM (t9.2.map eEndpoint)])]⟩) ?_ ?_
   ·have h:=ho
    clear ho
    refine ww ?_
    obtain⟨y22,hy22,h⟩:=bi h
    refine t_idxF (enc:=ePod) (xs:=x1) rfl rfl hy22 rfl (ww ?_)
    obtain⟨t23,ht23,h⟩:=bi h
    refine cN [] (F18_ok ht23) trivial (ww ?_)
    refine guardDBh h (fun g24 h=>?_) (fun g24 h=>?_)
    ·refine ww ?_
     refine t_bslice (enc:=ePod) (ys:=([]:List Pod)) rfl rfl (by simp[A1.cells]) (by first|rfl|(simp only[List.drop_zero,take_mapL];rfl)|(simp only[lit,List.map_cons,List.map_nil,List.drop_zero,take_mapL,EE.down];done)|(simp only[lit,List.map_cons,List.map_nil,List.drop_zero,take_mapL,EE.down];rfl)) (ww ?_)
     refine kD_new (by simp[wrs,allW,hset]) (ww ?_)
     obtain⟨s25,hs25,h⟩:=bi h
     refine t_slice (enc:=ePod) (xs:=x1) rfl rfl rfl (fun _=>rfl) hs25 (ww ?_)
     obtain⟨a26,ha26,h⟩:=bi h
     refine t_app (enc:=ePod) (xs:=([]:List Pod)) rfl rfl (by first|rfl|simp only[List.length_set]|exact(clrL_len (slI_len (by assumption))).symm) rfl (rows_frz (enc:=ePod) (fun _=>rfl)) ha26 (ww ?_)
     refine kD_own (by simp[wrs,allW,hset,ownW]) (ww ?_)
     obtain⟨s27,hs27,h⟩:=bi h
     refine t_slice (enc:=ePod) (xs:=x1) rfl rfl rfl (fun _=>rfl) hs27 (ww ?_)
     obtain⟨a28,ha28,h⟩:=bi h
     refine t_app (enc:=ePod) (xs:=a26) rfl rfl (by first|rfl|simp only[List.length_set]|exact(clrL_len (slI_len (by assumption))).symm) rfl (rows_frz (enc:=ePod) (fun _=>rfl)) ha28 (ww ?_)
     refine kD_own (by simp[wrs,allW,hset,ownW]) (ww ?_)
     obtain⟨t29,ht29,h⟩:=bi h
     refine callX_gen (as1:=[.agg [dS x0.Meta.Kind,dS x0.Meta.Namespace,dS x0.Meta.Name,dI x0.Meta.Uid,dI x0.Meta.Version,dI x0.Meta.Generation,dI x0.Meta.Created,dB x0.Meta.Deleting,dI x0.Meta.DeleteAt,dM (x0.Meta.Labels.map eLabel),dM (x0.Meta.Owners.map eOwner),dM (x0.Meta.Finalizers.map eS),dM (x0.Meta.Managers.map eManager),dM (x0.Selector.map eRequirement),dM (x0.Ports.map eServicePort),dB x0.Sticky,dI x0.Address],.c (dM (a28.map ePod))]) [(4,.arr 3 32 [])] [some 0,some 1,some 2,some 3,none] [] (F10_ok ht29) ⟨?_,rfl,?_⟩ ?_ ?_ ?_ ?_ ?_ ?_ ?_ ?_
     ·simp only[ZZ.down,Nat.reduceEqDiff,reduceCtorEq,Nat.reduceAdd,Nat.reduceLeDiff,Nat.reduceLT,Nat.reduceBNe,EE.down]
     ·simp only[ZZ.down,Nat.reduceEqDiff,reduceCtorEq,Nat.reduceAdd,Nat.reduceLeDiff,Nat.reduceLT,Nat.reduceBNe,EE.down]
     ·simp only[ZZ.down,Nat.reduceEqDiff,reduceCtorEq,Nat.reduceAdd,Nat.reduceLeDiff,Nat.reduceLT,Nat.reduceBNe,EE.down]
     ·rfl
     ·rfl
     ·simp[liveAll,A1.live,C.live]
     ·rfl
     ·decide
     ·exact trivial
     refine ww ?_
     refine kD_own (by simp[wrs,allW,hset,ownW]) (ww ?_)
     obtain⟨t30,ht30,h⟩:=bi h
     refine callX_bor (F13_ok ht30) (by simp only[borAs,bors,hp,List.getElem?_cons_zero,List.getElem?_cons_succ,Option.join_some,List.drop_zero,bor_full',true_and,Nat.zero_add,List.length_map,Nat.le_refl,nrm,List.length_cons,List.length_nil,Nat.reduceAdd,Nat.reduceLeDiff,List.take_succ_cons,List.take_zero,List.take_nil,List.map_cons,List.map_nil,List.length_set,EE.down]) rfl ?_
     refine ww ?_
     cases h
     exact eM [some 0,some 1] rfl
    refine ww ?_
    cases h
    exact eM [some 0,some 1] rfl
   rintro _ rfl
   clear ho
   refine ww ?_
   refine condBh h (fun c31 h=>?_) (fun c31 h=>?_)
   ·refine ww ?_
    obtain⟨fh0o10,hfh0o10,rfl⟩:=Option.map_eq_some_iff.1 h
    have h:=hfh0o10.trans h0o10
    cases h
    exact eF []
   refine ww ?_
   cases h
   exact eM [some 0,some 1] ⟨_,rfl,rfl⟩
  refine ww ?_
  cases h
  exact eM [some 0,some 3] ⟨_,rfl,rfl⟩
 rintro _ ⟨po10,rfl,rfl⟩
 clear ho
 dsimp only at h
 refine ww ?_
 obtain⟨t32,ht32,h⟩:=bi h
 refine cN [] (F10_ok ht32) trivial (ww ?_)
 obtain⟨t33,ht33,h⟩:=bi h
 refine callX_borF (F14_ok ht33) (by simp only[borAs,bors,hp,List.getElem?_cons_zero,List.getElem?_cons_succ,Option.join_some,List.drop_zero,bor_full',true_and,Nat.zero_add,List.length_map,Nat.le_refl,nrm,List.length_cons,List.length_nil,Nat.reduceAdd,Nat.reduceLeDiff,List.take_succ_cons,List.take_zero,List.take_nil,List.map_cons,List.map_nil,List.length_set,EE.down]) rfl ⟨flat_rows (enc:=eS) (fun _=>rfl) _,flat_rows (enc:=eS) (fun _=>rfl) _,flat_rows (enc:=eS) (fun _=>rfl) _,trivial⟩ ?_
 refine ww ?_
 obtain⟨o34,ho,h⟩:=bi h
 refine cutS (fun s=>s=⟨[(6,.one (.c (dB o34)))],[]⟩) ?_ ?_
 ·have h:=ho
  clear ho
  refine ww ?_
  refine guardSh h (fun g35 h=>?_) (fun g35 h=>?_)
  ·refine ww ?_
   refine guardSh h (fun g36 h=>?_) (fun g36 h=>?_)
   ·refine ww ?_
    refine guardSh h (fun g37 h=>?_) (fun g37 h=>?_)
    ·refine ww ?_
     obtain⟨t38,ht38,h⟩:=bi h
     refine cN [] (F9_ok ht38) trivial (ww ?_)
     cases h
     exact eM [] rfl
    refine ww ?_
    cases h
    exact eM [] rfl
   refine ww ?_
   cases h
   exact eM [] rfl
  refine ww ?_
  cases h
  exact eM [] rfl
 rintro _ rfl
 clear ho
 refine ww ?_
 cases h
 exact eF []
end Go.Proofs.Ytfkkccgopmcnaaa
