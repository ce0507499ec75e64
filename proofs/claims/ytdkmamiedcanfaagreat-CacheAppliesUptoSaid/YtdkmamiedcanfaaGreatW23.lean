/- Each Go function as a function over typed data, and its walk. -/
import Derived.Test.YtdkmamiedcanfaaGreatW0
import Derived.Test.YtdkmamiedcanfaaGreatW3
import Derived.Test.YtdkmamiedcanfaaGreatW6
import Derived.Test.YtdkmamiedcanfaaGreatW7
import Derived.Test.YtdkmamiedcanfaaGreatW8
import Derived.Test.YtdkmamiedcanfaaGreatW11
import Derived.Test.YtdkmamiedcanfaaGreatW12
import Derived.Test.YtdkmamiedcanfaaGreatW14
import Derived.Test.YtdkmamiedcanfaaGreatW20
import Derived.Test.YtdkmamiedcanfaaGreatW21
namespace Go.Proofs.YtdkmamiedcanfaaGreat
open Go Go.Fw Go.Shelf
set_option maxRecDepth 100000
set_option maxHeartbeats 4000000
set_option linter.unusedSimpArgs false
set_option linter.unusedVariables false
def F14_l1(x1:ByteArray):List Object→Nat→Option ((Object×Bool) ⊕ (Unit))
 |[],o1_0=>some (Sum.inr (()))
 |xo1::xs,o1_0=>(F39 xo1.Meta).bind fun t3=>(if t3=x1 then(some ((xo1,true))).map Sum.inl else F14_l1 x1 xs (o1_0+1))
def F14(x0:Cache)(x1:ByteArray):Option (Object×Bool):=(((ck (0≤x0.Objects.length∧x0.Objects.length≤4294967290)).bind fun u5=>F14_l1 x1 x0.Objects 0:Option ((Object×Bool) ⊕ (Unit))).bind fun o1=>match o1 with|Sum.inl f=>some f|Sum.inr po1=>some (((⟨(⟨(⟨#[]⟩:ByteArray),(⟨#[]⟩:ByteArray),(⟨#[]⟩:ByteArray),0,0,0,0,false,0,[],[],[],[]⟩:Meta),(⟨0,0,(⟨#[]⟩:ByteArray),[],[]⟩:TValue),(⟨0,0,(⟨#[]⟩:ByteArray),[],[]⟩:TValue)⟩:Object),false)))
def a14:AFn:=⟨29,[(.cell 4 (some 23)),(.tmp 5)],
 (.seq (.reg [sq 2 (.box (.t 0)),
sq 4 (.zbox [dS ⟨#[]⟩,dS ⟨#[]⟩,dS ⟨#[]⟩,dI 0,dI 0,dI 0,dI 0,dB false,dI 0,dN,dN,dN,dN,dI 0,dI 0,dS ⟨#[]⟩,dN,dN,dI 0,dI 0,dS ⟨#[]⟩,dN,dN]),
sq 5 (.mv (kB false))])
 (.seq (.seq (.reg [sq 6 (.mv (kI 0))])
 (.sem (.block 0 (.loop (.seq (.seq (.reg [sq 7 (.mv (.t 6)),
sq 8 (.fieldA 5 (.t 2)),
sq 9 (.load none (.t 8)),
sq 10 (.len (.t 9)),
sq 11 (.bin .lss (.t 7) (.t 10))])
 (.cond (.t 11)
 .skip
 (.exit 0)))
 (.seq (.block 1 (.seq (.reg [sq 14 (.fieldA 5 (.t 2)),
sq 15 (.load none (.t 14)),
sq 16 (.mv (.t 6)),
sq 17 (.indexA 23 (.t 15) (.t 16)),
sq 18 (.fieldA 0 (.t 17)),
sq 19 (.load (some 13) (.t 18)),
sq 20 (.call 39 [(.t 19)]),
sq 21 (.mv (.t 1)),
sq 22 (.bin .eql (.t 20) (.t 21))])
 (.cond (.t 22)
 (.seq (.reg [sq 23 (.fieldA 5 (.t 2)),
sq 24 (.load none (.t 23)),
sq 25 (.mv (.t 6)),
sq 26 (.indexA 23 (.t 24) (.t 25)),
sq 27 (.load (some 23) (.t 26)),
su (.store 23 (.t 4) (.t 27)),
sq 5 (.mv (kB true))])
 .ret)
 .skip)))
 (.reg [sq 12 (.mv (.t 6)),
sq 13 (.bin .add (.t 12) (kI 1)),
sq 6 (.mv (.t 13))])))))))
 (.seq (.reg [sq 28 (.build [dS ⟨#[]⟩,dS ⟨#[]⟩,dS ⟨#[]⟩,dI 0,dI 0,dI 0,dI 0,dB false,dI 0,dN,dN,dN,dN,dI 0,dI 0,dS ⟨#[]⟩,dN,dN,dI 0,dI 0,dS ⟨#[]⟩,dN,dN] []),
su (.store 23 (.t 4) (.t 28)),
sq 5 (.mv (kB false))])
 .ret)))⟩
theorem F14_ok{x0 x1 r}(h:F14 x0 x1=some r):CallD Tryz.prog 14 [.agg [dS x0.Filter.Kind,dS x0.Filter.Namespace,dM (x0.Filter.Selector.map eRequirement),dI x0.Rev,dB x0.Synced,dM (x0.Objects.map eObject)],.c (dS x1)] [] (tupV [.agg [dS ((r.1).Meta.Kind),dS ((r.1).Meta.Namespace),dS ((r.1).Meta.Name),dI ((r.1).Meta.Uid),dI ((r.1).Meta.Version),dI ((r.1).Meta.Generation),dI ((r.1).Meta.Created),dB ((r.1).Meta.Deleting),dI ((r.1).Meta.DeleteAt),dM (((r.1).Meta.Labels).map eLabel),dM (((r.1).Meta.Owners).map eOwner),dM (((r.1).Meta.Finalizers).map eS),dM (((r.1).Meta.Managers).map eManager),dI ((r.1).Spec.Kind),dI ((r.1).Spec.N),dS ((r.1).Spec.S),dM (((r.1).Spec.List_).map eTValue),dM (((r.1).Spec.Fields).map eTField),dI ((r.1).Status.Kind),dI ((r.1).Status.N),dS ((r.1).Status.S),dM (((r.1).Status.List_).map eTValue),dM (((r.1).Status.Fields).map eTField)],.c (dB r.2)]) []:=by
 rw[F14]at h
 refine zc a14 (by kernel_rfl) rfl (ww ?_)
 obtain⟨o1,ho,h⟩:=bi h
 refine cutS (fun s=>∃po1,o1=Sum.inr po1∧s=⟨[(4,.one (.c (.pt 0 0)))],[some (.box [dS ((⟨#[]⟩:ByteArray)),dS ((⟨#[]⟩:ByteArray)),dS ((⟨#[]⟩:ByteArray)),dI 0,dI 0,dI 0,dI 0,dB false,dI 0,dN,dN,dN,dN,dI 0,dI 0,dS ((⟨#[]⟩:ByteArray)),dN,dN,dI 0,dI 0,dS ((⟨#[]⟩:ByteArray)),dN,dN])]⟩) ?_ ?_
 ·have h0o1:=h
  have h:=ho
  clear ho
  obtain⟨_,hk,h⟩:=bi h
  have hk:=ck_some hk
  refine ww ?_
  refine bL (fun j s=>∃(o1_0:Nat),(o1_0≤x0.Objects.length∧j=x0.Objects.length-o1_0)∧s=⟨[(1,.one (.c (dS x1))),(2,.one (.c (.pt 0 0))),(4,.one (.c (.pt 1 0))),(6,.one (.c (dI ((o1_0:Int)))))],[some (.box [dS x0.Filter.Kind,dS x0.Filter.Namespace,dM (x0.Filter.Selector.map eRequirement),dI x0.Rev,dB x0.Synced,dM (x0.Objects.map eObject)]),some (.box [dS ((⟨#[]⟩:ByteArray)),dS ((⟨#[]⟩:ByteArray)),dS ((⟨#[]⟩:ByteArray)),dI 0,dI 0,dI 0,dI 0,dB false,dI 0,dN,dN,dN,dN,dI 0,dI 0,dS ((⟨#[]⟩:ByteArray)),dN,dN,dI 0,dI 0,dS ((⟨#[]⟩:ByteArray)),dN,dN])]⟩∧F14_l1 x1 (x0.Objects.drop o1_0) o1_0=some o1) (x0.Objects.length-0) [some 0,some 1] ⟨0,⟨hk.1,rfl⟩,rfl,h⟩ ?_
  rintro _ _ ⟨o1_0,⟨hi,rfl⟩,rfl,h⟩
  refine ww ?_
  refine condS (fun c2=>?_) (fun c2=>?_)
  ·obtain⟨xo1,hxo1,hd⟩:=countY (show(o1_0:Int)<(x0.Objects.length:Int)from c2)
   rw[hd,F14_l1]at h
   refine ww ?_
   refine t_idxF (enc:=eObject) (xs:=x0.Objects) rfl rfl hxo1 rfl (ww ?_)
   obtain⟨t3,ht3,h⟩:=bi h
   refine cN [] (F39_ok ht3) trivial (ww ?_)
   refine condSh h (fun c4 h=>?_) (fun c4 h=>?_)
   ·refine ww ?_
    refine t_idxF (enc:=eObject) (xs:=x0.Objects) rfl rfl hxo1 rfl (ww ?_)
    obtain⟨fh0o1,hfh0o1,rfl⟩:=Option.map_eq_some_iff.1 h
    have h:=hfh0o1.trans h0o1
    cases h
    exact eF []
   refine ww ?_
   rw[wrapN (by omega)]
   exact eL' (x0.Objects.length-(o1_0+1)) [some 0,some 1] ⟨o1_0+1,⟨by omega,rfl⟩,rfl,h⟩ (by omega)
  rw[countN (show¬((o1_0:Int)<(x0.Objects.length:Int))from c2),F14_l1]at h
  refine ww ?_
  cases h
  exact eM [some 1] ⟨_,rfl,rfl⟩
 rintro _ ⟨po1,rfl,rfl⟩
 clear ho
 dsimp only at h
 refine ww ?_
 cases h
 exact eF []
def F18(x0:Filter):Option (Unit):=some (())
def a18:AFn:=⟨5,[(.cell 2 (some 6))],
 (.seq (.reg [sq 1 (.box (.t 0)),
sq 2 (.zbox [dS ⟨#[]⟩,dS ⟨#[]⟩,dN,dI 0,dB false,dN])])
 (.seq (.reg [sq 3 (.load (some 3) (.t 1)),
sq 4 (.build [dS ⟨#[]⟩,dS ⟨#[]⟩,dN,dI 0,dB false,dN] [(0,3,(.t 3))]),
su (.store 6 (.t 2) (.t 4))])
 .ret))⟩
theorem F18_ok{x0 r}(h:F18 x0=some r):CallD Tryz.prog 18 [.agg [dS x0.Kind,dS x0.Namespace,dM (x0.Selector.map eRequirement)]] [] (tupV [.agg [dS x0.Kind,dS x0.Namespace,dM (x0.Selector.map eRequirement),dI 0,dB false,dM (([]:List Object).map eObject)]]) []:=by
 rw[F18]at h
 refine zc a18 (by kernel_rfl) rfl (ww ?_)
 cases h
 exact eF []
def F3(x0:Cache)(x1:(List Event))(x2:ByteArray):Option (Bool):=(((F8 x0).bind fun t2=>(if(nb t2)=true then some true else(F9 x1).bind fun t4=>(if(nb t4)=true then some true else some (decide (200<(x2.size:Int)))))).bind fun o1=>(if o1=true then(F10).bind fun t7=>some t7 else(F11 x0 x1).bind fun t8=>(((F12 x0 x1).bind fun t10=>some ((⟨(⟨(t10).Filter.Kind,(t10).Filter.Namespace,(t10).Filter.Selector⟩:Filter),(t10).Rev,(t10).Synced,(t10).Objects⟩:Cache))).bind fun o9=>(F13 ((⟨(⟨x0.Filter.Kind,x0.Filter.Namespace,t8.1⟩:Filter),t8.2.1,x0.Synced,t8.2.2⟩:Cache)) x2).bind fun t11=>(F14 ((⟨(⟨(o9).Filter.Kind,(o9).Filter.Namespace,(o9).Filter.Selector⟩:Filter),(o9).Rev,(o9).Synced,(o9).Objects⟩:Cache)) x2).bind fun t12=>(((F15 ((⟨(⟨x0.Filter.Kind,x0.Filter.Namespace,t8.1⟩:Filter),t8.2.1,x0.Synced,t8.2.2⟩:Cache)) ((⟨(⟨(o9).Filter.Kind,(o9).Filter.Namespace,(o9).Filter.Selector⟩:Filter),(o9).Rev,(o9).Synced,(o9).Objects⟩:Cache))).bind fun t14=>(if t14=true then(if(((t11.2.2.2.2.2.2.2.2.2.2.2.2.2.2.2.2.2.2.2.2.2.2.2==t12.2)!=false))=true then(F16 ((⟨(⟨t11.1,t11.2.1,t11.2.2.1,t11.2.2.2.1,t11.2.2.2.2.1,t11.2.2.2.2.2.1,t11.2.2.2.2.2.2.1,t11.2.2.2.2.2.2.2.1,t11.2.2.2.2.2.2.2.2.1,t11.2.2.2.2.2.2.2.2.2.1,t11.2.2.2.2.2.2.2.2.2.2.1,t11.2.2.2.2.2.2.2.2.2.2.2.1,t11.2.2.2.2.2.2.2.2.2.2.2.2.1⟩:Meta),(⟨t11.2.2.2.2.2.2.2.2.2.2.2.2.2.1,t11.2.2.2.2.2.2.2.2.2.2.2.2.2.2.1,t11.2.2.2.2.2.2.2.2.2.2.2.2.2.2.2.1,t11.2.2.2.2.2.2.2.2.2.2.2.2.2.2.2.2.1,t11.2.2.2.2.2.2.2.2.2.2.2.2.2.2.2.2.2.1⟩:TValue),(⟨t11.2.2.2.2.2.2.2.2.2.2.2.2.2.2.2.2.2.2.1,t11.2.2.2.2.2.2.2.2.2.2.2.2.2.2.2.2.2.2.2.1,t11.2.2.2.2.2.2.2.2.2.2.2.2.2.2.2.2.2.2.2.2.1,t11.2.2.2.2.2.2.2.2.2.2.2.2.2.2.2.2.2.2.2.2.2.1,t11.2.2.2.2.2.2.2.2.2.2.2.2.2.2.2.2.2.2.2.2.2.2.1⟩:TValue)⟩:Object)) ((⟨(⟨(t12.1).Meta.Kind,(t12.1).Meta.Namespace,(t12.1).Meta.Name,(t12.1).Meta.Uid,(t12.1).Meta.Version,(t12.1).Meta.Generation,(t12.1).Meta.Created,(t12.1).Meta.Deleting,(t12.1).Meta.DeleteAt,(t12.1).Meta.Labels,(t12.1).Meta.Owners,(t12.1).Meta.Finalizers,(t12.1).Meta.Managers⟩:Meta),(⟨(t12.1).Spec.Kind,(t12.1).Spec.N,(t12.1).Spec.S,(t12.1).Spec.List_,(t12.1).Spec.Fields⟩:TValue),(⟨(t12.1).Status.Kind,(t12.1).Status.N,(t12.1).Status.S,(t12.1).Status.List_,(t12.1).Status.Fields⟩:TValue)⟩:Object))).bind fun t17=>(if t17=true then(F17 x0.Filter).bind fun t19=>(F18 x0.Filter).bind fun t20=>(F15 ((⟨(⟨x0.Filter.Kind,x0.Filter.Namespace,t19⟩:Filter),0,false,[]⟩:Cache)) ((⟨x0.Filter,0,false,[]⟩:Cache))).bind fun t21=>(if t21=true then(F10).bind fun t23=>some t23 else some false)else some false)else some false)else some false)).bind fun o13=>some o13))))
def a3:AFn:=⟨70,[(.tmp 6)],
 (.seq (.reg [sq 3 (.box (.t 0)),
sq 6 (.mv (kB false))])
 (.seq (.seq (.sem (.reg [sq 13 (.load (some 6) (.t 3)),
sq 14 (.call 8 [(.t 13)]),
sq 15 (.not (.t 14)),
sq 16 (.mv (.t 15)),
zg 17 16 false (.mv (.t 1)),
zg 18 16 false (.call 9 [(.t 17)]),
zg 19 16 false (.not (.t 18)),
sq 20 (.pick (.t 16) (kB true) (.t 19)),
sq 21 (.mv (.t 20)),
zg 22 21 false (.mv (.t 2)),
zg 23 21 false (.slen (.t 22)),
zg 24 21 false (.bin .gtr (.t 23) (kI 200)),
sq 25 (.pick (.t 21) (kB true) (.t 24))]))
 (.cond (.t 25)
 (.seq (.reg [sq 26 (.call 10 []),
sq 6 (.mv (.t 26))])
 .ret)
 .skip))
 (.seq (.reg [sq 27 (.load (some 6) (.t 3)),
sq 28 (.mv (.t 1)),
sq 29 (.call 11 [(.t 27),(.t 28)]),
sq 7 (.zbox [dS ⟨#[]⟩,dS ⟨#[]⟩,dN,dI 0,dB false,dN]),
su (.store 6 (.t 7) (.t 29))])
 (.seq (.sem (.reg [sq 30 (.load (some 6) (.t 3)),
sq 31 (.mv (.t 1)),
sq 32 (.call 12 [(.t 30),(.t 31)]),
sq 8 (.zbox [dS ⟨#[]⟩,dS ⟨#[]⟩,dN,dI 0,dB false,dN]),
su (.store 6 (.t 8) (.t 32))]))
 (.seq (.reg [sq 34 (.load (some 6) (.t 7)),
sq 35 (.mv (.t 2)),
sq 36 (.call 13 [(.t 34),(.t 35)]),
sq 33 (.mv (.t 36)),
sq 37 (.ext (.t 33) 0),
sq 38 (.ext (.t 33) 1),
sq 9 (.zbox [dS ⟨#[]⟩,dS ⟨#[]⟩,dS ⟨#[]⟩,dI 0,dI 0,dI 0,dI 0,dB false,dI 0,dN,dN,dN,dN,dI 0,dI 0,dS ⟨#[]⟩,dN,dN,dI 0,dI 0,dS ⟨#[]⟩,dN,dN]),
su (.store 23 (.t 9) (.t 37)),
sq 10 (.mv (.t 38))])
 (.seq (.reg [sq 40 (.load (some 6) (.t 8)),
sq 41 (.mv (.t 2)),
sq 42 (.call 14 [(.t 40),(.t 41)]),
sq 39 (.mv (.t 42)),
sq 43 (.ext (.t 39) 0),
sq 44 (.ext (.t 39) 1),
sq 11 (.zbox [dS ⟨#[]⟩,dS ⟨#[]⟩,dS ⟨#[]⟩,dI 0,dI 0,dI 0,dI 0,dB false,dI 0,dN,dN,dN,dN,dI 0,dI 0,dS ⟨#[]⟩,dN,dN,dI 0,dI 0,dS ⟨#[]⟩,dN,dN]),
su (.store 23 (.t 11) (.t 43)),
sq 12 (.mv (.t 44))])
 (.seq (.sem (.regd [sq 45 (.load (some 6) (.t 7)),
sq 46 (.load (some 6) (.t 8)),
zl 47 (.call 15 [(.t 45),(.t 46)]) [0,1] [],
sd 48 (.mv (.t 47)) [0,1,2],
⟨(some 49),(some (48,true)),.mv (.t 10),[0,1,2,3],(.new [])⟩,
⟨(some 50),(some (48,true)),.mv (.t 12),[0,1,2,3],(.new [])⟩,
⟨(some 51),(some (48,true)),.beq false (.t 49) (.t 50),[0,1,2,3,4,5],(.new [])⟩,
zl 52 (.pick (.t 48) (.t 51) (kB false)) [0,1,2,3,4,5,6] [],
sd 53 (.mv (.t 52)) [0,1,2,3,4,5,6,7],
⟨(some 54),(some (53,true)),.load (some 23) (.t 9),[0,1,2,3,4,5,6,7,8],(.new [])⟩,
⟨(some 55),(some (53,true)),.load (some 23) (.t 11),[0,1,2,3,4,5,6,7,8],(.new [])⟩,
⟨(some 56),(some (53,true)),.call 16 [(.t 54),(.t 55)],[0,1,2,3,4,5,6,7,8,9,10],(.lone [])⟩,
zl 57 (.pick (.t 53) (.t 56) (kB false)) [0,1,2,3,4,5,6,7,8,9,10,11] [],
sd 58 (.mv (.t 57)) [0,1,2,3,4,5,6,7,8,9,10,11,12],
⟨(some 59),(some (58,true)),.fieldA 0 (.t 3),[0,1,2,3,4,5,6,7,8,9,10,11,12,13],(.new [])⟩,
⟨(some 60),(some (58,true)),.load (some 3) (.t 59),[0,1,2,3,4,5,6,7,8,9,10,11,12,13,14],(.new [])⟩,
⟨(some 61),(some (58,true)),.call 17 [(.t 60)],[0,1,2,3,4,5,6,7,8,9,10,11,12,13,14,15],(.new [14,15])⟩,
⟨(some 62),(some (58,true)),.fieldA 0 (.t 3),[0,1,2,3,4,5,6,7,8,9,10,11,12,13],(.new [])⟩,
⟨(some 63),(some (58,true)),.load (some 3) (.t 62),[0,1,2,3,4,5,6,7,8,9,10,11,12,13,17],(.new [])⟩,
⟨(some 64),(some (58,true)),.call 18 [(.t 63)],[0,1,2,3,4,5,6,7,8,9,10,11,12,13,14,15,16,17,18],(.lone [])⟩,
⟨(some 65),(some (58,true)),.call 15 [(.t 61),(.t 64)],[0,1,2,3,4,5,6,7,8,9,10,11,12,13,14,15,16,17,18,19],(.lone [])⟩,
zl 66 (.pick (.t 58) (.t 65) (kB false)) [0,1,2,3,4,5,6,7,8,9,10,11,12,13,14,15,16,17,18,19,20] [],
sd 67 (.mv (.t 66)) [0,1,2,3,4,5,6,7,8,9,10,11,12,13,14,15,16,17,18,19,20,21],
⟨(some 68),(some (67,true)),.call 10 [],[0,1,2,3,4,5,6,7,8,9,10,11,12,13,14,15,16,17,18,19,20,21,22],(.lone [])⟩,
zl 69 (.pick (.t 67) (.t 68) (kB false)) [0,1,2,3,4,5,6,7,8,9,10,11,12,13,14,15,16,17,18,19,20,21,22,23] [],
sd 6 (.mv (.t 69)) [0,1,2,3,4,5,6,7,8,9,10,11,12,13,14,15,16,17,18,19,20,21,22,23,24]]))
 .ret)))))))⟩
theorem F3_ok{x0 x1 x2 r}(h:F3 x0 x1 x2=some r):CallD Tryz.prog 3 [.agg [dS x0.Filter.Kind,dS x0.Filter.Namespace,dM (x0.Filter.Selector.map eRequirement),dI x0.Rev,dB x0.Synced,dM (x0.Objects.map eObject)],.c (dM (x1.map eEvent)),.c (dS x2)] [] (tupV [.c (dB r)]) []:=by
 rw[F3]at h
 refine zc a3 (by kernel_rfl) rfl (ww ?_)
 obtain⟨o1,ho,h⟩:=bi h
 refine cutS (fun s=>s=⟨[(1,.one (.c (dM (x1.map eEvent)))),(2,.one (.c (dS x2))),(3,.one (.c (.pt 0 0))),(25,.one (.c (dB o1)))],[some (.box [dS x0.Filter.Kind,dS x0.Filter.Namespace,dM (x0.Filter.Selector.map eRequirement),dI x0.Rev,dB x0.Synced,dM (x0.Objects.map eObject)])]⟩) ?_ ?_
 ·have h:=ho
  clear ho
  refine ww ?_
  obtain⟨t2,ht2,h⟩:=bi h
  refine cN [] (F8_ok ht2) trivial (ww ?_)
  refine guardSBh h (fun g3 h=>?_) (fun g3 h=>?_)
  ·refine ww ?_
   cases h
   exact eM [some 0] rfl
  refine ww ?_
  obtain⟨t4,ht4,h⟩:=bi h
  refine cN [] (F9_ok ht4) trivial (ww ?_)
  refine guardSBh h (fun g5 h=>?_) (fun g5 h=>?_)
  ·refine ww ?_
   cases h
   exact eM [some 0] rfl
  refine ww ?_
  cases h
  exact eM [some 0] rfl
 rintro _ rfl
 clear ho
 refine ww ?_
 refine condBh h (fun c6 h=>?_) (fun c6 h=>?_)
 ·refine ww ?_
  obtain⟨t7,ht7,h⟩:=bi h
  refine cN [] (F10_ok ht7) trivial (ww ?_)
  cases h
  exact eF []
 refine ww ?_
 obtain⟨t8,ht8,h⟩:=bi h
 refine cN [] (F11_ok ht8) trivial (ww ?_)
 obtain⟨o9,ho,h⟩:=bi h
 refine cutS (fun s=>s=⟨[(2,.one (.c (dS x2))),(3,.one (.c (.pt 0 0))),(7,.one (.c (.pt 1 0))),(8,.one (.c (.pt 2 0)))],[some (.box [dS x0.Filter.Kind,dS x0.Filter.Namespace,dM (x0.Filter.Selector.map eRequirement),dI x0.Rev,dB x0.Synced,dM (x0.Objects.map eObject)]),some (.box [dS x0.Filter.Kind,dS x0.Filter.Namespace,dM (t8.1.map eRequirement),dI t8.2.1,dB x0.Synced,dM (t8.2.2.map eObject)]),some (.box [dS ((o9).Filter.Kind),dS ((o9).Filter.Namespace),dM (((o9).Filter.Selector).map eRequirement),dI ((o9).Rev),dB ((o9).Synced),dM (((o9).Objects).map eObject)])]⟩) ?_ ?_
 ·have h:=ho
  clear ho
  refine ww ?_
  obtain⟨t10,ht10,h⟩:=bi h
  refine cN [] (F12_ok ht10) trivial (ww ?_)
  cases h
  exact eM [some 0,some 3,some 4] rfl
 rintro _ rfl
 clear ho
 refine ww ?_
 obtain⟨t11,ht11,h⟩:=bi h
 refine cN [] (F13_ok ht11) trivial (ww ?_)
 obtain⟨t12,ht12,h⟩:=bi h
 refine cN [] (F14_ok ht12) trivial (ww ?_)
 obtain⟨o13,ho,h⟩:=bi h
 refine cutS (fun s=>s=⟨[(6,.one (.c (dB o13)))],[]⟩) ?_ ?_
 ·have h:=ho
  clear ho
  refine ww ?_
  obtain⟨t14,ht14,h⟩:=bi h
  refine cN [] (F15_ok ht14) trivial (ww ?_)
  refine guardDBh h (fun g15 h=>?_) (fun g15 h=>?_)
  ·refine ww ?_
   refine guardDBh h (fun g16 h=>?_) (fun g16 h=>?_)
   ·refine ww ?_
    obtain⟨t17,ht17,h⟩:=bi h
    refine callX_bor (F16_ok ht17) (by simp only[borAs,bors,hp,List.getElem?_cons_zero,List.getElem?_cons_succ,Option.join_some,List.drop_zero,bor_full',true_and,Nat.zero_add,List.length_map,Nat.le_refl,nrm,List.length_cons,List.length_nil,Nat.reduceAdd,Nat.reduceLeDiff,List.take_succ_cons,List.take_zero,List.take_nil,List.map_cons,List.map_nil,List.length_set,EE.down]) rfl ?_
    refine ww ?_
    refine guardDBh h (fun g18 h=>?_) (fun g18 h=>?_)
    ·refine ww ?_
     obtain⟨t19,ht19,h⟩:=bi h
     refine cN [] (F17_ok ht19) trivial (ww ?_)
     refine kD_new (by simp[wrs,allW,hset]) (ww ?_)
     obtain⟨t20,ht20,h⟩:=bi h
     refine cN [] (F18_ok ht20) trivial (ww ?_)
     obtain⟨t21,ht21,h⟩:=bi h
     refine callX_bor (F15_ok ht21) (by simp only[borAs,bors,hp,List.getElem?_cons_zero,List.getElem?_cons_succ,Option.join_some,List.drop_zero,bor_full',true_and,Nat.zero_add,List.length_map,Nat.le_refl,nrm,List.length_cons,List.length_nil,Nat.reduceAdd,Nat.reduceLeDiff,List.take_succ_cons,List.take_zero,List.take_nil,List.map_cons,List.map_nil,List.length_set,EE.down]) rfl ?_
     refine ww ?_
     refine guardDBh h (fun g22 h=>?_) (fun g22 h=>?_)
     ·refine ww ?_
      obtain⟨t23,ht23,h⟩:=bi h
      refine cN [] (F10_ok ht23) trivial (ww ?_)
      cases h
      exact eM [] rfl
     refine ww ?_
     cases h
     exact eM [] rfl
    refine ww ?_
    cases h
    exact eM [] rfl
   refine ww ?_
   cases h
   exact eM [] rfl
  refine ww ?_
  cases h
  exact eM [] rfl
 rintro _ rfl
 clear ho
 refine ww ?_
 cases h
 exact eF []
end Go.Proofs.YtdkmamiedcanfaaGreat
