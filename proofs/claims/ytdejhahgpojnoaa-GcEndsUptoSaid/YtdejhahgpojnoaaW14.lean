/- Each Go function as a function over typed data, and its walk. -/
import Derived.Test.YtdejhahgpojnoaaW0
import Derived.Test.YtdejhahgpojnoaaW3
import Derived.Test.YtdejhahgpojnoaaW4
import Derived.Test.YtdejhahgpojnoaaW7
import Derived.Test.YtdejhahgpojnoaaW11
import Derived.Test.YtdejhahgpojnoaaW12
namespace Go.Proofs.Ytdejhahgpojnoaa
open Go Go.Fw Go.Shelf
set_option maxRecDepth 100000
set_option maxHeartbeats 4000000
set_option linter.unusedSimpArgs false
set_option linter.unusedVariables false
def F34_l17(x1:GcAction):List Owner→Nat→(List Owner)→Option ((List Owner))
 |[],o17_1,o17_0=>some o17_0
 |xo17::xs,o17_1,o17_0=>(((if¬(xo17.Uid=x1.Owner)then(apI o17_0 ([xo17])).bind fun a21=>some a21 else some o17_0)).bind fun o19=>F34_l17 x1 xs (o17_1+1) o19)
def F34(x0:Object)(x1:GcAction):Option (Object×Bool):=(((((if x1.Kind=1 then some (decide (x1.Kind=1))else some (decide (x1.Kind=4)))).bind fun o2=>(if o2=true then(((if x1.Kind=1 then some (decide ((x0.Meta.Finalizers.length:Int)=0))else some false)).bind fun o5=>(if o5=true then(some ((x0,false))).map Sum.inl else(if x1.Kind=4 then(F33 x0.Meta.Finalizers ((⟨#[102,111,114,101,103,114,111,117,110,100,45,100,101,108,101,116,105,111,110]⟩:ByteArray))).bind fun t9=>(apI t9 ([(⟨#[102,111,114,101,103,114,111,117,110,100,45,100,101,108,101,116,105,111,110]⟩:ByteArray)])).bind fun a10=>some (Sum.inr ((true,x0.Meta.Owners,a10)))else some (Sum.inr ((true,x0.Meta.Owners,x0.Meta.Finalizers))))))else(if x1.Kind=2 then(F33 x0.Meta.Finalizers x1.Name).bind fun t12=>(((if(t12.length:Int)=0 then some x0.Meta.Deleting else some false)).bind fun o13=>(if o13=true then(some ((x0,false))).map Sum.inl else some (Sum.inr ((x0.Meta.Deleting,x0.Meta.Owners,t12)))))else(if x1.Kind=3 then(((ck (0≤x0.Meta.Owners.length∧x0.Meta.Owners.length≤4294967290)).bind fun u22=>F34_l17 x1 x0.Meta.Owners 0 ([])).bind fun o17=>some (Sum.inr ((x0.Meta.Deleting,o17,x0.Meta.Finalizers))))else some (Sum.inr ((x0.Meta.Deleting,x0.Meta.Owners,x0.Meta.Finalizers))))))):Option ((Object×Bool) ⊕ (Bool×(List Owner)×(List ByteArray)))).bind fun o1=>match o1 with|Sum.inl f=>some f|Sum.inr po1=>some (((⟨(⟨x0.Meta.Kind,x0.Meta.Namespace,x0.Meta.Name,x0.Meta.Uid,x0.Meta.Version,x0.Meta.Generation,x0.Meta.Created,po1.1,x0.Meta.DeleteAt,x0.Meta.Labels,po1.2.1,po1.2.2,x0.Meta.Managers⟩:Meta),x0.Spec,x0.Status⟩:Object),true)))
def a34:AFn:=⟨90,[(.cell 4 (some 23)),(.tmp 5)],
 (.seq (.reg [Qg 2 0,
Qg 3 1,
sq 4 (.zbox [dS ⟨#[]⟩,dS ⟨#[]⟩,dS ⟨#[]⟩,dI 0,dI 0,dI 0,dI 0,dB false,dI 0,dN,dN,dN,dN,dI 0,dI 0,dS ⟨#[]⟩,dN,dN,dI 0,dI 0,dS ⟨#[]⟩,dN,dN]),
Qf 5 false])
 (.seq (.reg [Qb 9 0 2,
Qc 10 13 9,
sq 6 (.zbox [dS ⟨#[]⟩,dS ⟨#[]⟩,dS ⟨#[]⟩,dI 0,dI 0,dI 0,dI 0,dB false,dI 0,dN,dN,dN,dN]),
su (.store 13 (.t 6) (.t 10))])
 (.seq (.sem (.seq (.reg [Qb 11 0 3,
Qd 12 11])
 (.block 0 (.seq (.sem (.seq (.reg [Qr 14 12 1,
Qa 13 14])
 (.cond (.t 13)
 .skip
 (.reg [Qr 15 12 4,
Qa 13 15]))))
 (.cond (.t 13)
 (.seq (.seq (.sem (.reg [Qb 16 0 3,
Qd 17 16,
Qr 18 17 1,
Qa 19 18,
Qs 20 19 true 11 6,
Qt 21 19 true 20,
zg 22 19 true (.len (.t 21)),
zg 23 19 true (.bin .eql (.t 22) (kI 0)),
zl 24 (.pick (.t 19) (.t 23) (kB false)) [] [3,16,6,20,21]]))
 (.cond (.t 24)
 (.seq (.reg [Qc 25 23 2,
su (.store 23 (.t 4) (.t 25)),
Qf 5 false])
 .ret)
 .skip))
 (.seq (.reg [Qb 26 7 6,
⟨none,none,.store 1 (.t 26) (kB true),[],(.lone [6])⟩])
 (.seq (.reg [Qb 27 0 3,
Qd 28 27,
Qr 29 28 4])
 (.cond (.t 29)
 (.seq (.reg [Qb 30 11 6,
Qd 31 30,
sq 32 (.call 33 [(.t 31),(kS ⟨#[102,111,114,101,103,114,111,117,110,100,45,100,101,108,101,116,105,111,110]⟩)]),
Qa 7 32])
 (.seq (.reg [Qa 33 7,
sq 34 (.bslice 1 [(kS ⟨#[102,111,114,101,103,114,111,117,110,100,45,100,101,108,101,116,105,111,110]⟩)]),
sq 35 (.app 1 16 (.t 33) (.t 34)),
Qa 7 35])
 (.reg [Qa 36 7,
Qb 37 11 6,
⟨none,none,.store 1 (.t 37) (.t 36),[],(.lone [6])⟩])))
 .skip))))
 (.seq (.reg [Qr 39 12 2,
Qa 38 39])
 (.cond (.t 38)
 (.seq (.reg [Qb 40 11 6,
Qd 41 40,
Qb 42 4 3,
Qd 43 42,
Ql 44 33 41 43,
Qb 45 11 6,
su (.store 1 (.t 45) (.t 44))])
 (.seq (.sem (.reg [Qb 46 11 6,
Qd 47 46,
Qh 48 47,
Qr 49 48 0,
Qa 50 49,
Qs 51 50 true 7 6,
Qt 52 50 true 51,
zl 53 (.pick (.t 50) (.t 52) (kB false)) [] [6,46,47,6,51]]))
 (.cond (.t 53)
 (.seq (.reg [Qc 54 23 2,
su (.store 23 (.t 4) (.t 54)),
Qf 5 false])
 .ret)
 .skip)))
 (.seq (.reg [Qr 56 12 3,
Qa 55 56])
 (.cond (.t 55)
 (.seq (.reg [Qb 57 10 6,
⟨none,none,.store 1 (.t 57) kN,[],(.lone [6])⟩])
 (.seq (.reg [Qe 8 0])
 (.sem (.block 1 (.loop (.seq (.seq (.reg [Qa 58 8,
Qb 59 0 2,
Qb 60 10 59,
Qd 61 60,
Qh 62 61,
Qn 63 58 62])
 (.cond (.t 63)
 .skip
 (.exit 1)))
 (.seq (.sem (.block 2 (.seq (.regd [Qb 66 0 2,
sd 67 (.fieldA 10 (.t 66)) [0],
sd 68 (.load none (.t 67)) [0,1],
Qa 69 8,
sd 70 (.indexA 5 (.t 68) (.t 69)) [0,1,2,3],
sd 71 (.fieldA 2 (.t 70)) [0,1,2,3,4],
sd 72 (.load none (.t 71)) [0,1,2,3,4,5],
Qb 73 3 3,
sd 74 (.load none (.t 73)) [7],
sd 75 (.bin .neq (.t 72) (.t 74)) [0,1,2,3,4,5,6,7,8]])
 (.cond (.t 75)
 (.regd [Qb 76 10 6,
sd 77 (.load none (.t 76)) [0],
Qb 78 0 2,
sd 79 (.fieldA 10 (.t 78)) [2],
sd 80 (.load none (.t 79)) [2,3],
Qa 81 8,
sd 82 (.indexA 5 (.t 80) (.t 81)) [2,3,4,5],
sd 83 (.load (some 5) (.t 82)) [2,3,4,5,6],
zl 84 (.bslice 5 [(.t 83)]) [2,3,4,5,6,7] [6,76],
zl 85 (.app 5 48 (.t 77) (.t 84)) [0,1,2,3,4,5,6,7,8] [],
sd 86 (.fieldA 10 (.t 6)) [0,1,2,3,4,5,6,7,8,9],
⟨none,none,.store 1 (.t 86) (.t 85),[0,1,2,3,4,5,6,7,8,9,10],(.lone [])⟩])
 .skip))))
 (.reg [Qa 64 8,
Qm 65 64 1,
Qa 8 65]))))))))
 .skip)))))))))
 (.seq (.reg [Qc 87 13 6,
Qb 88 0 2,
⟨none,none,.store 13 (.t 88) (.t 87),[],(.lone [6,2])⟩])
 (.seq (.reg [Qc 89 23 2,
su (.store 23 (.t 4) (.t 89)),
Qf 5 true])
 .ret)))))⟩
theorem F34_ok{x0 x1 r}(h:F34 x0 x1=some r):CallD Try.prog 34 [.agg (bObject x0),.agg (bGcAction x1)] [] (tupV [.agg (bObject (r.1)),.c (dB r.2)]) []:=by
 rw[F34]at h
 refine zc a34 (by kernel_rfl) rfl (ww ?_)
 obtain⟨o1,ho,h⟩:=bi h
 refine cutS (fun s=>∃po1,o1=Sum.inr po1∧s=⟨[(2,Pz 0),(4,Pz 1),(6,Pz 2)],[xb (bObject x0),xb [dS ((⟨#[]⟩:ByteArray)),dS ((⟨#[]⟩:ByteArray)),dS ((⟨#[]⟩:ByteArray)),dI 0,dI 0,dI 0,dI 0,dB false,dI 0,dN,dN,dN,dN,dI 0,dI 0,dS ((⟨#[]⟩:ByteArray)),dN,dN,dI 0,dI 0,dS ((⟨#[]⟩:ByteArray)),dN,dN],xb [dS x0.Meta.Kind,dS x0.Meta.Namespace,dS x0.Meta.Name,dI x0.Meta.Uid,dI x0.Meta.Version,dI x0.Meta.Generation,dI x0.Meta.Created,dB po1.1,dI x0.Meta.DeleteAt,dM (x0.Meta.Labels.map eLabel),dM (po1.2.1.map eOwner),dM (po1.2.2.map eS),dM (x0.Meta.Managers.map eManager)]]⟩) ?_ ?_
 ·have h0o1:=h
  have h:=ho
  clear ho
  refine ww ?_
  obtain⟨o2,ho,h⟩:=bi h
  refine cutS (fun s=>s=⟨[(2,Pz 0),(3,Pz 1),(4,Pz 2),(6,Pz 3),(12,oc (dI x1.Kind)),(13,oc (dB o2))],[xb (bObject x0),xb (bGcAction x1),xb [dS ((⟨#[]⟩:ByteArray)),dS ((⟨#[]⟩:ByteArray)),dS ((⟨#[]⟩:ByteArray)),dI 0,dI 0,dI 0,dI 0,dB false,dI 0,dN,dN,dN,dN,dI 0,dI 0,dS ((⟨#[]⟩:ByteArray)),dN,dN,dI 0,dI 0,dS ((⟨#[]⟩:ByteArray)),dN,dN],xb (bMeta x0.Meta)]⟩) ?_ ?_
  ·have h:=ho
   clear ho
   refine ww ?_
   refine condSh h (fun c3 h=>ww ?_) (fun c3 h=>ww ?_)
   ·cases h
    exact eM [some 0,some 1,some 2,some 3] rfl
   cases h
   exact eM [some 0,some 1,some 2,some 3] rfl
  rintro _ rfl
  clear ho
  refine ww ?_
  refine condBh h (fun c4 h=>ww ?_) (fun c4 h=>ww ?_)
  ·obtain⟨o5,ho,h⟩:=bi h
   refine cutS (fun s=>s=⟨[(2,Pz 0),(3,Pz 1),(4,Pz 2),(6,Pz 3),(24,oc (dB o5))],[xb (bObject x0),xb (bGcAction x1),xb [dS ((⟨#[]⟩:ByteArray)),dS ((⟨#[]⟩:ByteArray)),dS ((⟨#[]⟩:ByteArray)),dI 0,dI 0,dI 0,dI 0,dB false,dI 0,dN,dN,dN,dN,dI 0,dI 0,dS ((⟨#[]⟩:ByteArray)),dN,dN,dI 0,dI 0,dS ((⟨#[]⟩:ByteArray)),dN,dN],xb (bMeta x0.Meta)]⟩) ?_ ?_
   ·have h:=ho
    clear ho
    refine ww ?_
    refine guardSh h (fun g6 h=>ww ?_) (fun g6 h=>ww ?_)
    ·cases h
     exact eM [some 0,some 1,some 2,some 3] rfl
    cases h
    exact eM [some 0,some 1,some 2,some 3] rfl
   rintro _ rfl
   clear ho
   refine ww ?_
   refine condBh h (fun c7 h=>ww ?_) (fun c7 h=>ww ?_)
   ·obtain⟨fh0o1,hfh0o1,rfl⟩:=Option.map_eq_some_iff.1 h
    have h:=hfh0o1.trans h0o1
    cases h
    exact eF []
   refine condSh h (fun c8 h=>ww ?_) (fun c8 h=>ww ?_)
   ·obtain⟨t9,ht9,h⟩:=bi h
    refine cN [] (F33_ok ht9) trivial (ww ?_)
    refine t_bslice (enc:=eS) (ys:=[(⟨#[102,111,114,101,103,114,111,117,110,100,45,100,101,108,101,116,105,111,110]⟩:ByteArray)]) rfl rfl (by simp[A1.cells]) (by first|rfl|(simp only[List.drop_zero,take_mapL];rfl)|(simp only[lit,List.map_cons,List.map_nil,List.drop_zero,take_mapL,EE.down];done)|(simp only[lit,List.map_cons,List.map_nil,List.drop_zero,take_mapL,EE.down];rfl)) (ww ?_)
    obtain⟨a10,ha10,h⟩:=bi h
    refine t_app (enc:=eS) (xs:=t9) rfl rfl (by first|rfl|simp only[List.length_set]|exact(clrL_len (slI_len (by assumption))).symm) rfl (rows_full (enc:=eS) (by first|rfl|simp only[List.length_set]|exact(clrL_len (slI_len (by assumption))).symm) rfl) ha10 (ww ?_)
    cases h
    exact eM [some 0,some 2,some 3] ⟨_,rfl,rfl⟩
   cases h
   exact eM [some 0,some 2,some 3] ⟨_,rfl,rfl⟩
  refine condSh h (fun c11 h=>ww ?_) (fun c11 h=>ww ?_)
  ·obtain⟨t12,ht12,h⟩:=bi h
   refine cN [] (F33_ok ht12) trivial (ww ?_)
   obtain⟨o13,ho,h⟩:=bi h
   refine cutS (fun s=>s=⟨[(2,Pz 0),(4,Pz 1),(6,Pz 2),(53,oc (dB o13))],[xb (bObject x0),xb [dS ((⟨#[]⟩:ByteArray)),dS ((⟨#[]⟩:ByteArray)),dS ((⟨#[]⟩:ByteArray)),dI 0,dI 0,dI 0,dI 0,dB false,dI 0,dN,dN,dN,dN,dI 0,dI 0,dS ((⟨#[]⟩:ByteArray)),dN,dN,dI 0,dI 0,dS ((⟨#[]⟩:ByteArray)),dN,dN],xb [dS x0.Meta.Kind,dS x0.Meta.Namespace,dS x0.Meta.Name,dI x0.Meta.Uid,dI x0.Meta.Version,dI x0.Meta.Generation,dI x0.Meta.Created,dB x0.Meta.Deleting,dI x0.Meta.DeleteAt,dM (x0.Meta.Labels.map eLabel),dM (x0.Meta.Owners.map eOwner),.own 3 0 0 (t12.length) none,dM (x0.Meta.Managers.map eManager)],some (.arr 0 1 (t12.map eS))]⟩) ?_ ?_
   ·have h:=ho
    clear ho
    refine ww ?_
    refine guardSh h (fun g14 h=>ww ?_) (fun g14 h=>ww ?_)
    ·cases h
     exact eM [some 0,some 2,some 3,some 4] rfl
    cases h
    exact eM [some 0,some 2,some 3,some 4] rfl
   rintro _ rfl
   clear ho
   refine ww ?_
   refine condBh h (fun c15 h=>ww ?_) (fun c15 h=>ww ?_)
   ·obtain⟨fh0o1,hfh0o1,rfl⟩:=Option.map_eq_some_iff.1 h
    have h:=hfh0o1.trans h0o1
    cases h
    exact eF []
   cases h
   exact eM [some 0,some 1,some 2] ⟨_,rfl,rfl⟩
  refine condSh h (fun c16 h=>ww ?_) (fun c16 h=>ww ?_)
  ·obtain⟨o17,ho,h⟩:=bi h
   refine cutS (fun s=>s=⟨[(2,Pz 0),(4,Pz 1),(6,Pz 2)],[xb (bObject x0),xb [dS ((⟨#[]⟩:ByteArray)),dS ((⟨#[]⟩:ByteArray)),dS ((⟨#[]⟩:ByteArray)),dI 0,dI 0,dI 0,dI 0,dB false,dI 0,dN,dN,dN,dN,dI 0,dI 0,dS ((⟨#[]⟩:ByteArray)),dN,dN,dI 0,dI 0,dS ((⟨#[]⟩:ByteArray)),dN,dN],xb [dS x0.Meta.Kind,dS x0.Meta.Namespace,dS x0.Meta.Name,dI x0.Meta.Uid,dI x0.Meta.Version,dI x0.Meta.Generation,dI x0.Meta.Created,dB x0.Meta.Deleting,dI x0.Meta.DeleteAt,dM (x0.Meta.Labels.map eLabel),.own 3 0 0 (o17.length) none,dM (x0.Meta.Finalizers.map eS),dM (x0.Meta.Managers.map eManager)],some (.arr 0 5 (o17.map eOwner))]⟩) ?_ ?_
   ·have h:=ho
    clear ho
    obtain⟨_,hk,h⟩:=bi h
    have hk:=ck_some hk
    refine ww ?_
    refine bL (fun j s=>∃(o17_1:Nat) (o17_0:List Owner),(o17_1≤x0.Meta.Owners.length∧j=x0.Meta.Owners.length-o17_1)∧s=⟨[(2,Pz 0),(3,Pz 1),(4,Pz 2),(6,Pz 3),(8,oc (dI ((o17_1:Int))))],[xb (bObject x0),xb (bGcAction x1),xb [dS ((⟨#[]⟩:ByteArray)),dS ((⟨#[]⟩:ByteArray)),dS ((⟨#[]⟩:ByteArray)),dI 0,dI 0,dI 0,dI 0,dB false,dI 0,dN,dN,dN,dN,dI 0,dI 0,dS ((⟨#[]⟩:ByteArray)),dN,dN,dI 0,dI 0,dS ((⟨#[]⟩:ByteArray)),dN,dN],xb [dS x0.Meta.Kind,dS x0.Meta.Namespace,dS x0.Meta.Name,dI x0.Meta.Uid,dI x0.Meta.Version,dI x0.Meta.Generation,dI x0.Meta.Created,dB x0.Meta.Deleting,dI x0.Meta.DeleteAt,dM (x0.Meta.Labels.map eLabel),.own 4 0 0 (o17_0.length) none,dM (x0.Meta.Finalizers.map eS),dM (x0.Meta.Managers.map eManager)],some (.arr 0 5 (o17_0.map eOwner))]⟩∧F34_l17 x1 (x0.Meta.Owners.drop o17_1) o17_1 o17_0=some o17) (x0.Meta.Owners.length-0) [some 0,some 1,some 2,some 3,none] ⟨0,[],⟨hk.1,rfl⟩,rfl,h⟩ ?_
    rintro _ _ ⟨o17_1,o17_0,⟨hi,rfl⟩,rfl,h⟩
    refine ww ?_
    refine condS (fun c18=>?_) (fun c18=>?_)
    ·obtain⟨xo17,hxo17,hd⟩:=countY (show(o17_1:Int)<(x0.Meta.Owners.length:Int)from c18)
     rw[hd,F34_l17]at h
     refine ww ?_
     obtain⟨o19,ho,h⟩:=bi h
     refine cutS (fun s=>s=⟨[(2,Pz 0),(3,Pz 1),(4,Pz 2),(6,Pz 3),(8,oc (dI ((o17_1:Int))))],[xb (bObject x0),xb (bGcAction x1),xb [dS ((⟨#[]⟩:ByteArray)),dS ((⟨#[]⟩:ByteArray)),dS ((⟨#[]⟩:ByteArray)),dI 0,dI 0,dI 0,dI 0,dB false,dI 0,dN,dN,dN,dN,dI 0,dI 0,dS ((⟨#[]⟩:ByteArray)),dN,dN,dI 0,dI 0,dS ((⟨#[]⟩:ByteArray)),dN,dN],xb [dS x0.Meta.Kind,dS x0.Meta.Namespace,dS x0.Meta.Name,dI x0.Meta.Uid,dI x0.Meta.Version,dI x0.Meta.Generation,dI x0.Meta.Created,dB x0.Meta.Deleting,dI x0.Meta.DeleteAt,dM (x0.Meta.Labels.map eLabel),.own 4 0 0 (o19.length) none,dM (x0.Meta.Finalizers.map eS),dM (x0.Meta.Managers.map eManager)],some (.arr 0 5 (o19.map eOwner))]⟩) ?_ ?_
     ·have h:=ho
      clear ho
      refine ww ?_
      refine t_idxF (enc:=eOwner) (xs:=x0.Meta.Owners) rfl rfl hxo17 rfl (ww ?_)
      refine condSh h (fun c20 h=>ww ?_) (fun c20 h=>ww ?_)
      ·refine t_idxF (enc:=eOwner) (xs:=x0.Meta.Owners) rfl rfl hxo17 rfl (ww ?_)
       refine t_bslice (enc:=eOwner) (ys:=[xo17]) rfl rfl (by simp[A1.cells]) (by first|rfl|(simp only[List.drop_zero,take_mapL];rfl)|(simp only[lit,List.map_cons,List.map_nil,List.drop_zero,take_mapL,EE.down];done)|(simp only[lit,List.map_cons,List.map_nil,List.drop_zero,take_mapL,EE.down];rfl)) (ww ?_)
       obtain⟨a21,ha21,h⟩:=bi h
       refine t_app (enc:=eOwner) (xs:=o17_0) rfl rfl (by first|rfl|simp only[List.length_set]|exact(clrL_len (slI_len (by assumption))).symm) rfl (rows_full (enc:=eOwner) (by first|rfl|simp only[List.length_set]|exact(clrL_len (slI_len (by assumption))).symm) rfl) ha21 (ww ?_)
       cases h
       exact eM [some 0,some 1,some 2,some 3,some 4] rfl
      cases h
      exact eM [some 0,some 1,some 2,some 3,some 4] rfl
     rintro _ rfl
     clear ho
     refine ww ?_
     rw[wrapN (by omega)]
     exact eL' (x0.Meta.Owners.length-(o17_1+1)) [some 0,some 1,some 2,some 3,some 4] ⟨o17_1+1,o19,⟨by omega,rfl⟩,rfl,h⟩ (by omega)
    rw[countN (show¬((o17_1:Int)<(x0.Meta.Owners.length:Int))from c18),F34_l17]at h
    refine ww ?_
    cases h
    exact eM [some 0,some 2,some 3,some 4] rfl
   rintro _ rfl
   clear ho
   refine ww ?_
   cases h
   exact eM [some 0,some 1,some 2] ⟨_,rfl,rfl⟩
  cases h
  exact eM [some 0,some 2,some 3] ⟨_,rfl,rfl⟩
 rintro _ ⟨po1,rfl,rfl⟩
 clear ho
 dsimp only at h
 refine ww ?_
 cases h
 exact eF []
def F17_l4(xo1:Object):List GcAction→Nat→Object→Bool→Option (Object×Bool)
 |[],o4_2,o4_0,o4_1=>some (((⟨(⟨(o4_0).Meta.Kind,(o4_0).Meta.Namespace,(o4_0).Meta.Name,(o4_0).Meta.Uid,(o4_0).Meta.Version,(o4_0).Meta.Generation,(o4_0).Meta.Created,(o4_0).Meta.Deleting,(o4_0).Meta.DeleteAt,(o4_0).Meta.Labels,(o4_0).Meta.Owners,(o4_0).Meta.Finalizers,(o4_0).Meta.Managers⟩:Meta),(⟨(o4_0).Spec.Kind,(o4_0).Spec.N,(o4_0).Spec.S,(o4_0).Spec.List_,(o4_0).Spec.Fields⟩:TValue),(⟨(o4_0).Status.Kind,(o4_0).Status.N,(o4_0).Status.S,(o4_0).Status.List_,(o4_0).Status.Fields⟩:TValue)⟩:Object),o4_1))
 |xo4::xs,o4_2,o4_0,o4_1=>(((((F30 xo1.Meta).bind fun t8=>(if xo4.Key=t8 then some (decide (xo4.Uid=xo1.Meta.Uid))else some false)).bind fun o7=>(if o7=true then(F34 xo1 xo4).bind fun t11=>some (((⟨(⟨(t11.1).Meta.Kind,(t11.1).Meta.Namespace,(t11.1).Meta.Name,(t11.1).Meta.Uid,(t11.1).Meta.Version,(t11.1).Meta.Generation,(t11.1).Meta.Created,(t11.1).Meta.Deleting,(t11.1).Meta.DeleteAt,(t11.1).Meta.Labels,(t11.1).Meta.Owners,(t11.1).Meta.Finalizers,(t11.1).Meta.Managers⟩:Meta),(⟨(t11.1).Spec.Kind,(t11.1).Spec.N,(t11.1).Spec.S,(t11.1).Spec.List_,(t11.1).Spec.Fields⟩:TValue),(⟨(t11.1).Status.Kind,(t11.1).Status.N,(t11.1).Status.S,(t11.1).Status.List_,(t11.1).Status.Fields⟩:TValue)⟩:Object),t11.2))else some (((⟨(⟨(o4_0).Meta.Kind,(o4_0).Meta.Namespace,(o4_0).Meta.Name,(o4_0).Meta.Uid,(o4_0).Meta.Version,(o4_0).Meta.Generation,(o4_0).Meta.Created,(o4_0).Meta.Deleting,(o4_0).Meta.DeleteAt,(o4_0).Meta.Labels,(o4_0).Meta.Owners,(o4_0).Meta.Finalizers,(o4_0).Meta.Managers⟩:Meta),(⟨(o4_0).Spec.Kind,(o4_0).Spec.N,(o4_0).Spec.S,(o4_0).Spec.List_,(o4_0).Spec.Fields⟩:TValue),(⟨(o4_0).Status.Kind,(o4_0).Status.N,(o4_0).Status.S,(o4_0).Status.List_,(o4_0).Status.Fields⟩:TValue)⟩:Object),o4_1))))).bind fun o6=>F17_l4 xo1 xs (o4_2+1) ((⟨(⟨(o6.1).Meta.Kind,(o6.1).Meta.Namespace,(o6.1).Meta.Name,(o6.1).Meta.Uid,(o6.1).Meta.Version,(o6.1).Meta.Generation,(o6.1).Meta.Created,(o6.1).Meta.Deleting,(o6.1).Meta.DeleteAt,(o6.1).Meta.Labels,(o6.1).Meta.Owners,(o6.1).Meta.Finalizers,(o6.1).Meta.Managers⟩:Meta),(⟨(o6.1).Spec.Kind,(o6.1).Spec.N,(o6.1).Spec.S,(o6.1).Spec.List_,(o6.1).Spec.Fields⟩:TValue),(⟨(o6.1).Status.Kind,(o6.1).Status.N,(o6.1).Status.S,(o6.1).Status.List_,(o6.1).Status.Fields⟩:TValue)⟩:Object)) o6.2)
def F17_l1(x1:(List GcAction)):List Object→Nat→(List Object)→Option ((List Object))
 |[],o1_1,o1_0=>some o1_0
 |xo1::xs,o1_1,o1_0=>(((((ck (0≤x1.length∧x1.length≤4294967290)).bind fun u12=>F17_l4 xo1 x1 0 xo1 true).bind fun o4=>(if o4.2=true then(apI o1_0 ([(⟨(⟨(o4.1).Meta.Kind,(o4.1).Meta.Namespace,(o4.1).Meta.Name,(o4.1).Meta.Uid,(o4.1).Meta.Version,(o4.1).Meta.Generation,(o4.1).Meta.Created,(o4.1).Meta.Deleting,(o4.1).Meta.DeleteAt,(o4.1).Meta.Labels,(o4.1).Meta.Owners,(o4.1).Meta.Finalizers,(o4.1).Meta.Managers⟩:Meta),(⟨(o4.1).Spec.Kind,(o4.1).Spec.N,(o4.1).Spec.S,(o4.1).Spec.List_,(o4.1).Spec.Fields⟩:TValue),(⟨(o4.1).Status.Kind,(o4.1).Status.N,(o4.1).Status.S,(o4.1).Status.List_,(o4.1).Status.Fields⟩:TValue)⟩:Object)])).bind fun a14=>some a14 else some o1_0))).bind fun o3=>F17_l1 x1 xs (o1_1+1) o3)
def F17(x0:(List Object))(x1:(List GcAction)):Option ((List Object)):=(((ck (0≤x0.length∧x0.length≤4294967290)).bind fun u15=>F17_l1 x1 x0 0 ([])).bind fun o1=>some o1)
def a17:AFn:=⟨70,[(.tmp 4)],
 (.seq (.reg [sq 4 (.mv kN)])
 (.seq (.reg [sq 5 (.mv kN)])
 (.seq (.seq (.reg [Qe 6 0])
 (.sem (.block 0 (.loop (.seq (.seq (.reg [Qa 10 6,
Qa 11 0,
Qh 12 11,
Qn 13 10 12])
 (.cond (.t 13)
 .skip
 (.exit 0)))
 (.seq (.sem (.block 1 (.seq (.reg [Qa 16 0,
Qa 17 6,
Qp 18 23 16 17,
Qc 19 23 18,
sq 7 (.zbox [dS ⟨#[]⟩,dS ⟨#[]⟩,dS ⟨#[]⟩,dI 0,dI 0,dI 0,dI 0,dB false,dI 0,dN,dN,dN,dN,dI 0,dI 0,dS ⟨#[]⟩,dN,dN,dI 0,dI 0,dS ⟨#[]⟩,dN,dN]),
su (.store 23 (.t 7) (.t 19)),
Qf 8 true])
 (.seq (.seq (.reg [Qe 9 0])
 (.sem (.block 2 (.loop (.seq (.seq (.reg [Qa 20 9,
Qa 21 1,
Qh 22 21,
Qn 23 20 22])
 (.cond (.t 23)
 .skip
 (.exit 2)))
 (.seq (.sem (.block 3 (.seq (.sem (.regd [Qa 26 1,
Qa 27 9,
sd 28 (.indexA 5 (.t 26) (.t 27)) [0,1],
sd 29 (.fieldA 1 (.t 28)) [0,1,2],
sd 30 (.load none (.t 29)) [0,1,2,3],
Qa 31 0,
Qa 32 6,
sd 33 (.indexA 23 (.t 31) (.t 32)) [5,6],
sd 34 (.fieldA 0 (.t 33)) [5,6,7],
sd 35 (.load (some 13) (.t 34)) [5,6,7,8],
zl 36 (.call 30 [(.t 35)]) [5,6,7,8,9] [26,28,29],
sd 37 (.bin .eql (.t 30) (.t 36)) [0,1,2,3,4,5,6,7,8,9,10],
sd 38 (.mv (.t 37)) [0,1,2,3,4,5,6,7,8,9,10,11],
⟨(some 39),(some (38,true)),.mv (.t 1),[0,1,2,3,4,5,6,7,8,9,10,11,12],(.new [])⟩,
⟨(some 40),(some (38,true)),.mv (.t 9),[0,1,2,3,4,5,6,7,8,9,10,11,12],(.new [])⟩,
⟨(some 41),(some (38,true)),.indexA 5 (.t 39) (.t 40),[0,1,2,3,4,5,6,7,8,9,10,11,12,13,14],(.new [])⟩,
⟨(some 42),(some (38,true)),.fieldA 2 (.t 41),[0,1,2,3,4,5,6,7,8,9,10,11,12,13,14,15],(.new [])⟩,
⟨(some 43),(some (38,true)),.load none (.t 42),[0,1,2,3,4,5,6,7,8,9,10,11,12,13,14,15,16],(.new [])⟩,
⟨(some 44),(some (38,true)),.mv (.t 0),[0,1,2,3,4,5,6,7,8,9,10,11,12],(.new [])⟩,
⟨(some 45),(some (38,true)),.mv (.t 6),[0,1,2,3,4,5,6,7,8,9,10,11,12],(.new [])⟩,
⟨(some 46),(some (38,true)),.indexA 23 (.t 44) (.t 45),[0,1,2,3,4,5,6,7,8,9,10,11,12,18,19],(.new [])⟩,
⟨(some 47),(some (38,true)),.fieldA 0 (.t 46),[0,1,2,3,4,5,6,7,8,9,10,11,12,18,19,20],(.new [])⟩,
⟨(some 48),(some (38,true)),.fieldA 3 (.t 47),[0,1,2,3,4,5,6,7,8,9,10,11,12,18,19,20,21],(.new [])⟩,
⟨(some 49),(some (38,true)),.load none (.t 48),[0,1,2,3,4,5,6,7,8,9,10,11,12,18,19,20,21,22],(.new [])⟩,
⟨(some 50),(some (38,true)),.bin .eql (.t 43) (.t 49),[0,1,2,3,4,5,6,7,8,9,10,11,12,13,14,15,16,17,18,19,20,21,22,23],(.new [])⟩,
zl 51 (.pick (.t 38) (.t 50) (kB false)) [0,1,2,3,4,5,6,7,8,9,10,11,12,13,14,15,16,17,18,19,20,21,22,23,24] []]))
 (.cond (.t 51)
 (.regd [Qa 53 0,
Qa 54 6,
sd 55 (.indexA 23 (.t 53) (.t 54)) [0,1],
sd 56 (.load (some 23) (.t 55)) [0,1,2],
Qa 57 1,
Qa 58 9,
sd 59 (.indexA 5 (.t 57) (.t 58)) [4,5],
sd 60 (.load (some 5) (.t 59)) [4,5,6],
zl 61 (.call 34 [(.t 56),(.t 60)]) [0,1,2,3,4,5,6,7] [],
sd 52 (.mv (.t 61)) [0,1,2,3,4,5,6,7,8],
sd 62 (.ext (.t 52) 0) [0,1,2,3,4,5,6,7,8,9],
sd 63 (.ext (.t 52) 1) [0,1,2,3,4,5,6,7,8,9],
⟨none,none,.store 23 (.t 7) (.t 62),[0,1,2,3,4,5,6,7,8,9,10],(.lone [])⟩,
sd 8 (.mv (.t 63)) [0,1,2,3,4,5,6,7,8,9,10,11,12]])
 .skip))))
 (.reg [Qa 24 9,
Qm 25 24 1,
Qa 9 25])))))))
 (.seq (.reg [Qa 64 8])
 (.cond (.t 64)
 (.reg [Qa 65 5,
Qc 66 23 7,
sq 67 (.bslice 23 [(.t 66)]),
sq 68 (.app 23 352 (.t 65) (.t 67)),
Qa 5 68])
 .skip))))))
 (.reg [Qa 14 6,
Qm 15 14 1,
Qa 6 15])))))))
 (.seq (.reg [Qa 69 5,
Qa 4 69])
 .ret))))⟩
theorem F17_ok{x0 x1 r}(h:F17 x0 x1=some r):CallD Try.prog 17 [.c (dM (x0.map eObject)),.c (dM (x1.map eGcAction))] [] (tupV [.c (.own 0 0 0 (r.length) none)]) [some (.arr 0 23 (r.map eObject))]:=by
 rw[F17]at h
 refine zc a17 (by kernel_rfl) rfl (ww ?_)
 obtain⟨o1,ho,h⟩:=bi h
 refine cutS (fun s=>s=⟨[(5,oc (.own 0 0 0 (o1.length) none))],[some (.arr 0 23 (o1.map eObject))]⟩) ?_ ?_
 ·have h:=ho
  clear ho
  obtain⟨_,hk,h⟩:=bi h
  have hk:=ck_some hk
  refine ww ?_
  refine bL (fun j s=>∃(o1_1:Nat) (o1_0:List Object),(o1_1≤x0.length∧j=x0.length-o1_1)∧s=⟨[(0,oc (dM (x0.map eObject))),(1,oc (dM (x1.map eGcAction))),(5,oc (.own 0 0 0 (o1_0.length) none)),(6,oc (dI ((o1_1:Int))))],[some (.arr 0 23 (o1_0.map eObject))]⟩∧F17_l1 x1 (x0.drop o1_1) o1_1 o1_0=some o1) (x0.length-0) [none] ⟨0,[],⟨hk.1,rfl⟩,rfl,h⟩ ?_
  rintro _ _ ⟨o1_1,o1_0,⟨hi,rfl⟩,rfl,h⟩
  refine ww ?_
  refine condS (fun c2=>?_) (fun c2=>?_)
  ·obtain⟨xo1,hxo1,hd⟩:=countY (show(o1_1:Int)<(x0.length:Int)from c2)
   rw[hd,F17_l1]at h
   refine ww ?_
   obtain⟨o3,ho,h⟩:=bi h
   refine cutS (fun s=>s=⟨[(0,oc (dM (x0.map eObject))),(1,oc (dM (x1.map eGcAction))),(5,oc (.own 0 0 0 (o3.length) none)),(6,oc (dI ((o1_1:Int))))],[some (.arr 0 23 (o3.map eObject))]⟩) ?_ ?_
   ·have h:=ho
    clear ho
    refine ww ?_
    refine t_idxF (enc:=eObject) (xs:=x0) rfl rfl hxo1 rfl (ww ?_)
    obtain⟨o4,ho,h⟩:=bi h
    refine cutS (fun s=>s=⟨[(0,oc (dM (x0.map eObject))),(1,oc (dM (x1.map eGcAction))),(5,oc (.own 0 0 0 (o1_0.length) none)),(6,oc (dI ((o1_1:Int)))),(7,Pz 1),(8,oc (dB o4.2))],[some (.arr 0 23 (o1_0.map eObject)),xb (bObject (o4.1))]⟩) ?_ ?_
    ·have h:=ho
     clear ho
     obtain⟨_,hk,h⟩:=bi h
     have hk:=ck_some hk
     refine ww ?_
     refine bL (fun j s=>∃(o4_2:Nat) (o4_0:Object) (o4_1:Bool),(o4_2≤x1.length∧j=x1.length-o4_2)∧s=⟨[(0,oc (dM (x0.map eObject))),(1,oc (dM (x1.map eGcAction))),(5,oc (.own 0 0 0 (o1_0.length) none)),(6,oc (dI ((o1_1:Int)))),(7,Pz 1),(8,oc (dB o4_1)),(9,oc (dI ((o4_2:Int))))],[some (.arr 0 23 (o1_0.map eObject)),xb (bObject (o4_0))]⟩∧F17_l4 xo1 (x1.drop o4_2) o4_2 o4_0 o4_1=some o4) (x1.length-0) [some 0,some 1] ⟨0,xo1,true,⟨hk.1,rfl⟩,rfl,h⟩ ?_
     rintro _ _ ⟨o4_2,o4_0,o4_1,⟨hi,rfl⟩,rfl,h⟩
     refine ww ?_
     refine condS (fun c5=>?_) (fun c5=>?_)
     ·obtain⟨xo4,hxo4,hd⟩:=countY (show(o4_2:Int)<(x1.length:Int)from c5)
      rw[hd,F17_l4]at h
      refine ww ?_
      obtain⟨o6,ho,h⟩:=bi h
      refine cutS (fun s=>s=⟨[(0,oc (dM (x0.map eObject))),(1,oc (dM (x1.map eGcAction))),(5,oc (.own 0 0 0 (o1_0.length) none)),(6,oc (dI ((o1_1:Int)))),(7,Pz 1),(8,oc (dB o6.2)),(9,oc (dI ((o4_2:Int))))],[some (.arr 0 23 (o1_0.map eObject)),xb (bObject (o6.1))]⟩) ?_ ?_
      ·have h:=ho
       clear ho
       refine ww ?_
       obtain⟨o7,ho,h⟩:=bi h
       refine cutS (fun s=>s=⟨[(0,oc (dM (x0.map eObject))),(1,oc (dM (x1.map eGcAction))),(5,oc (.own 0 0 0 (o1_0.length) none)),(6,oc (dI ((o1_1:Int)))),(7,Pz 1),(8,oc (dB o4_1)),(9,oc (dI ((o4_2:Int)))),(51,oc (dB o7))],[some (.arr 0 23 (o1_0.map eObject)),xb (bObject (o4_0))]⟩) ?_ ?_
       ·have h:=ho
        clear ho
        refine ww ?_
        refine t_idxF (enc:=eGcAction) (xs:=x1) rfl rfl hxo4 rfl (ww ?_)
        refine t_idxF (enc:=eObject) (xs:=x0) rfl rfl hxo1 rfl (ww ?_)
        obtain⟨t8,ht8,h⟩:=bi h
        refine cN [] (F30_ok ht8) trivial (ww ?_)
        refine guardDh h (fun g9 h=>ww ?_) (fun g9 h=>ww ?_)
        ·refine t_idxF (enc:=eGcAction) (xs:=x1) rfl rfl hxo4 rfl (ww ?_)
         refine t_idxF (enc:=eObject) (xs:=x0) rfl rfl hxo1 rfl (ww ?_)
         cases h
         exact eM [some 0,some 1] rfl
        cases h
        exact eM [some 0,some 1] rfl
       rintro _ rfl
       clear ho
       refine ww ?_
       refine condBh h (fun c10 h=>ww ?_) (fun c10 h=>ww ?_)
       ·refine t_idxF (enc:=eObject) (xs:=x0) rfl rfl hxo1 rfl (ww ?_)
        refine t_idxF (enc:=eGcAction) (xs:=x1) rfl rfl hxo4 rfl (ww ?_)
        obtain⟨t11,ht11,h⟩:=bi h
        refine cN [] (F34_ok ht11) trivial (ww ?_)
        cases h
        exact eM [some 0,some 1] rfl
       cases h
       exact eM [some 0,some 1] rfl
      rintro _ rfl
      clear ho
      refine ww ?_
      rw[wrapN (by omega)]
      exact eL' (x1.length-(o4_2+1)) [some 0,some 1] ⟨o4_2+1,(⟨(⟨(o6.1).Meta.Kind,(o6.1).Meta.Namespace,(o6.1).Meta.Name,(o6.1).Meta.Uid,(o6.1).Meta.Version,(o6.1).Meta.Generation,(o6.1).Meta.Created,(o6.1).Meta.Deleting,(o6.1).Meta.DeleteAt,(o6.1).Meta.Labels,(o6.1).Meta.Owners,(o6.1).Meta.Finalizers,(o6.1).Meta.Managers⟩:Meta),(⟨(o6.1).Spec.Kind,(o6.1).Spec.N,(o6.1).Spec.S,(o6.1).Spec.List_,(o6.1).Spec.Fields⟩:TValue),(⟨(o6.1).Status.Kind,(o6.1).Status.N,(o6.1).Status.S,(o6.1).Status.List_,(o6.1).Status.Fields⟩:TValue)⟩:Object),o6.2,⟨by omega,rfl⟩,rfl,h⟩ (by omega)
     rw[countN (show¬((o4_2:Int)<(x1.length:Int))from c5),F17_l4]at h
     refine ww ?_
     cases h
     exact eM [some 0,some 1] rfl
    rintro _ rfl
    clear ho
    refine ww ?_
    refine condBh h (fun c13 h=>ww ?_) (fun c13 h=>ww ?_)
    ·refine t_bslice (enc:=eObject) (ys:=[(⟨(⟨(o4.1).Meta.Kind,(o4.1).Meta.Namespace,(o4.1).Meta.Name,(o4.1).Meta.Uid,(o4.1).Meta.Version,(o4.1).Meta.Generation,(o4.1).Meta.Created,(o4.1).Meta.Deleting,(o4.1).Meta.DeleteAt,(o4.1).Meta.Labels,(o4.1).Meta.Owners,(o4.1).Meta.Finalizers,(o4.1).Meta.Managers⟩:Meta),(⟨(o4.1).Spec.Kind,(o4.1).Spec.N,(o4.1).Spec.S,(o4.1).Spec.List_,(o4.1).Spec.Fields⟩:TValue),(⟨(o4.1).Status.Kind,(o4.1).Status.N,(o4.1).Status.S,(o4.1).Status.List_,(o4.1).Status.Fields⟩:TValue)⟩:Object)]) rfl rfl (by simp[A1.cells]) (by first|rfl|(simp only[List.drop_zero,take_mapL];rfl)|(simp only[lit,List.map_cons,List.map_nil,List.drop_zero,take_mapL,EE.down];done)|(simp only[lit,List.map_cons,List.map_nil,List.drop_zero,take_mapL,EE.down];rfl)) (ww ?_)
     obtain⟨a14,ha14,h⟩:=bi h
     refine t_app (enc:=eObject) (xs:=o1_0) rfl rfl (by first|rfl|simp only[List.length_set]|exact(clrL_len (slI_len (by assumption))).symm) rfl (rows_full (enc:=eObject) (by first|rfl|simp only[List.length_set]|exact(clrL_len (slI_len (by assumption))).symm) rfl) ha14 (ww ?_)
     cases h
     exact eM [some 0] rfl
    cases h
    exact eM [some 0] rfl
   rintro _ rfl
   clear ho
   refine ww ?_
   rw[wrapN (by omega)]
   exact eL' (x0.length-(o1_1+1)) [some 0] ⟨o1_1+1,o3,⟨by omega,rfl⟩,rfl,h⟩ (by omega)
  rw[countN (show¬((o1_1:Int)<(x0.length:Int))from c2),F17_l1]at h
  refine ww ?_
  cases h
  exact eM [some 0] rfl
 rintro _ rfl
 clear ho
 refine ww ?_
 cases h
 exact eF [some 0]
def F5_l9:List Object→Nat→Int→Option (Int)
 |[],o9_1,o9_0=>some o9_0
 |xo9::xs,o9_1,o9_0=>F5_l9 xs (o9_1+1) ((IntKind.i64.wrap (((IntKind.i64.wrap (o9_0+((xo9.Meta.Owners.length:Int)))))+((xo9.Meta.Finalizers.length:Int)))))
def F5_l13:Nat→(List Object)→Int→(List GcAction)→Option (((List Object))×(List GcAction))
 |0,_,_,_=>none
 |k+1,o13_0,o13_1,o13_2=>(((if 0<(o13_2.length:Int)then some (decide (0<o13_1))else some false)).bind fun o14=>(if o14=true then(F17 o13_0 o13_2).bind fun t17=>(F10 t17).bind fun t18=>F5_l13 k t17 ((IntKind.i64.wrap (o13_1-1))) t18 else some ((o13_0,o13_2))))
def F5_l26(o24_1:Int)(xo20:Object):List Object→Nat→Bool→Option (Bool)
 |[],o26_1,o26_0=>some o26_0
 |xo26::xs,o26_1,o26_0=>(((if o26_0=true then(rdI xo20.Meta.Owners o24_1).bind fun y30=>some (decide (¬(xo26.Meta.Uid=y30.Uid)))else some false)).bind fun o28=>F5_l26 o24_1 xo20 xs (o26_1+1) o28)
def F5_l24(o13:((List Object))×(List GcAction))(xo20:Object):Nat→Bool→Int→Option (Bool)
 |0,_,_=>none
 |k+1,o24_0,o24_1=>(if o24_1<(xo20.Meta.Owners.length:Int)then(((ck (0≤o13.1.length∧o13.1.length≤4294967290)).bind fun u31=>F5_l26 o24_1 xo20 o13.1 0 o24_0).bind fun o26=>F5_l24 o13 xo20 k o26 ((IntKind.i64.wrap (o24_1+1))))else some o24_0)
def F5_l20(o13:((List Object))×(List GcAction)):List Object→Nat→Option ((Bool) ⊕ (Unit))
 |[],o20_0=>some (Sum.inr (()))
 |xo20::xs,o20_0=>(((if 0<(xo20.Meta.Owners.length:Int)then some (nb xo20.Meta.Deleting)else some false)).bind fun o22=>((F5_l24 o13 xo20 1099511627776 o22 0).bind fun o24=>(if o24=true then(some false).map Sum.inl else F5_l20 o13 xs (o20_0+1))))
def F5(x0:(List Object)):Option (Bool):=(((F7 x0).bind fun t2=>(if t2=true then some true else(F16 x0).bind fun t4=>(if(nb t4)=true then some true else(F14 x0).bind fun t6=>some (nb t6)))).bind fun o1=>(if o1=true then(F8).bind fun t8=>some t8 else(((ck (0≤x0.length∧x0.length≤4294967290)).bind fun u11=>F5_l9 x0 0 ((IntKind.i64.wrap (4*((x0.length:Int)))))).bind fun o9=>(F10 x0).bind fun t12=>((F5_l13 1099511627776 x0 o9 t12).bind fun o13=>(if 0<(o13.2.length:Int)then some false else(((ck (0≤o13.1.length∧o13.1.length≤4294967290)).bind fun u33=>F5_l20 o13 o13.1 0:Option ((Bool) ⊕ (Unit))).bind fun o20=>match o20 with|Sum.inl f=>some f|Sum.inr po20=>(F8).bind fun t34=>some t34))))))
def a5:AFn:=⟨130,[(.tmp 2)],
 (.seq (.reg [Qf 2 false])
 (.seq (.seq (.sem (.reg [Qa 10 0,
Qk 11 7 10,
Qa 12 11,
Qv 13 12 false 0,
zg 14 12 false (.call 16 [(.t 13)]),
zg 15 12 false (.not (.t 14)),
Qj 16 12 15,
Qa 17 16,
Qv 18 17 false 0,
zg 19 17 false (.call 14 [(.t 18)]),
zg 20 17 false (.not (.t 19)),
Qj 21 17 20]))
 (.cond (.t 21)
 (.seq (.reg [sq 22 (.call 8 []),
Qa 2 22])
 .ret)
 .skip))
 (.seq (.reg [Qa 23 0,
Qh 24 23,
sq 25 (.bin .mul (kI 4) (.t 24)),
Qa 3 25])
 (.seq (.seq (.reg [Qe 4 0])
 (.sem (.block 0 (.loop (.seq (.seq (.reg [Qa 26 4,
Qa 27 0,
Qh 28 27,
Qn 29 26 28])
 (.cond (.t 29)
 .skip
 (.exit 0)))
 (.seq (.block 1 (.regd [Qa 32 3,
Qa 33 0,
Qa 34 4,
sd 35 (.indexA 23 (.t 33) (.t 34)) [1,2],
sd 36 (.fieldA 0 (.t 35)) [1,2,3],
sd 37 (.fieldA 10 (.t 36)) [1,2,3,4],
sd 38 (.load none (.t 37)) [1,2,3,4,5],
sd 39 (.len (.t 38)) [1,2,3,4,5,6],
sd 40 (.bin .add (.t 32) (.t 39)) [0,1,2,3,4,5,6,7],
Qa 41 0,
Qa 42 4,
sd 43 (.indexA 23 (.t 41) (.t 42)) [9,10],
sd 44 (.fieldA 0 (.t 43)) [9,10,11],
sd 45 (.fieldA 11 (.t 44)) [9,10,11,12],
sd 46 (.load none (.t 45)) [9,10,11,12,13],
sd 47 (.len (.t 46)) [9,10,11,12,13,14],
sd 48 (.bin .add (.t 40) (.t 47)) [0,1,2,3,4,5,6,7,8,9,10,11,12,13,14,15],
sd 3 (.mv (.t 48)) [0,1,2,3,4,5,6,7,8,9,10,11,12,13,14,15,16]]))
 (.reg [Qa 30 4,
Qm 31 30 1,
Qa 4 31])))))))
 (.seq (.reg [Qa 49 0,
Qk 50 10 49,
Qa 5 50])
 (.seq (.sem (.block 2 (.loop (.seq (.seq (.sem (.reg [Qa 51 5,
Qh 52 51,
sq 53 (.bin .gtr (.t 52) (kI 0)),
Qa 54 53,
Qv 55 54 true 3,
zg 56 54 true (.bin .gtr (.t 55) (kI 0)),
zl 57 (.pick (.t 54) (.t 56) (kB false)) [] [51]]))
 (.cond (.t 57)
 .skip
 (.exit 2)))
 (.block 3 (.seq (.reg [Qa 58 0,
Qa 59 5,
Ql 60 17 58 59,
Qa 0 60])
 (.seq (.reg [Qa 61 0,
Qk 62 10 61,
Qa 5 62])
 (.reg [Qa 63 3,
sq 64 (.bin .sub (.t 63) (kI 1)),
Qa 3 64]))))))))
 (.seq (.seq (.reg [Qa 65 5,
Qh 66 65,
sq 67 (.bin .gtr (.t 66) (kI 0))])
 (.cond (.t 67)
 (.seq (.reg [Qf 2 false])
 .ret)
 .skip))
 (.seq (.seq (.reg [Qe 6 0])
 (.sem (.block 4 (.loop (.seq (.seq (.reg [Qa 68 6,
Qa 69 0,
Qh 70 69,
Qn 71 68 70])
 (.cond (.t 71)
 .skip
 (.exit 4)))
 (.seq (.block 5 (.seq (.sem (.reg [Qa 74 0,
Qa 75 6,
Qp 76 23 74 75,
Qb 77 0 76,
Qb 78 10 77,
Qd 79 78,
Qh 80 79,
sq 81 (.bin .gtr (.t 80) (kI 0)),
Qa 82 81,
Qv 83 82 true 0,
Qv 84 82 true 6,
zg 85 82 true (.indexA 23 (.t 83) (.t 84)),
Qs 86 82 true 0 85,
Qs 87 82 true 7 86,
Qt 88 82 true 87,
zg 89 82 true (.not (.t 88)),
Qi 90 82 89,
Qa 7 90]))
 (.seq (.seq (.reg [Qe 8 0])
 (.sem (.block 6 (.loop (.seq (.seq (.reg [Qa 91 8,
Qa 92 0,
Qa 93 6,
Qp 94 23 92 93,
Qb 95 0 94,
Qb 96 10 95,
Qd 97 96,
Qh 98 97,
Qn 99 91 98])
 (.cond (.t 99)
 .skip
 (.exit 6)))
 (.seq (.block 7 (.seq (.reg [Qe 9 0])
 (.sem (.block 8 (.loop (.seq (.seq (.reg [Qa 102 9,
Qa 103 0,
Qh 104 103,
Qn 105 102 104])
 (.cond (.t 105)
 .skip
 (.exit 8)))
 (.seq (.sem (.block 9 (.regd [Qa 108 7,
sd 109 (.mv (.t 108)) [0],
⟨(some 110),(some (109,true)),.mv (.t 0),[0,1],(.new [])⟩,
⟨(some 111),(some (109,true)),.mv (.t 9),[0,1],(.new [])⟩,
⟨(some 112),(some (109,true)),.indexA 23 (.t 110) (.t 111),[0,1,2,3],(.new [])⟩,
⟨(some 113),(some (109,true)),.fieldA 0 (.t 112),[0,1,2,3,4],(.new [])⟩,
⟨(some 114),(some (109,true)),.fieldA 3 (.t 113),[0,1,2,3,4,5],(.new [])⟩,
⟨(some 115),(some (109,true)),.load none (.t 114),[0,1,2,3,4,5,6],(.new [])⟩,
⟨(some 116),(some (109,true)),.mv (.t 0),[0,1],(.new [])⟩,
⟨(some 117),(some (109,true)),.mv (.t 6),[0,1],(.new [])⟩,
⟨(some 118),(some (109,true)),.indexA 23 (.t 116) (.t 117),[0,1,8,9],(.new [])⟩,
⟨(some 119),(some (109,true)),.fieldA 0 (.t 118),[0,1,8,9,10],(.new [])⟩,
⟨(some 120),(some (109,true)),.fieldA 10 (.t 119),[0,1,8,9,10,11],(.new [])⟩,
⟨(some 121),(some (109,true)),.load none (.t 120),[0,1,8,9,10,11,12],(.new [])⟩,
⟨(some 122),(some (109,true)),.mv (.t 8),[0,1],(.new [])⟩,
⟨(some 123),(some (109,true)),.indexA 5 (.t 121) (.t 122),[0,1,8,9,10,11,12,13,14],(.new [])⟩,
⟨(some 124),(some (109,true)),.fieldA 2 (.t 123),[0,1,8,9,10,11,12,13,14,15],(.new [])⟩,
⟨(some 125),(some (109,true)),.load none (.t 124),[0,1,8,9,10,11,12,13,14,15,16],(.new [])⟩,
⟨(some 126),(some (109,true)),.bin .neq (.t 115) (.t 125),[0,1,2,3,4,5,6,7,8,9,10,11,12,13,14,15,16,17],(.new [])⟩,
zl 127 (.pick (.t 109) (.t 126) (kB false)) [0,1,2,3,4,5,6,7,8,9,10,11,12,13,14,15,16,17,18] [],
sd 7 (.mv (.t 127)) [0,1,2,3,4,5,6,7,8,9,10,11,12,13,14,15,16,17,18,19]])))
 (.reg [Qa 106 9,
Qm 107 106 1,
Qa 9 107]))))))))
 (.reg [Qa 100 8,
Qm 101 100 1,
Qa 8 101])))))))
 (.seq (.reg [Qa 128 7])
 (.cond (.t 128)
 (.seq (.reg [Qf 2 false])
 .ret)
 .skip)))))
 (.reg [Qa 72 6,
Qm 73 72 1,
Qa 6 73])))))))
 (.seq (.reg [sq 129 (.call 8 []),
Qa 2 129])
 .ret)))))))))⟩
theorem F5_ok{x0 r}(h:F5 x0=some r):CallD Try.prog 5 [.c (dM (x0.map eObject))] [] (tupV [.c (dB r)]) []:=by
 rw[F5]at h
 refine zc a5 (by kernel_rfl) rfl (ww ?_)
 obtain⟨o1,ho,h⟩:=bi h
 refine cutS (fun s=>s=⟨[(0,oc (dM (x0.map eObject))),(21,oc (dB o1))],[]⟩) ?_ ?_
 ·have h:=ho
  clear ho
  refine ww ?_
  obtain⟨t2,ht2,h⟩:=bi h
  refine cN [] (F7_ok ht2) trivial (ww ?_)
  refine guardSBh h (fun g3 h=>ww ?_) (fun g3 h=>ww ?_)
  ·cases h
   exact eM [] rfl
  obtain⟨t4,ht4,h⟩:=bi h
  refine cN [] (F16_ok ht4) trivial (ww ?_)
  refine guardSBh h (fun g5 h=>ww ?_) (fun g5 h=>ww ?_)
  ·cases h
   exact eM [] rfl
  obtain⟨t6,ht6,h⟩:=bi h
  refine cN [] (F14_ok ht6) trivial (ww ?_)
  cases h
  exact eM [] rfl
 rintro _ rfl
 clear ho
 refine ww ?_
 refine condBh h (fun c7 h=>ww ?_) (fun c7 h=>ww ?_)
 ·obtain⟨t8,ht8,h⟩:=bi h
  refine cN [] (F8_ok ht8) trivial (ww ?_)
  cases h
  exact eF []
 obtain⟨o9,ho,h⟩:=bi h
 refine cutS (fun s=>s=⟨[(0,oc (dM (x0.map eObject))),(3,oc (dI o9))],[]⟩) ?_ ?_
 ·have h:=ho
  clear ho
  obtain⟨_,hk,h⟩:=bi h
  have hk:=ck_some hk
  refine ww ?_
  refine bL (fun j s=>∃(o9_1:Nat) (o9_0:Int),(o9_1≤x0.length∧j=x0.length-o9_1)∧s=⟨[(0,oc (dM (x0.map eObject))),(3,oc (dI o9_0)),(4,oc (dI ((o9_1:Int))))],[]⟩∧F5_l9 (x0.drop o9_1) o9_1 o9_0=some o9) (x0.length-0) [] ⟨0,(IntKind.i64.wrap (4*((x0.length:Int)))),⟨hk.1,rfl⟩,rfl,h⟩ ?_
  rintro _ _ ⟨o9_1,o9_0,⟨hi,rfl⟩,rfl,h⟩
  refine ww ?_
  refine condS (fun c10=>?_) (fun c10=>?_)
  ·obtain⟨xo9,hxo9,hd⟩:=countY (show(o9_1:Int)<(x0.length:Int)from c10)
   rw[hd,F5_l9]at h
   refine ww ?_
   refine t_idxF (enc:=eObject) (xs:=x0) rfl rfl hxo9 rfl (ww ?_)
   refine t_idxF (enc:=eObject) (xs:=x0) rfl rfl hxo9 rfl (ww ?_)
   rw[wrapN (by omega)]
   exact eL' (x0.length-(o9_1+1)) [] ⟨o9_1+1,(IntKind.i64.wrap (((IntKind.i64.wrap (o9_0+((xo9.Meta.Owners.length:Int)))))+((xo9.Meta.Finalizers.length:Int)))),⟨by omega,rfl⟩,rfl,h⟩ (by omega)
  rw[countN (show¬((o9_1:Int)<(x0.length:Int))from c10),F5_l9]at h
  refine ww ?_
  cases h
  exact eM [] rfl
 rintro _ rfl
 clear ho
 refine ww ?_
 obtain⟨t12,ht12,h⟩:=bi h
 refine cN [] (F10_ok ht12) trivial (ww ?_)
 obtain⟨o13,ho,h⟩:=bi h
 refine cutS (fun s=>s=⟨[(0,oc (dM (o13.1.map eObject))),(5,oc (.own 0 0 0 (o13.2.length) none))],[some (.arr 0 5 (o13.2.map eGcAction))]⟩) ?_ ?_
 ·have h:=ho
  clear ho
  refine ww ?_
  refine bL (fun j s=>∃(o13_0:List Object) (o13_1:Int) (o13_2:List GcAction),s=⟨[(0,oc (dM (o13_0.map eObject))),(3,oc (dI o13_1)),(5,oc (.own 0 0 0 (o13_2.length) none))],[some (.arr 0 5 (o13_2.map eGcAction))]⟩∧F5_l13 j o13_0 o13_1 o13_2=some o13) 1099511627776 [some 0] ⟨x0,o9,t12,rfl,h⟩ ?_
  rintro j _ ⟨o13_0,o13_1,o13_2,rfl,h⟩
  cases j with
  |zero=>cases(show(none:Option _)=some _ from h)
  |succ j=>
   rw[F5_l13]at h
   refine ww ?_
   obtain⟨o14,ho,h⟩:=bi h
   refine cutS (fun s=>s=⟨[(0,oc (dM (o13_0.map eObject))),(3,oc (dI o13_1)),(5,oc (.own 0 0 0 (o13_2.length) none)),(57,oc (dB o14))],[some (.arr 0 5 (o13_2.map eGcAction))]⟩) ?_ ?_
   ·have h:=ho
    clear ho
    refine ww ?_
    refine guardSh h (fun g15 h=>ww ?_) (fun g15 h=>?_)
    ·cases h
     exact eM [some 0] rfl
    ·refine ww ?_
     cases h
     exact eM [some 0] rfl
   ·rintro _ rfl
    clear ho
    refine ww ?_
    refine condBh h (fun c16 h=>ww ?_) (fun c16 h=>?_)
    ·obtain⟨t17,ht17,h⟩:=bi h
     refine callX_gen (as1:=[.c (dM (o13_0.map eObject)),.c (dM (o13_2.map eGcAction))]) [(0,.arr 1 5 [])] [none] [] (F17_ok ht17) ⟨?_,rfl,?_⟩ ?_ ?_ ?_ ?_ ?_ ?_ ?_ ?_
     ·simp only[ZZ.down,Nat.reduceEqDiff,reduceCtorEq,Nat.reduceAdd,Nat.reduceLeDiff,Nat.reduceLT,Nat.reduceBNe,EE.down]
     ·simp only[ZZ.down,Nat.reduceEqDiff,reduceCtorEq,Nat.reduceAdd,Nat.reduceLeDiff,Nat.reduceLT,Nat.reduceBNe,EE.down]
     ·simp only[ZZ.down,Nat.reduceEqDiff,reduceCtorEq,Nat.reduceAdd,Nat.reduceLeDiff,Nat.reduceLT,Nat.reduceBNe,EE.down]
     ·rfl
     ·rfl
     ·simp[liveAll,A1.live,C.live]
     ·rfl
     ·decide
     ·exact trivial
     refine ww ?_
     obtain⟨t18,ht18,h⟩:=bi h
     refine callX_borF (F10_ok ht18) (by simp only[borAs,bors,hp,List.getElem?_cons_zero,List.getElem?_cons_succ,Option.join_some,List.drop_zero,bor_full',true_and,Nat.zero_add,List.length_map,Nat.le_refl,nrm,List.length_cons,List.length_nil,Nat.reduceAdd,Nat.reduceLeDiff,List.take_succ_cons,List.take_zero,List.take_nil,List.map_cons,List.map_nil,List.length_set,EE.down]) rfl ⟨flat_rows (enc:=eGcAction) (fun _=>rfl) _,trivial⟩ ?_
     refine ww ?_
     exact eL' j [some 2] ⟨t17,(IntKind.i64.wrap (o13_1-1)),t18,rfl,h⟩ (Nat.lt_succ_self _)
    ·refine ww ?_
     cases h
     exact eM [some 0] rfl
 rintro _ rfl
 clear ho
 refine ww ?_
 refine condSh h (fun c19 h=>ww ?_) (fun c19 h=>ww ?_)
 ·cases h
  exact eF []
 obtain⟨o20,ho,h⟩:=bi h
 refine cutS (fun s=>∃po20,o20=Sum.inr po20∧s=⟨[],[]⟩) ?_ ?_
 ·have h0o20:=h
  have h:=ho
  clear ho
  obtain⟨_,hk,h⟩:=bi h
  have hk:=ck_some hk
  refine ww ?_
  refine bL (fun j s=>∃(o20_0:Nat),(o20_0≤o13.1.length∧j=o13.1.length-o20_0)∧s=⟨[(0,oc (dM (o13.1.map eObject))),(6,oc (dI ((o20_0:Int))))],[]⟩∧F5_l20 o13 (o13.1.drop o20_0) o20_0=some o20) (o13.1.length-0) [] ⟨0,⟨hk.1,rfl⟩,rfl,h⟩ ?_
  rintro _ _ ⟨o20_0,⟨hi,rfl⟩,rfl,h⟩
  refine ww ?_
  refine condS (fun c21=>?_) (fun c21=>?_)
  ·obtain⟨xo20,hxo20,hd⟩:=countY (show(o20_0:Int)<(o13.1.length:Int)from c21)
   rw[hd,F5_l20]at h
   refine ww ?_
   obtain⟨o22,ho,h⟩:=bi h
   refine cutS (fun s=>s=⟨[(0,oc (dM (o13.1.map eObject))),(6,oc (dI ((o20_0:Int)))),(7,oc (dB o22))],[]⟩) ?_ ?_
   ·have h:=ho
    clear ho
    refine ww ?_
    refine t_idxF (enc:=eObject) (xs:=o13.1) rfl rfl hxo20 rfl (ww ?_)
    refine guardSh h (fun g23 h=>ww ?_) (fun g23 h=>ww ?_)
    ·refine t_idxF (enc:=eObject) (xs:=o13.1) rfl rfl hxo20 rfl (ww ?_)
     cases h
     exact eM [] rfl
    cases h
    exact eM [] rfl
   rintro _ rfl
   clear ho
   refine ww ?_
   obtain⟨o24,ho,h⟩:=bi h
   refine cutS (fun s=>s=⟨[(0,oc (dM (o13.1.map eObject))),(6,oc (dI ((o20_0:Int)))),(7,oc (dB o24))],[]⟩) ?_ ?_
   ·have h:=ho
    clear ho
    refine ww ?_
    refine bL (fun j s=>∃(o24_0:Bool) (o24_1:Int),s=⟨[(0,oc (dM (o13.1.map eObject))),(6,oc (dI ((o20_0:Int)))),(7,oc (dB o24_0)),(8,oc (dI o24_1))],[]⟩∧F5_l24 o13 xo20 j o24_0 o24_1=some o24) 1099511627776 [] ⟨o22,0,rfl,h⟩ ?_
    rintro j _ ⟨o24_0,o24_1,rfl,h⟩
    cases j with
    |zero=>cases(show(none:Option _)=some _ from h)
    |succ j=>
     rw[F5_l24]at h
     refine ww ?_
     refine t_idxF (enc:=eObject) (xs:=o13.1) rfl rfl hxo20 rfl (ww ?_)
     refine condSh h (fun c25 h=>ww ?_) (fun c25 h=>?_)
     ·obtain⟨o26,ho,h⟩:=bi h
      refine cutS (fun s=>s=⟨[(0,oc (dM (o13.1.map eObject))),(6,oc (dI ((o20_0:Int)))),(7,oc (dB o26)),(8,oc (dI o24_1))],[]⟩) ?_ ?_
      ·have h:=ho
       clear ho
       obtain⟨_,hk,h⟩:=bi h
       have hk:=ck_some hk
       refine ww ?_
       refine bL (fun j s=>∃(o26_1:Nat) (o26_0:Bool),(o26_1≤o13.1.length∧j=o13.1.length-o26_1)∧s=⟨[(0,oc (dM (o13.1.map eObject))),(6,oc (dI ((o20_0:Int)))),(7,oc (dB o26_0)),(8,oc (dI o24_1)),(9,oc (dI ((o26_1:Int))))],[]⟩∧F5_l26 o24_1 xo20 (o13.1.drop o26_1) o26_1 o26_0=some o26) (o13.1.length-0) [] ⟨0,o24_0,⟨hk.1,rfl⟩,rfl,h⟩ ?_
       rintro _ _ ⟨o26_1,o26_0,⟨hi,rfl⟩,rfl,h⟩
       refine ww ?_
       refine condS (fun c27=>?_) (fun c27=>?_)
       ·obtain⟨xo26,hxo26,hd⟩:=countY (show(o26_1:Int)<(o13.1.length:Int)from c27)
        rw[hd,F5_l26]at h
        refine ww ?_
        obtain⟨o28,ho,h⟩:=bi h
        refine cutS (fun s=>s=⟨[(0,oc (dM (o13.1.map eObject))),(6,oc (dI ((o20_0:Int)))),(7,oc (dB o28)),(8,oc (dI o24_1)),(9,oc (dI ((o26_1:Int))))],[]⟩) ?_ ?_
        ·have h:=ho
         clear ho
         refine ww ?_
         refine guardDBh h (fun g29 h=>ww ?_) (fun g29 h=>?_)
         ·refine t_idxF (enc:=eObject) (xs:=o13.1) rfl rfl hxo26 rfl (ww ?_)
          refine t_idxF (enc:=eObject) (xs:=o13.1) rfl rfl hxo20 rfl (ww ?_)
          obtain⟨y30,hy30,h⟩:=bi h
          refine t_idxF (enc:=eOwner) (xs:=xo20.Meta.Owners) rfl rfl hy30 rfl (ww ?_)
          cases h
          exact eM [] rfl
         ·refine ww ?_
          cases h
          exact eM [] rfl
        ·rintro _ rfl
         clear ho
         refine ww ?_
         rw[wrapN (by omega)]
         exact eL' (o13.1.length-(o26_1+1)) [] ⟨o26_1+1,o28,⟨by omega,rfl⟩,rfl,h⟩ (by omega)
       ·rw[countN (show¬((o26_1:Int)<(o13.1.length:Int))from c27),F5_l26]at h
        refine ww ?_
        cases h
        exact eM [] rfl
      ·rintro _ rfl
       clear ho
       refine ww ?_
       exact eL' j [] ⟨o26,(IntKind.i64.wrap (o24_1+1)),rfl,h⟩ (Nat.lt_succ_self _)
     ·refine ww ?_
      cases h
      exact eM [] rfl
   rintro _ rfl
   clear ho
   refine ww ?_
   refine condBh h (fun c32 h=>ww ?_) (fun c32 h=>ww ?_)
   ·obtain⟨fh0o20,hfh0o20,rfl⟩:=Option.map_eq_some_iff.1 h
    have h:=hfh0o20.trans h0o20
    cases h
    exact eF []
   rw[wrapN (by omega)]
   exact eL' (o13.1.length-(o20_0+1)) [] ⟨o20_0+1,⟨by omega,rfl⟩,rfl,h⟩ (by omega)
  rw[countN (show¬((o20_0:Int)<(o13.1.length:Int))from c21),F5_l20]at h
  refine ww ?_
  cases h
  exact eM [] ⟨_,rfl,rfl⟩
 rintro _ ⟨po20,rfl,rfl⟩
 clear ho
 dsimp only at h
 refine ww ?_
 obtain⟨t34,ht34,h⟩:=bi h
 refine cN [] (F8_ok ht34) trivial (ww ?_)
 cases h
 exact eF []
end Go.Proofs.Ytdejhahgpojnoaa
