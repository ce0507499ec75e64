/- Each Go function as a function over typed data, and its walk. -/
import Derived.Test.YtdkmamiedcanfaaGreatW0
import Derived.Test.YtdkmamiedcanfaaGreatW3
namespace Go.Proofs.YtdkmamiedcanfaaGreat
open Go Go.Fw Go.Shelf
set_option maxRecDepth 100000
set_option maxHeartbeats 4000000
set_option linter.unusedSimpArgs false
set_option linter.unusedVariables false
def F69_l1(x0:(List Object))(x1:ByteArray):Nat→Int→Option (Int)
 |0,_=>none
 |k+1,o1_0=>(((if o1_0<(x0.length:Int)then(rdI x0 o1_0).bind fun y4=>(F39 y4.Meta).bind fun t5=>some (Op.bytesLess t5.toList x1.toList)else some false)).bind fun o2=>(if o2=true then F69_l1 x0 x1 k ((IntKind.i64.wrap (o1_0+1)))else some o1_0))
def F69(x0:(List Object))(x1:ByteArray):Option (Int):=((F69_l1 x0 x1 1099511627776 0).bind fun o1=>some o1)
def a69:AFn:=⟨23,[(.tmp 4)],
 (.seq (.reg [sq 4 (.mv (kI 0))])
 (.seq (.reg [sq 5 (.mv (kI 0))])
 (.seq (.sem (.block 0 (.loop (.seq (.seq (.sem (.reg [sq 6 (.mv (.t 5)),
sq 7 (.mv (.t 0)),
sq 8 (.len (.t 7)),
sq 9 (.bin .lss (.t 6) (.t 8)),
sq 10 (.mv (.t 9)),
zg 11 10 true (.mv (.t 0)),
zg 12 10 true (.mv (.t 5)),
zg 13 10 true (.indexA 23 (.t 11) (.t 12)),
zg 14 10 true (.fieldA 0 (.t 13)),
zg 15 10 true (.load (some 13) (.t 14)),
zg 16 10 true (.call 39 [(.t 15)]),
zg 17 10 true (.mv (.t 1)),
zg 18 10 true (.bin .lss (.t 16) (.t 17)),
sq 19 (.pick (.t 10) (.t 18) (kB false))]))
 (.cond (.t 19)
 .skip
 (.exit 0)))
 (.block 1 (.reg [sq 20 (.mv (.t 5)),
sq 21 (.bin .add (.t 20) (kI 1)),
sq 5 (.mv (.t 21))]))))))
 (.seq (.reg [sq 22 (.mv (.t 5)),
sq 4 (.mv (.t 22))])
 .ret))))⟩
theorem F69_ok{x0 x1 r}(h:F69 x0 x1=some r):CallD Tryz.prog 69 [.c (dM (x0.map eObject)),.c (dS x1)] [] (tupV [.c (dI r)]) []:=by
 rw[F69]at h
 refine zc a69 (by kernel_rfl) rfl (ww ?_)
 obtain⟨o1,ho,h⟩:=bi h
 refine cutS (fun s=>s=⟨[(5,.one (.c (dI o1)))],[]⟩) ?_ ?_
 ·have h:=ho
  clear ho
  refine ww ?_
  refine bL (fun j s=>∃(o1_0:Int),s=⟨[(0,.one (.c (dM (x0.map eObject)))),(1,.one (.c (dS x1))),(5,.one (.c (dI o1_0)))],[]⟩∧F69_l1 x0 x1 j o1_0=some o1) 1099511627776 [] ⟨0,rfl,h⟩ ?_
  rintro j _ ⟨o1_0,rfl,h⟩
  cases j with
  |zero=>cases(show(none:Option _)=some _ from h)
  |succ j=>
   rw[F69_l1]at h
   refine ww ?_
   obtain⟨o2,ho,h⟩:=bi h
   refine cutS (fun s=>s=⟨[(0,.one (.c (dM (x0.map eObject)))),(1,.one (.c (dS x1))),(5,.one (.c (dI o1_0))),(19,.one (.c (dB o2)))],[]⟩) ?_ ?_
   ·have h:=ho
    clear ho
    refine ww ?_
    refine guardSh h (fun g3 h=>?_) (fun g3 h=>?_)
    ·refine ww ?_
     obtain⟨y4,hy4,h⟩:=bi h
     refine t_idxF (enc:=eObject) (xs:=x0) rfl rfl hy4 rfl (ww ?_)
     obtain⟨t5,ht5,h⟩:=bi h
     refine cN [] (F39_ok ht5) trivial (ww ?_)
     cases h
     exact eM [] rfl
    ·refine ww ?_
     cases h
     exact eM [] rfl
   ·rintro _ rfl
    clear ho
    refine ww ?_
    refine condBh h (fun c6 h=>?_) (fun c6 h=>?_)
    ·refine ww ?_
     exact eL' j [] ⟨(IntKind.i64.wrap (o1_0+1)),rfl,h⟩ (Nat.lt_succ_self _)
    ·refine ww ?_
     cases h
     exact eM [] rfl
 rintro _ rfl
 clear ho
 refine ww ?_
 cases h
 exact eF []
def F38(x0:(List Object))(x1:Event):Option ((List Object)):=(F39 x1.Object.Meta).bind fun t1=>(F69 x0 t1).bind fun t2=>(slI x0 0 t2).bind fun s3=>(apI ([]:List Object) s3).bind fun a4=>(((((if x1.Type_=1 then some true else some (decide (x1.Type_=2)))).bind fun o6=>(if o6=true then(apI a4 ([x1.Object])).bind fun a9=>some a9 else some a4))).bind fun o5=>(((((if t2<(x0.length:Int)then(rdI x0 t2).bind fun y13=>(F39 y13.Meta).bind fun t14=>some (decide (t14=t1))else some false)).bind fun o11=>(if o11=true then some ((IntKind.i64.wrap (t2+1)))else some t2))).bind fun o10=>(slI x0 o10 ((x0.length:Int))).bind fun s16=>(apI o5 s16).bind fun a17=>some a17))
def a38:AFn:=⟨55,[(.tmp 4)],
 (.seq (.reg [sq 3 (.box (.t 1)),
sq 4 (.mv kN)])
 (.seq (.reg [sq 8 (.fieldA 2 (.t 3)),
sq 9 (.fieldA 0 (.t 8)),
sq 10 (.load (some 13) (.t 9)),
sq 11 (.call 39 [(.t 10)]),
sq 5 (.mv (.t 11))])
 (.seq (.reg [sq 12 (.mv (.t 0)),
sq 13 (.mv (.t 5)),
sq 14 (.call 69 [(.t 12),(.t 13)]),
sq 6 (.mv (.t 14))])
 (.seq (.reg [sq 15 (.bslice 23 []),
sq 16 (.mv (.t 0)),
sq 17 (.mv (.t 6)),
sq 18 (.slice 23 (.t 16) none (some (.t 17)) none),
sq 19 (.app 23 352 (.t 15) (.t 18)),
sq 7 (.mv (.t 19))])
 (.seq (.sem (.seq (.sem (.reg [sq 20 (.fieldA 0 (.t 3)),
sq 21 (.load none (.t 20)),
sq 22 (.bin .eql (.t 21) (kI 1)),
sq 23 (.mv (.t 22)),
zg 24 23 false (.fieldA 0 (.t 3)),
zg 25 23 false (.load none (.t 24)),
zg 26 23 false (.bin .eql (.t 25) (kI 2)),
zl 27 (.pick (.t 23) (kB true) (.t 26)) [] [3,20,3,24]]))
 (.cond (.t 27)
 (.reg [sq 28 (.mv (.t 7)),
sq 29 (.fieldA 2 (.t 3)),
sq 30 (.load (some 23) (.t 29)),
sq 31 (.bslice 23 [(.t 30)]),
sq 32 (.app 23 352 (.t 28) (.t 31)),
sq 7 (.mv (.t 32))])
 .skip)))
 (.seq (.sem (.seq (.sem (.reg [sq 33 (.mv (.t 6)),
sq 34 (.mv (.t 0)),
sq 35 (.len (.t 34)),
sq 36 (.bin .lss (.t 33) (.t 35)),
sq 37 (.mv (.t 36)),
zg 38 37 true (.mv (.t 0)),
zg 39 37 true (.mv (.t 6)),
zg 40 37 true (.indexA 23 (.t 38) (.t 39)),
zg 41 37 true (.fieldA 0 (.t 40)),
zg 42 37 true (.load (some 13) (.t 41)),
zg 43 37 true (.call 39 [(.t 42)]),
zg 44 37 true (.mv (.t 5)),
zg 45 37 true (.bin .eql (.t 43) (.t 44)),
sq 46 (.pick (.t 37) (.t 45) (kB false))]))
 (.cond (.t 46)
 (.reg [sq 47 (.mv (.t 6)),
sq 48 (.bin .add (.t 47) (kI 1)),
sq 6 (.mv (.t 48))])
 .skip)))
 (.seq (.reg [sq 49 (.mv (.t 7)),
sq 50 (.mv (.t 0)),
sq 51 (.mv (.t 6)),
sq 52 (.slice 23 (.t 50) (some (.t 51)) none none),
sq 53 (.app 23 352 (.t 49) (.t 52)),
sq 7 (.mv (.t 53))])
 (.seq (.reg [sq 54 (.mv (.t 7)),
sq 4 (.mv (.t 54))])
 .ret))))))))⟩
theorem F38_ok{x0 x1 r}(h:F38 x0 x1=some r):CallD Tryz.prog 38 [.c (dM (x0.map eObject)),.agg [dI x1.Type_,dI x1.Rev,dS x1.Object.Meta.Kind,dS x1.Object.Meta.Namespace,dS x1.Object.Meta.Name,dI x1.Object.Meta.Uid,dI x1.Object.Meta.Version,dI x1.Object.Meta.Generation,dI x1.Object.Meta.Created,dB x1.Object.Meta.Deleting,dI x1.Object.Meta.DeleteAt,dM (x1.Object.Meta.Labels.map eLabel),dM (x1.Object.Meta.Owners.map eOwner),dM (x1.Object.Meta.Finalizers.map eS),dM (x1.Object.Meta.Managers.map eManager),dI x1.Object.Spec.Kind,dI x1.Object.Spec.N,dS x1.Object.Spec.S,dM (x1.Object.Spec.List_.map eTValue),dM (x1.Object.Spec.Fields.map eTField),dI x1.Object.Status.Kind,dI x1.Object.Status.N,dS x1.Object.Status.S,dM (x1.Object.Status.List_.map eTValue),dM (x1.Object.Status.Fields.map eTField)]] [] (tupV [.c (.own 0 0 0 (r.length) none)]) [some (.arr 0 23 (r.map eObject))]:=by
 rw[F38]at h
 refine zc a38 (by kernel_rfl) rfl (ww ?_)
 obtain⟨t1,ht1,h⟩:=bi h
 refine cN [] (F39_ok ht1) trivial (ww ?_)
 obtain⟨t2,ht2,h⟩:=bi h
 refine cN [] (F69_ok ht2) trivial (ww ?_)
 refine t_bslice (enc:=eObject) (ys:=([]:List Object)) rfl rfl (by simp[A1.cells]) (by first|rfl|(simp only[List.drop_zero,take_mapL];rfl)|(simp only[lit,List.map_cons,List.map_nil,List.drop_zero,take_mapL,EE.down];done)|(simp only[lit,List.map_cons,List.map_nil,List.drop_zero,take_mapL,EE.down];rfl)) (ww ?_)
 obtain⟨s3,hs3,h⟩:=bi h
 refine t_slice (enc:=eObject) (xs:=x0) rfl rfl rfl (fun _=>rfl) hs3 (ww ?_)
 obtain⟨a4,ha4,h⟩:=bi h
 refine t_app (enc:=eObject) (xs:=([]:List Object)) rfl rfl (by first|rfl|simp only[List.length_set]|exact(clrL_len (slI_len (by assumption))).symm) rfl (rows_frz (enc:=eObject) (fun _=>rfl)) ha4 (ww ?_)
 obtain⟨o5,ho,h⟩:=bi h
 refine cutS (fun s=>s=⟨[(0,.one (.c (dM (x0.map eObject)))),(5,.one (.c (dS t1))),(6,.one (.c (dI t2))),(7,.one (.c (.own 0 0 0 (o5.length) none)))],[some (.arr 0 23 (o5.map eObject))]⟩) ?_ ?_
 ·have h:=ho
  clear ho
  refine ww ?_
  obtain⟨o6,ho,h⟩:=bi h
  refine cutS (fun s=>s=⟨[(0,.one (.c (dM (x0.map eObject)))),(3,.one (.c (.pt 0 0))),(5,.one (.c (dS t1))),(6,.one (.c (dI t2))),(7,.one (.c (.own 1 0 0 (a4.length) none))),(27,.one (.c (dB o6)))],[some (.box [dI x1.Type_,dI x1.Rev,dS x1.Object.Meta.Kind,dS x1.Object.Meta.Namespace,dS x1.Object.Meta.Name,dI x1.Object.Meta.Uid,dI x1.Object.Meta.Version,dI x1.Object.Meta.Generation,dI x1.Object.Meta.Created,dB x1.Object.Meta.Deleting,dI x1.Object.Meta.DeleteAt,dM (x1.Object.Meta.Labels.map eLabel),dM (x1.Object.Meta.Owners.map eOwner),dM (x1.Object.Meta.Finalizers.map eS),dM (x1.Object.Meta.Managers.map eManager),dI x1.Object.Spec.Kind,dI x1.Object.Spec.N,dS x1.Object.Spec.S,dM (x1.Object.Spec.List_.map eTValue),dM (x1.Object.Spec.Fields.map eTField),dI x1.Object.Status.Kind,dI x1.Object.Status.N,dS x1.Object.Status.S,dM (x1.Object.Status.List_.map eTValue),dM (x1.Object.Status.Fields.map eTField)]),some (.arr 0 23 (a4.map eObject))]⟩) ?_ ?_
  ·have h:=ho
   clear ho
   refine ww ?_
   refine guardSh h (fun g7 h=>?_) (fun g7 h=>?_)
   ·refine ww ?_
    cases h
    exact eM [some 0,some 1] rfl
   refine ww ?_
   cases h
   exact eM [some 0,some 1] rfl
  rintro _ rfl
  clear ho
  refine ww ?_
  refine condBh h (fun c8 h=>?_) (fun c8 h=>?_)
  ·refine ww ?_
   refine t_bslice (enc:=eObject) (ys:=[x1.Object]) rfl rfl (by simp[A1.cells]) (by first|rfl|(simp only[List.drop_zero,take_mapL];rfl)|(simp only[lit,List.map_cons,List.map_nil,List.drop_zero,take_mapL,EE.down];done)|(simp only[lit,List.map_cons,List.map_nil,List.drop_zero,take_mapL,EE.down];rfl)) (ww ?_)
   obtain⟨a9,ha9,h⟩:=bi h
   refine t_app (enc:=eObject) (xs:=a4) rfl rfl (by first|rfl|simp only[List.length_set]|exact(clrL_len (slI_len (by assumption))).symm) rfl (rows_full (enc:=eObject) (by first|rfl|simp only[List.length_set]|exact(clrL_len (slI_len (by assumption))).symm) rfl) ha9 (ww ?_)
   cases h
   exact eM [some 1] rfl
  refine ww ?_
  cases h
  exact eM [some 1] rfl
 rintro _ rfl
 clear ho
 refine ww ?_
 obtain⟨o10,ho,h⟩:=bi h
 refine cutS (fun s=>s=⟨[(0,.one (.c (dM (x0.map eObject)))),(6,.one (.c (dI o10))),(7,.one (.c (.own 0 0 0 (o5.length) none)))],[some (.arr 0 23 (o5.map eObject))]⟩) ?_ ?_
 ·have h:=ho
  clear ho
  refine ww ?_
  obtain⟨o11,ho,h⟩:=bi h
  refine cutS (fun s=>s=⟨[(0,.one (.c (dM (x0.map eObject)))),(6,.one (.c (dI t2))),(7,.one (.c (.own 0 0 0 (o5.length) none))),(46,.one (.c (dB o11)))],[some (.arr 0 23 (o5.map eObject))]⟩) ?_ ?_
  ·have h:=ho
   clear ho
   refine ww ?_
   refine guardSh h (fun g12 h=>?_) (fun g12 h=>?_)
   ·refine ww ?_
    obtain⟨y13,hy13,h⟩:=bi h
    refine t_idxF (enc:=eObject) (xs:=x0) rfl rfl hy13 rfl (ww ?_)
    obtain⟨t14,ht14,h⟩:=bi h
    refine cN [] (F39_ok ht14) trivial (ww ?_)
    cases h
    exact eM [some 0] rfl
   refine ww ?_
   cases h
   exact eM [some 0] rfl
  rintro _ rfl
  clear ho
  refine ww ?_
  refine condBh h (fun c15 h=>?_) (fun c15 h=>?_)
  ·refine ww ?_
   cases h
   exact eM [some 0] rfl
  refine ww ?_
  cases h
  exact eM [some 0] rfl
 rintro _ rfl
 clear ho
 refine ww ?_
 obtain⟨s16,hs16,h⟩:=bi h
 refine t_slice (enc:=eObject) (xs:=x0) rfl rfl rfl (fun _=>rfl) hs16 (ww ?_)
 obtain⟨a17,ha17,h⟩:=bi h
 refine t_app (enc:=eObject) (xs:=o5) rfl rfl (by first|rfl|simp only[List.length_set]|exact(clrL_len (slI_len (by assumption))).symm) rfl (rows_frz (enc:=eObject) (fun _=>rfl)) ha17 (ww ?_)
 cases h
 exact eF [some 0]
def F12_l1:List Event→Nat→Cache→Option (Cache)
 |[],o1_1,o1_0=>some ((⟨(⟨(o1_0).Filter.Kind,(o1_0).Filter.Namespace,(o1_0).Filter.Selector⟩:Filter),(o1_0).Rev,(o1_0).Synced,(o1_0).Objects⟩:Cache))
 |xo1::xs,o1_1,o1_0=>(((if xo1.Rev≤(o1_0).Rev then some (((o1_0).Rev,(o1_0).Objects))else(((if 1≤xo1.Type_ then some (decide (xo1.Type_≤3))else some false)).bind fun o5=>(if o5=true then(F38 ((o1_0).Objects) xo1).bind fun t8=>some ((xo1.Rev,t8))else some ((xo1.Rev,(o1_0).Objects)))))).bind fun o3=>F12_l1 xs (o1_1+1) ((⟨(⟨(o1_0).Filter.Kind,(o1_0).Filter.Namespace,(o1_0).Filter.Selector⟩:Filter),o3.1,(o1_0).Synced,o3.2⟩:Cache)))
def F12(x0:Cache)(x1:(List Event)):Option (Cache):=(((ck (0≤x1.length∧x1.length≤4294967290)).bind fun u9=>F12_l1 x1 0 x0).bind fun o1=>some ((⟨(⟨(o1).Filter.Kind,(o1).Filter.Namespace,(o1).Filter.Selector⟩:Filter),(o1).Rev,(o1).Synced,(o1).Objects⟩:Cache)))
def a12:AFn:=⟨49,[(.cell 4 (some 6))],
 (.seq (.reg [sq 2 (.box (.t 0)),
sq 4 (.zbox [dS ⟨#[]⟩,dS ⟨#[]⟩,dN,dI 0,dB false,dN])])
 (.seq (.seq (.reg [sq 5 (.mv (kI 0))])
 (.sem (.block 0 (.loop (.seq (.seq (.reg [sq 6 (.mv (.t 5)),
sq 7 (.mv (.t 1)),
sq 8 (.len (.t 7)),
sq 9 (.bin .lss (.t 6) (.t 8))])
 (.cond (.t 9)
 .skip
 (.exit 0)))
 (.seq (.sem (.block 1 (.seq (.seq (.regd [sq 12 (.mv (.t 1)),
sq 13 (.mv (.t 5)),
sd 14 (.indexA 25 (.t 12) (.t 13)) [0,1],
sd 15 (.fieldA 1 (.t 14)) [0,1,2],
sd 16 (.load none (.t 15)) [0,1,2,3],
sq 17 (.fieldA 3 (.t 2)),
sd 18 (.load none (.t 17)) [5],
sd 19 (.bin .leq (.t 16) (.t 18)) [0,1,2,3,4,5,6]])
 (.cond (.t 19)
 (.exit 1)
 .skip))
 (.seq (.reg [sq 20 (.mv (.t 1)),
sq 21 (.mv (.t 5)),
sq 22 (.indexA 25 (.t 20) (.t 21)),
sq 23 (.fieldA 1 (.t 22)),
sq 24 (.load none (.t 23)),
sq 25 (.fieldA 3 (.t 2)),
⟨none,none,.store 1 (.t 25) (.t 24),[],(.lone [20,22,23,2])⟩])
 (.seq (.sem (.reg [sq 26 (.mv (.t 1)),
sq 27 (.mv (.t 5)),
sq 28 (.indexA 25 (.t 26) (.t 27)),
sq 29 (.fieldA 0 (.t 28)),
sq 30 (.load none (.t 29)),
sq 31 (.bin .geq (.t 30) (kI 1)),
sq 32 (.mv (.t 31)),
zg 33 32 true (.mv (.t 1)),
zg 34 32 true (.mv (.t 5)),
zg 35 32 true (.indexA 25 (.t 33) (.t 34)),
zg 36 32 true (.fieldA 0 (.t 35)),
zg 37 32 true (.load none (.t 36)),
zg 38 32 true (.bin .leq (.t 37) (kI 3)),
zl 39 (.pick (.t 32) (.t 38) (kB false)) [] [26,28,29,33,35,36]]))
 (.cond (.t 39)
 (.regd [sq 40 (.fieldA 5 (.t 2)),
sd 41 (.load none (.t 40)) [0],
sq 42 (.mv (.t 1)),
sq 43 (.mv (.t 5)),
sd 44 (.indexA 25 (.t 42) (.t 43)) [2,3],
sd 45 (.load (some 25) (.t 44)) [2,3,4],
zl 46 (.call 38 [(.t 41),(.t 45)]) [0,1,2,3,4,5] [],
sd 47 (.fieldA 5 (.t 2)) [0,1,2,3,4,5,6],
⟨none,none,.store 1 (.t 47) (.t 46),[0,1,2,3,4,5,6,7],(.lone [])⟩])
 .skip))))))
 (.reg [sq 10 (.mv (.t 5)),
sq 11 (.bin .add (.t 10) (kI 1)),
sq 5 (.mv (.t 11))])))))))
 (.seq (.reg [sq 48 (.load (some 6) (.t 2)),
⟨none,none,.store 6 (.t 4) (.t 48),[],(.lone [2])⟩])
 .ret)))⟩
theorem F12_ok{x0 x1 r}(h:F12 x0 x1=some r):CallD Tryz.prog 12 [.agg [dS x0.Filter.Kind,dS x0.Filter.Namespace,dM (x0.Filter.Selector.map eRequirement),dI x0.Rev,dB x0.Synced,dM (x0.Objects.map eObject)],.c (dM (x1.map eEvent))] [] (tupV [.agg [dS ((r).Filter.Kind),dS ((r).Filter.Namespace),dM (((r).Filter.Selector).map eRequirement),dI ((r).Rev),dB ((r).Synced),dM (((r).Objects).map eObject)]]) []:=by
 rw[F12]at h
 refine zc a12 (by kernel_rfl) rfl (ww ?_)
 obtain⟨o1,ho,h⟩:=bi h
 refine cutS (fun s=>s=⟨[(2,.one (.c (.pt 0 0))),(4,.one (.c (.pt 1 0)))],[some (.box [dS ((o1).Filter.Kind),dS ((o1).Filter.Namespace),dM (((o1).Filter.Selector).map eRequirement),dI ((o1).Rev),dB ((o1).Synced),dM (((o1).Objects).map eObject)]),some (.box [dS ((⟨#[]⟩:ByteArray)),dS ((⟨#[]⟩:ByteArray)),dN,dI 0,dB false,dN])]⟩) ?_ ?_
 ·have h:=ho
  clear ho
  obtain⟨_,hk,h⟩:=bi h
  have hk:=ck_some hk
  refine ww ?_
  refine bL (fun j s=>∃(o1_1:Nat) (o1_0:Cache),(o1_1≤x1.length∧j=x1.length-o1_1)∧s=⟨[(1,.one (.c (dM (x1.map eEvent)))),(2,.one (.c (.pt 0 0))),(4,.one (.c (.pt 1 0))),(5,.one (.c (dI ((o1_1:Int)))))],[some (.box [dS ((o1_0).Filter.Kind),dS ((o1_0).Filter.Namespace),dM (((o1_0).Filter.Selector).map eRequirement),dI ((o1_0).Rev),dB ((o1_0).Synced),dM (((o1_0).Objects).map eObject)]),some (.box [dS ((⟨#[]⟩:ByteArray)),dS ((⟨#[]⟩:ByteArray)),dN,dI 0,dB false,dN])]⟩∧F12_l1 (x1.drop o1_1) o1_1 o1_0=some o1) (x1.length-0) [some 0,some 1] ⟨0,x0,⟨hk.1,rfl⟩,rfl,h⟩ ?_
  rintro _ _ ⟨o1_1,o1_0,⟨hi,rfl⟩,rfl,h⟩
  refine ww ?_
  refine condS (fun c2=>?_) (fun c2=>?_)
  ·obtain⟨xo1,hxo1,hd⟩:=countY (show(o1_1:Int)<(x1.length:Int)from c2)
   rw[hd,F12_l1]at h
   refine ww ?_
   obtain⟨o3,ho,h⟩:=bi h
   refine cutS (fun s=>s=⟨[(1,.one (.c (dM (x1.map eEvent)))),(2,.one (.c (.pt 0 0))),(4,.one (.c (.pt 1 0))),(5,.one (.c (dI ((o1_1:Int)))))],[some (.box [dS ((o1_0).Filter.Kind),dS ((o1_0).Filter.Namespace),dM (((o1_0).Filter.Selector).map eRequirement),dI o3.1,dB ((o1_0).Synced),dM (o3.2.map eObject)]),some (.box [dS ((⟨#[]⟩:ByteArray)),dS ((⟨#[]⟩:ByteArray)),dN,dI 0,dB false,dN])]⟩) ?_ ?_
   ·have h:=ho
    clear ho
    refine ww ?_
    refine t_idxF (enc:=eEvent) (xs:=x1) rfl rfl hxo1 rfl (ww ?_)
    refine condSh h (fun c4 h=>?_) (fun c4 h=>?_)
    ·refine ww ?_
     cases h
     exact eM [some 0,some 1] rfl
    refine ww ?_
    refine t_idxF (enc:=eEvent) (xs:=x1) rfl rfl hxo1 rfl (ww ?_)
    obtain⟨o5,ho,h⟩:=bi h
    refine cutS (fun s=>s=⟨[(1,.one (.c (dM (x1.map eEvent)))),(2,.one (.c (.pt 0 0))),(4,.one (.c (.pt 1 0))),(5,.one (.c (dI ((o1_1:Int))))),(39,.one (.c (dB o5)))],[some (.box [dS ((o1_0).Filter.Kind),dS ((o1_0).Filter.Namespace),dM (((o1_0).Filter.Selector).map eRequirement),dI xo1.Rev,dB ((o1_0).Synced),dM (((o1_0).Objects).map eObject)]),some (.box [dS ((⟨#[]⟩:ByteArray)),dS ((⟨#[]⟩:ByteArray)),dN,dI 0,dB false,dN])]⟩) ?_ ?_
    ·have h:=ho
     clear ho
     refine ww ?_
     refine t_idxF (enc:=eEvent) (xs:=x1) rfl rfl hxo1 rfl (ww ?_)
     refine guardSh h (fun g6 h=>?_) (fun g6 h=>?_)
     ·refine ww ?_
      refine t_idxF (enc:=eEvent) (xs:=x1) rfl rfl hxo1 rfl (ww ?_)
      cases h
      exact eM [some 0,some 1] rfl
     refine ww ?_
     cases h
     exact eM [some 0,some 1] rfl
    rintro _ rfl
    clear ho
    refine ww ?_
    refine condBh h (fun c7 h=>?_) (fun c7 h=>?_)
    ·refine ww ?_
     refine t_idxF (enc:=eEvent) (xs:=x1) rfl rfl hxo1 rfl (ww ?_)
     obtain⟨t8,ht8,h⟩:=bi h
     refine cN [] (F38_ok ht8) trivial (ww ?_)
     cases h
     exact eM [some 0,some 1] rfl
    refine ww ?_
    cases h
    exact eM [some 0,some 1] rfl
   rintro _ rfl
   clear ho
   refine ww ?_
   rw[wrapN (by omega)]
   exact eL' (x1.length-(o1_1+1)) [some 0,some 1] ⟨o1_1+1,(⟨(⟨(o1_0).Filter.Kind,(o1_0).Filter.Namespace,(o1_0).Filter.Selector⟩:Filter),o3.1,(o1_0).Synced,o3.2⟩:Cache),⟨by omega,rfl⟩,rfl,h⟩ (by omega)
  rw[countN (show¬((o1_1:Int)<(x1.length:Int))from c2),F12_l1]at h
  refine ww ?_
  cases h
  exact eM [some 0,some 1] rfl
 rintro _ rfl
 clear ho
 refine ww ?_
 cases h
 exact eF []
end Go.Proofs.YtdkmamiedcanfaaGreat
