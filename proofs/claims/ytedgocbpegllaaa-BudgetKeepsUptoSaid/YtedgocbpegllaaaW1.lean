/- Each Go function as a function over typed data, and its walk. -/
import Derived.Test.YtedgocbpegllaaaW0
namespace Go.Proofs.Ytedgocbpegllaaa
open Go Go.Fw Go.Shelf
set_option maxRecDepth 100000
set_option maxHeartbeats 4000000
set_option linter.unusedSimpArgs false
set_option linter.unusedVariables false
def F8_l6(xo1:Budget):Nat→Int→Option (((Bool) ⊕ (Unit)) ⊕ (Unit))
 |0,_=>none
 |k+1,o6_0=>(if o6_0<(xo1.Selector.length:Int)then(rdI xo1.Selector o6_0).bind fun y8=>(if 40<(y8.Values.length:Int)then((some true).map Sum.inl).map Sum.inl else F8_l6 xo1 k ((IntKind.i64.wrap (o6_0+1))))else some (Sum.inr (())))
def F8_l1:List Budget→Nat→Option ((Bool) ⊕ (Unit))
 |[],o1_0=>some (Sum.inr (()))
 |xo1::xs,o1_0=>(((if 10<(xo1.Selector.length:Int)then some true else some (decide (40<(xo1.Disrupted.length:Int))))).bind fun o3=>(if o3=true then(some true).map Sum.inl else((F8_l6 xo1 1099511627776 0:Option (((Bool) ⊕ (Unit)) ⊕ (Unit))).bind fun o6=>match o6 with|Sum.inl f=>some f|Sum.inr po6=>F8_l1 xs (o1_0+1))))
def F8_l11:List Pod→Nat→Option ((Bool) ⊕ (Unit))
 |[],o11_0=>some (Sum.inr (()))
 |xo11::xs,o11_0=>(if 30<(xo11.Meta.Labels.length:Int)then(some true).map Sum.inl else F8_l11 xs (o11_0+1))
def F8(x0:(List Budget))(x1:(List Pod)):Option (Bool):=(((ck (0≤x0.length∧x0.length≤4294967290)).bind fun u10=>F8_l1 x0 0:Option ((Bool) ⊕ (Unit))).bind fun o1=>match o1 with|Sum.inl f=>some f|Sum.inr po1=>(((ck (0≤x1.length∧x1.length≤4294967290)).bind fun u14=>F8_l11 x1 0:Option ((Bool) ⊕ (Unit))).bind fun o11=>match o11 with|Sum.inl f=>some f|Sum.inr po11=>(((if 8<(x0.length:Int)then some true else some (decide (24<(x1.length:Int))))).bind fun o15=>some o15)))
def a8:AFn:=⟨73,[(.tmp 4)],
 (.seq (.reg [Qf 4 false])
 (.seq (.seq (.reg [Qe 5 0])
 (.sem (.block 0 (.loop (.seq (.seq (.reg [Qa 8 5,
Qa 9 0,
Qh 10 9,
Qn 11 8 10])
 (.cond (.t 11)
 .skip
 (.exit 0)))
 (.seq (.block 1 (.seq (.seq (.sem (.reg [Qa 14 0,
Qa 15 5,
Qp 16 22 14 15,
Qb 17 13 16,
Qd 18 17,
Qh 19 18,
sq 20 (.bin .gtr (.t 19) (kI 10)),
Qa 21 20,
Qv 22 21 false 0,
Qv 23 21 false 5,
zg 24 21 false (.indexA 22 (.t 22) (.t 23)),
Qs 25 21 false 21 24,
Qt 26 21 false 25,
zg 27 21 false (.len (.t 26)),
zg 28 21 false (.bin .gtr (.t 27) (kI 40)),
zl 29 (.pick (.t 21) (kB true) (.t 28)) [] [14,16,17,18,22,24,25,26]]))
 (.cond (.t 29)
 (.seq (.reg [Qf 4 true])
 .ret)
 .skip))
 (.seq (.reg [Qe 6 0])
 (.sem (.block 2 (.loop (.seq (.seq (.reg [Qa 30 6,
Qa 31 0,
Qa 32 5,
Qp 33 22 31 32,
Qb 34 13 33,
Qd 35 34,
Qh 36 35,
Qn 37 30 36])
 (.cond (.t 37)
 .skip
 (.exit 2)))
 (.seq (.block 3 (.seq (.reg [Qa 40 0,
Qa 41 5,
Qp 42 22 40 41,
Qb 43 13 42,
Qd 44 43,
Qa 45 6,
Qp 46 3 44 45,
Qb 47 2 46,
Qd 48 47,
Qh 49 48,
sq 50 (.bin .gtr (.t 49) (kI 40))])
 (.cond (.t 50)
 (.seq (.reg [Qf 4 true])
 .ret)
 .skip)))
 (.reg [Qa 38 6,
Qm 39 38 1,
Qa 6 39])))))))))
 (.reg [Qa 12 5,
Qm 13 12 1,
Qa 5 13])))))))
 (.seq (.seq (.reg [Qe 7 0])
 (.sem (.block 4 (.loop (.seq (.seq (.reg [Qa 51 7,
Qa 52 1,
Qh 53 52,
Qn 54 51 53])
 (.cond (.t 54)
 .skip
 (.exit 4)))
 (.seq (.block 5 (.seq (.reg [Qa 57 1,
Qa 58 7,
Qp 59 32 57 58,
Qb 60 0 59,
Qb 61 9 60,
Qd 62 61,
Qh 63 62,
sq 64 (.bin .gtr (.t 63) (kI 30))])
 (.cond (.t 64)
 (.seq (.reg [Qf 4 true])
 .ret)
 .skip)))
 (.reg [Qa 55 7,
Qm 56 55 1,
Qa 7 56])))))))
 (.seq (.sem (.reg [Qa 65 0,
Qh 66 65,
sq 67 (.bin .gtr (.t 66) (kI 8)),
Qa 68 67,
Qv 69 68 false 1,
zg 70 68 false (.len (.t 69)),
zg 71 68 false (.bin .gtr (.t 70) (kI 24)),
Qj 72 68 71,
Qa 4 72]))
 .ret))))⟩
theorem F8_ok{x0 x1 r}(h:F8 x0 x1=some r):CallD Try.prog 8 [.c (dM (x0.map eBudget)),.c (dM (x1.map ePod))] [] (tupV [.c (dB r)]) []:=by
 rw[F8]at h
 refine zc a8 (by kernel_rfl) rfl (ww ?_)
 obtain⟨o1,ho,h⟩:=bi h
 refine cutS (fun s=>∃po1,o1=Sum.inr po1∧s=⟨[(0,oc (dM (x0.map eBudget))),(1,oc (dM (x1.map ePod)))],[]⟩) ?_ ?_
 ·have h0o1:=h
  have h:=ho
  clear ho
  obtain⟨_,hk,h⟩:=bi h
  have hk:=ck_some hk
  refine ww ?_
  refine bL (fun j s=>∃(o1_0:Nat),(o1_0≤x0.length∧j=x0.length-o1_0)∧s=⟨[(0,oc (dM (x0.map eBudget))),(1,oc (dM (x1.map ePod))),(5,oc (dI ((o1_0:Int))))],[]⟩∧F8_l1 (x0.drop o1_0) o1_0=some o1) (x0.length-0) [] ⟨0,⟨hk.1,rfl⟩,rfl,h⟩ ?_
  rintro _ _ ⟨o1_0,⟨hi,rfl⟩,rfl,h⟩
  refine ww ?_
  refine condS (fun c2=>?_) (fun c2=>?_)
  ·obtain⟨xo1,hxo1,hd⟩:=countY (show(o1_0:Int)<(x0.length:Int)from c2)
   rw[hd,F8_l1]at h
   refine ww ?_
   obtain⟨o3,ho,h⟩:=bi h
   refine cutS (fun s=>s=⟨[(0,oc (dM (x0.map eBudget))),(1,oc (dM (x1.map ePod))),(5,oc (dI ((o1_0:Int)))),(29,oc (dB o3))],[]⟩) ?_ ?_
   ·have h:=ho
    clear ho
    refine ww ?_
    refine t_idxF (enc:=eBudget) (xs:=x0) rfl rfl hxo1 rfl (ww ?_)
    refine guardSh h (fun g4 h=>ww ?_) (fun g4 h=>ww ?_)
    ·cases h
     exact eM [] rfl
    refine t_idxF (enc:=eBudget) (xs:=x0) rfl rfl hxo1 rfl (ww ?_)
    cases h
    exact eM [] rfl
   rintro _ rfl
   clear ho
   refine ww ?_
   refine condBh h (fun c5 h=>ww ?_) (fun c5 h=>ww ?_)
   ·obtain⟨fh0o1,hfh0o1,rfl⟩:=Option.map_eq_some_iff.1 h
    have h:=hfh0o1.trans h0o1
    cases h
    exact eF []
   obtain⟨o6,ho,h⟩:=bi h
   refine cutS (fun s=>∃po6,o6=Sum.inr po6∧s=⟨[(0,oc (dM (x0.map eBudget))),(1,oc (dM (x1.map ePod))),(5,oc (dI ((o1_0:Int))))],[]⟩) ?_ ?_
   ·have h0o6:=h
    have h:=ho
    clear ho
    refine ww ?_
    refine bL (fun j s=>∃(o6_0:Int),s=⟨[(0,oc (dM (x0.map eBudget))),(1,oc (dM (x1.map ePod))),(5,oc (dI ((o1_0:Int)))),(6,oc (dI o6_0))],[]⟩∧F8_l6 xo1 j o6_0=some o6) 1099511627776 [] ⟨0,rfl,h⟩ ?_
    rintro j _ ⟨o6_0,rfl,h⟩
    cases j with
    |zero=>cases(show(none:Option _)=some _ from h)
    |succ j=>
     rw[F8_l6]at h
     refine ww ?_
     refine t_idxF (enc:=eBudget) (xs:=x0) rfl rfl hxo1 rfl (ww ?_)
     refine condSh h (fun c7 h=>ww ?_) (fun c7 h=>?_)
     ·refine t_idxF (enc:=eBudget) (xs:=x0) rfl rfl hxo1 rfl (ww ?_)
      obtain⟨y8,hy8,h⟩:=bi h
      refine t_idxF (enc:=eRequirement) (xs:=xo1.Selector) rfl rfl hy8 rfl (ww ?_)
      refine condSh h (fun c9 h=>ww ?_) (fun c9 h=>?_)
      ·obtain⟨fh0o6,hfh0o6,rfl⟩:=Option.map_eq_some_iff.1 h
       have h:=hfh0o6.trans h0o6
       obtain⟨fh0o1,hfh0o1,rfl⟩:=Option.map_eq_some_iff.1 h
       have h:=hfh0o1.trans h0o1
       cases h
       exact eF []
      ·refine ww ?_
       exact eL' j [] ⟨(IntKind.i64.wrap (o6_0+1)),rfl,h⟩ (Nat.lt_succ_self _)
     ·refine ww ?_
      cases h
      exact eM [] ⟨_,rfl,rfl⟩
   rintro _ ⟨po6,rfl,rfl⟩
   clear ho
   dsimp only at h
   refine ww ?_
   rw[wrapN (by omega)]
   exact eL' (x0.length-(o1_0+1)) [] ⟨o1_0+1,⟨by omega,rfl⟩,rfl,h⟩ (by omega)
  rw[countN (show¬((o1_0:Int)<(x0.length:Int))from c2),F8_l1]at h
  refine ww ?_
  cases h
  exact eM [] ⟨_,rfl,rfl⟩
 rintro _ ⟨po1,rfl,rfl⟩
 clear ho
 dsimp only at h
 refine ww ?_
 obtain⟨o11,ho,h⟩:=bi h
 refine cutS (fun s=>∃po11,o11=Sum.inr po11∧s=⟨[(0,oc (dM (x0.map eBudget))),(1,oc (dM (x1.map ePod)))],[]⟩) ?_ ?_
 ·have h0o11:=h
  have h:=ho
  clear ho
  obtain⟨_,hk,h⟩:=bi h
  have hk:=ck_some hk
  refine ww ?_
  refine bL (fun j s=>∃(o11_0:Nat),(o11_0≤x1.length∧j=x1.length-o11_0)∧s=⟨[(0,oc (dM (x0.map eBudget))),(1,oc (dM (x1.map ePod))),(7,oc (dI ((o11_0:Int))))],[]⟩∧F8_l11 (x1.drop o11_0) o11_0=some o11) (x1.length-0) [] ⟨0,⟨hk.1,rfl⟩,rfl,h⟩ ?_
  rintro _ _ ⟨o11_0,⟨hi,rfl⟩,rfl,h⟩
  refine ww ?_
  refine condS (fun c12=>?_) (fun c12=>?_)
  ·obtain⟨xo11,hxo11,hd⟩:=countY (show(o11_0:Int)<(x1.length:Int)from c12)
   rw[hd,F8_l11]at h
   refine ww ?_
   refine t_idxF (enc:=ePod) (xs:=x1) rfl rfl hxo11 rfl (ww ?_)
   refine condSh h (fun c13 h=>ww ?_) (fun c13 h=>ww ?_)
   ·obtain⟨fh0o11,hfh0o11,rfl⟩:=Option.map_eq_some_iff.1 h
    have h:=hfh0o11.trans h0o11
    cases h
    exact eF []
   rw[wrapN (by omega)]
   exact eL' (x1.length-(o11_0+1)) [] ⟨o11_0+1,⟨by omega,rfl⟩,rfl,h⟩ (by omega)
  rw[countN (show¬((o11_0:Int)<(x1.length:Int))from c12),F8_l11]at h
  refine ww ?_
  cases h
  exact eM [] ⟨_,rfl,rfl⟩
 rintro _ ⟨po11,rfl,rfl⟩
 clear ho
 dsimp only at h
 refine ww ?_
 obtain⟨o15,ho,h⟩:=bi h
 refine cutS (fun s=>s=⟨[(4,oc (dB o15))],[]⟩) ?_ ?_
 ·have h:=ho
  clear ho
  refine ww ?_
  refine guardSh h (fun g16 h=>ww ?_) (fun g16 h=>ww ?_)
  ·cases h
   exact eM [] rfl
  cases h
  exact eM [] rfl
 rintro _ rfl
 clear ho
 refine ww ?_
 cases h
 exact eF []
def F23(x0:ByteArray):Option (Unit):=some (())
def a23:AFn:=⟨12,[(.cell 2 (some 32))],
 (.seq (.reg [zl 2 (.zbox [dS ⟨#[]⟩,dS ⟨#[]⟩,dS ⟨#[]⟩,dI 0,dI 0,dI 0,dI 0,dB false,dI 0,dN,dN,dN,dN,dS ⟨#[]⟩,dI 0,dI 0,dI 0,dN,dN,dN,dN,dN,dN,dI 0,dB false,dI 0,dI 0,dI 0,dN,dI 0,dS ⟨#[]⟩,dS ⟨#[]⟩]) [] []])
 (.seq (.reg [Qa 4 0,
sq 5 (.build [dS ⟨#[]⟩,dS ⟨#[]⟩,dS ⟨#[]⟩,dI 0,dI 0,dI 0,dI 0,dB false,dI 0,dN,dN,dN,dN] [(0,1,(kS ⟨#[80,111,100]⟩)),(1,1,(kS ⟨#[110,115]⟩)),(2,1,(.t 4))]),
sq 6 (.build [dS ⟨#[]⟩,dS ⟨#[]⟩,dS ⟨#[]⟩,dI 0,dI 0,dI 0,dI 0,dB false,dI 0,dN,dN,dN,dN,dS ⟨#[]⟩,dI 0,dI 0,dI 0,dN,dN,dN,dN,dN,dN,dI 0,dB false,dI 0,dI 0,dI 0,dN,dI 0,dS ⟨#[]⟩,dS ⟨#[]⟩] [(0,13,(.t 5))]),
sq 3 (.zbox [dS ⟨#[]⟩,dS ⟨#[]⟩,dS ⟨#[]⟩,dI 0,dI 0,dI 0,dI 0,dB false,dI 0,dN,dN,dN,dN,dS ⟨#[]⟩,dI 0,dI 0,dI 0,dN,dN,dN,dN,dN,dN,dI 0,dB false,dI 0,dI 0,dI 0,dN,dI 0,dS ⟨#[]⟩,dS ⟨#[]⟩]),
su (.store 32 (.t 3) (.t 6))])
 (.seq (.reg [Qb 7 23 3,
Qb 8 0 7,
⟨none,none,.store 1 (.t 8) (kI 1),[],(.lone [3,7])⟩])
 (.seq (.reg [Qb 9 23 3,
Qb 10 1 9,
⟨none,none,.store 1 (.t 10) (kB true),[],(.lone [3,9])⟩])
 (.seq (.reg [Qc 11 32 3,
⟨none,none,.store 32 (.t 2) (.t 11),[],(.lone [3])⟩])
 .ret)))))⟩
theorem F23_ok{x0 r}(h:F23 x0=some r):CallD Try.prog 23 [.c (dS x0)] [] (tupV [.agg [dS ((⟨#[80,111,100]⟩:ByteArray)),dS ((⟨#[110,115]⟩:ByteArray)),dS x0,dI 0,dI 0,dI 0,dI 0,dB false,dI 0,dM (([]:List Label).map eLabel),dM (([]:List Owner).map eOwner),dM (([]:List ByteArray).map eS),dM (([]:List Manager).map eManager),dS ((⟨#[]⟩:ByteArray)),dI 0,dI 0,dI 0,dM (([]:List Container).map eContainer),dM (([]:List Requirement).map eRequirement),dM (([]:List NodeTerm).map eNodeTerm),dM (([]:List PodTerm).map ePodTerm),dM (([]:List SpreadRule).map eSpreadRule),dM (([]:List Toleration).map eToleration),dI 1,dB true,dI 0,dI 0,dI 0,dM (([]:List ContainerStatus).map eContainerStatus),dI 0,dS ((⟨#[]⟩:ByteArray)),dS ((⟨#[]⟩:ByteArray))]]) []:=by
 rw[F23]at h
 refine zc a23 (by kernel_rfl) rfl (ww ?_)
 cases h
 exact eF []
theorem a53_ok:afn Try.prog 53=some (cloneA 5 48):=by kernel_rfl
theorem F53_ok{x0 r:List Owner}(h:cloneI x0=some r):CallD Try.prog 53 [.c (dM (x0.map eOwner))] [] (tupV [.c (.own 0 1 0 r.length none)]) [some (.arr 1 5 (r.map eOwner))]:=L_clone a53_ok (fun _=>rfl) h
theorem a56_ok:afn Try.prog 56=some (cloneA 3 48):=by kernel_rfl
theorem F56_ok{x0 r:List Requirement}(h:cloneI x0=some r):CallD Try.prog 56 [.c (dM (x0.map eRequirement))] [] (tupV [.c (.own 0 1 0 r.length none)]) [some (.arr 1 3 (r.map eRequirement))]:=L_clone a56_ok (fun _=>rfl) h
def F59(x0:ByteArray)(x1:ByteArray)(x2:ByteArray):Option (ByteArray):=(catI x0 ((⟨#[47]⟩:ByteArray))).bind fun s1=>(catI s1 x1).bind fun s2=>(catI s2 ((⟨#[47]⟩:ByteArray))).bind fun s3=>(catI s3 x2).bind fun s4=>some s4
def a59:AFn:=⟨14,[(.tmp 6)],
 (.seq (.reg [sq 6 (.mv (kS ⟨#[]⟩))])
 (.seq (.reg [Qa 7 0,
sq 8 (.bin .add (.t 7) (kS ⟨#[47]⟩)),
Qa 9 1,
sq 10 (.bin .add (.t 8) (.t 9)),
sq 11 (.bin .add (.t 10) (kS ⟨#[47]⟩)),
Qa 12 2,
sq 13 (.bin .add (.t 11) (.t 12)),
Qa 6 13])
 .ret))⟩
theorem F59_ok{x0 x1 x2 r}(h:F59 x0 x1 x2=some r):CallD Try.prog 59 [.c (dS x0),.c (dS x1),.c (dS x2)] [] (tupV [.c (dS r)]) []:=by
 rw[F59]at h
 refine zc a59 (by kernel_rfl) rfl (ww ?_)
 obtain⟨s1,hs1,h⟩:=bi h
 obtain⟨hle,es1⟩:=cat_some hs1
 refine⟨hle,?_⟩
 first|rw[←es1]|subst es1
 refine ww ?_
 obtain⟨s2,hs2,h⟩:=bi h
 obtain⟨hle,es2⟩:=cat_some hs2
 refine⟨hle,?_⟩
 first|rw[←es2]|subst es2
 refine ww ?_
 obtain⟨s3,hs3,h⟩:=bi h
 obtain⟨hle,es3⟩:=cat_some hs3
 refine⟨hle,?_⟩
 first|rw[←es3]|subst es3
 refine ww ?_
 obtain⟨s4,hs4,h⟩:=bi h
 obtain⟨hle,es4⟩:=cat_some hs4
 refine⟨hle,?_⟩
 first|rw[←es4]|subst es4
 refine ww ?_
 cases h
 exact eF []
def F71(x0:Int):Option (Unit):=some (())
def a71:AFn:=⟨6,[(.tmp 2)],
 (.seq (.reg [Qe 2 0])
 (.seq (.reg [Qa 3 0,
sq 4 (.max (.t 3) (kI 0)),
sq 5 (.min (.t 4) (kI 1000000000000000)),
Qa 2 5])
 .ret))⟩
theorem F71_ok{x0 r}(h:F71 x0=some r):CallD Try.prog 71 [.c (dI x0)] [] (tupV [.c (dI ((if 1000000000000000<(if x0<0 then 0 else x0)then 1000000000000000 else(if x0<0 then 0 else x0))))]) []:=by
 rw[F71]at h
 refine zc a71 (by kernel_rfl) rfl (ww ?_)
 cases h
 exact eF []
theorem a39_ok:afn Try.prog 39=some (cloneA 22 328):=by kernel_rfl
theorem F39_ok{x0 r:List Budget}(h:cloneI x0=some r):CallD Try.prog 39 [.c (dM (x0.map eBudget))] [] (tupV [.c (.own 0 1 0 r.length none)]) [some (.arr 1 22 (r.map eBudget))]:=L_clone a39_ok (fun _=>rfl) h
def cF14c1:AC:=(.reg [Qa 75 73,
Qp 76 22 71 73,
Qc 77 22 76,
sq 16 (.zbox [dS ⟨#[]⟩,dS ⟨#[]⟩,dS ⟨#[]⟩,dI 0,dI 0,dI 0,dI 0,dB false,dI 0,dN,dN,dN,dN,dN,dN,dN,dI 0,dI 0,dI 0,dI 0,dI 0,dN]),
Qa 15 75,
su (.store 22 (.t 16) (.t 77))])
def F14c1(pods:List Pod)(key:ByteArray)(cs:List RBud)(at_:Int)(item:WorkItem)(n:Int)(i:Int)(c:Bool):Option (RBud):=(rdI cs i).bind fun y1=>some ((⟨y1.Meta,y1.Selector,y1.MinAvailable,y1.MaxUnavailable,y1.Observed,y1.Healthy,y1.Desired,y1.Expected,y1.Allowed,y1.Disrupted⟩:RBud))
theorem F14c1_ok{pods key cs at_ item n i c r}(h:F14c1 pods key cs at_ item n i c=some r):sK Try.prog 118 0 cF14c1 [] (sM 118 0 (fun s=>s=⟨[(1,oc (dM (pods.map ePod))),(6,Pz 0),(10,oc (.own 1 0 0 (cs.length) none)),(13,oc (dI at_)),(14,Pz 2),(15,oc (dI i)),(16,Pz 3),(71,oc (.own 1 0 0 (cs.length) none)),(72,oc (dI n)),(73,oc (dI i))],[xb [dS key],some (.arr 0 22 (cs.map eRBud)),xb [dS item.Key,dI item.At],xb [dS ((r).Meta.Kind),dS ((r).Meta.Namespace),dS ((r).Meta.Name),dI ((r).Meta.Uid),dI ((r).Meta.Version),dI ((r).Meta.Generation),dI ((r).Meta.Created),dB ((r).Meta.Deleting),dI ((r).Meta.DeleteAt),dM (((r).Meta.Labels).map eLabel),dM (((r).Meta.Owners).map eOwner),dM (((r).Meta.Finalizers).map eS),dM (((r).Meta.Managers).map eManager),dM (((r).Selector).map eRequirement),dM (((r).MinAvailable).map eAmount),dM (((r).MaxUnavailable).map eAmount),dI ((r).Observed),dI ((r).Healthy),dI ((r).Desired),dI ((r).Expected),dI ((r).Allowed),.d ((r).Disrupted)]]⟩) (xQ 118 0 (fun _ _=>False) (fun _=>False)))
 ⟨[(1,oc (dM (pods.map ePod))),(6,Pz 0),(10,oc (.own 1 0 0 (cs.length) none)),(13,oc (dI at_)),(14,Pz 2),(71,oc (.own 1 0 0 (cs.length) none)),(72,oc (dI n)),(73,oc (dI i)),(74,oc (dB c))],[xb [dS key],some (.arr 0 22 (cs.map eRBud)),xb [dS item.Key,dI item.At]]⟩:=by
 rw[F14c1]at h
 simp only[cF14c1,VW.down,Nat.reduceEqDiff,reduceCtorEq,Nat.reduceAdd,Nat.reduceLeDiff,Nat.reduceLT,Nat.reduceBEq,Nat.reduceSub,EE.down]
 obtain⟨y1,hy1,h⟩:=bi h
 refine t_idxO (enc:=eRBud) (xs:=cs) rfl rfl rfl (by first|rfl|simp only[List.length_set]|exact(clrL_len (slI_len (by assumption))).symm) hy1 (ww ?_)
 refine LdRow.rd (rdI_some hy1).2.1 (ww ?_)
 cases h
 exact eM [some 0,some 1,some 2,some 3] rfl
noncomputable def fn73:Func:=(Try.prog.funcs[73]?).getD default
theorem fn73_ok:Try.prog.funcs[73]? =some fn73:=by kernel_rfl
theorem F73_ok{a b:ByteArray}{r:Int}(h:cmpS a b=some r):CallD Try.prog 73 [.c (dS a),.c (dS b)] [] (tupV [.c (dI r)]) []:=L_cmp fn73_ok (by kernel_rfl) (by kernel_rfl) (by kernel_rfl) (by kernel_rfl) h
def cF14c5:AC:=(.reg [Qm 116 73 1,
Qa 73 116])
def F14c5(pods:List Pod)(key:ByteArray)(cs:List RBud)(at_:Int)(item:WorkItem)(n:Int)(i:Int):Option (Unit):=some (())
theorem F14c5_ok{pods key cs at_ item n i r}(h:F14c5 pods key cs at_ item n i=some r):sK Try.prog 118 0 cF14c5 [] (sM 118 0 (fun s=>s=⟨[(1,oc (dM (pods.map ePod))),(6,Pz 0),(10,oc (.own 1 0 0 (cs.length) none)),(13,oc (dI at_)),(14,Pz 2),(71,oc (.own 1 0 0 (cs.length) none)),(72,oc (dI n)),(73,oc (dI ((IntKind.i64.wrap (i+1)))))],[xb [dS key],some (.arr 0 22 (cs.map eRBud)),xb [dS item.Key,dI item.At]]⟩) (xQ 118 0 (fun _ _=>False) (fun _=>False)))
 ⟨[(1,oc (dM (pods.map ePod))),(6,Pz 0),(10,oc (.own 1 0 0 (cs.length) none)),(13,oc (dI at_)),(14,Pz 2),(71,oc (.own 1 0 0 (cs.length) none)),(72,oc (dI n)),(73,oc (dI i))],[xb [dS key],some (.arr 0 22 (cs.map eRBud)),xb [dS item.Key,dI item.At]]⟩:=by
 rw[F14c5]at h
 simp only[cF14c5,VW.down,Nat.reduceEqDiff,reduceCtorEq,Nat.reduceAdd,Nat.reduceLeDiff,Nat.reduceLT,Nat.reduceBEq,Nat.reduceSub,EE.down]
 cases h
 exact eM [some 0,some 1,some 2] rfl
def F47(x0:Pod):Option (Bool):=(((if x0.Status.Phase=0 then some (nb x0.Meta.Deleting)else(if x0.Status.Phase=1 then some (nb x0.Meta.Deleting)else some false))).bind fun o1=>some o1)
def a47:AFn:=⟨19,[(.tmp 2)],
 (.seq (.reg [Qg 1 0,
Qf 2 false])
 (.seq (.sem (.reg [Qb 3 23 1,
Qb 4 0 3,
Qd 5 4,
Qr 6 5 0,
Qa 7 6,
Qs 8 7 false 23 1,
Qs 9 7 false 0 8,
Qt 10 7 false 9,
zg 11 7 false (.bin .eql (.t 10) (kI 1)),
Qj 12 7 11,
Qa 13 12,
Qs 14 13 true 0 1,
Qs 15 13 true 7 14,
Qt 16 13 true 15,
zg 17 13 true (.not (.t 16)),
Qi 18 13 17,
Qa 2 18]))
 .ret))⟩
theorem F47_ok{x0 r}(h:F47 x0=some r):CallD Try.prog 47 [.agg (bPod x0)] [] (tupV [.c (dB r)]) []:=by
 rw[F47]at h
 refine zc a47 (by kernel_rfl) rfl (ww ?_)
 obtain⟨o1,ho,h⟩:=bi h
 refine cutS (fun s=>s=⟨[(2,oc (dB o1))],[]⟩) ?_ ?_
 ·have h:=ho
  clear ho
  refine ww ?_
  refine guardSh h (fun g2 h=>ww ?_) (fun g2 h=>ww ?_)
  ·cases h
   exact eM [] rfl
  refine guardSh h (fun g3 h=>ww ?_) (fun g3 h=>ww ?_)
  ·cases h
   exact eM [] rfl
  cases h
  exact eM [] rfl
 rintro _ rfl
 clear ho
 refine ww ?_
 cases h
 exact eF []
def cF5ka:AC:=(.reg [Qf 10 false])
def F5ka(l:List Budget)(pods:List Pod)(order:List Int)(ex:Int)(now:Int):Option (Unit):=some (())
theorem F5ka_ok{l pods order ex now r}(h:F5ka l pods order ex now=some r):sK Try.prog 169 0 cF5ka [] (sM 169 0 (fun s=>s=⟨[(0,oc (dM (l.map eBudget))),(1,oc (dM (pods.map ePod))),(2,oc (dM (order.map (eK .u8)))),(3,oc (dI ex)),(4,oc (dI now))],[]⟩) (xQ 169 0 (fun _ _=>False) (fun _=>False)))
 ⟨[(0,oc (dM (l.map eBudget))),(1,oc (dM (pods.map ePod))),(2,oc (dM (order.map (eK .u8)))),(3,oc (dI ex)),(4,oc (dI now))],[]⟩:=by
 rw[F5ka]at h
 simp only[cF5ka,VW.down,Nat.reduceEqDiff,reduceCtorEq,Nat.reduceAdd,Nat.reduceLeDiff,Nat.reduceLT,Nat.reduceBEq,Nat.reduceSub,EE.down]
 cases h
 exact eM [] rfl
def cF5kf:AC:=(.reg [Qa 13 65])
def F5kf(pods:List Pod)(order:List Int)(now:Int)(fs:List Budget)(go:List D)(i:Int):Option (Unit):=some (())
theorem F5kf_ok{pods order now fs go i r}(h:F5kf pods order now fs go i=some r):sK Try.prog 169 0 cF5kf [] (sM 169 0 (fun s=>s=⟨[(1,oc (dM (pods.map ePod))),(2,oc (dM (order.map (eK .u8)))),(4,oc (dI now)),(11,oc (dM (fs.map eBudget))),(13,oc (.own 0 0 0 (go.length) none))],[some (.arr 0 1 (go.map eRaw))]⟩) (xQ 169 0 (fun _ _=>False) (fun _=>False)))
 ⟨[(1,oc (dM (pods.map ePod))),(2,oc (dM (order.map (eK .u8)))),(4,oc (dI now)),(11,oc (dM (fs.map eBudget))),(63,oc (dM (fs.map eBudget))),(64,oc (dI i)),(65,oc (.own 0 0 0 (go.length) none))],[some (.arr 0 1 (go.map eRaw))]⟩:=by
 rw[F5kf]at h
 simp only[cF5kf,VW.down,Nat.reduceEqDiff,reduceCtorEq,Nat.reduceAdd,Nat.reduceLeDiff,Nat.reduceLT,Nat.reduceBEq,Nat.reduceSub,EE.down]
 cases h
 exact eM [some 0] rfl
def cF5kg:AC:=(.reg [Qe 14 0])
def F5kg(pods:List Pod)(order:List Int)(now:Int)(fs:List Budget)(go:List D):Option (Unit):=some (())
theorem F5kg_ok{pods order now fs go r}(h:F5kg pods order now fs go=some r):sK Try.prog 169 0 cF5kg [] (sM 169 0 (fun s=>s=⟨[(1,oc (dM (pods.map ePod))),(2,oc (dM (order.map (eK .u8)))),(4,oc (dI now)),(11,oc (dM (fs.map eBudget))),(13,oc (.own 0 0 0 (go.length) none)),(14,oc (dI 0))],[some (.arr 0 1 (go.map eRaw))]⟩) (xQ 169 0 (fun _ _=>False) (fun _=>False)))
 ⟨[(1,oc (dM (pods.map ePod))),(2,oc (dM (order.map (eK .u8)))),(4,oc (dI now)),(11,oc (dM (fs.map eBudget))),(13,oc (.own 0 0 0 (go.length) none))],[some (.arr 0 1 (go.map eRaw))]⟩:=by
 rw[F5kg]at h
 simp only[cF5kg,VW.down,Nat.reduceEqDiff,reduceCtorEq,Nat.reduceAdd,Nat.reduceLeDiff,Nat.reduceLT,Nat.reduceBEq,Nat.reduceSub,EE.down]
 cases h
 exact eM [some 0] rfl
def cF5kh:AC:=(.seq (.reg [Qa 66 14,
Qa 67 11,
Qh 68 67,
Qn 69 66 68])
 (.cond (.t 69)
 .skip
 (.exit 2)))
def F5kh(pods:List Pod)(order:List Int)(now:Int)(fs:List Budget)(go:List D)(i:Int):Option ((Unit) ⊕ (Unit)):=(if i<(fs.length:Int)then some (Sum.inl (()))else some (Sum.inr (())))
theorem F5kh_ok{pods order now fs go i r}(h:F5kh pods order now fs go i=some r):sK Try.prog 169 0 cF5kh [] (sM 169 0 (fun s=>∃o0,r=Sum.inl o0∧s=⟨[(1,oc (dM (pods.map ePod))),(2,oc (dM (order.map (eK .u8)))),(4,oc (dI now)),(11,oc (dM (fs.map eBudget))),(13,oc (.own 0 0 0 (go.length) none)),(14,oc (dI i))],[some (.arr 0 1 (go.map eRaw))]⟩) (xQ 169 0 (fun xi s=>xi=2∧∃o1,r=Sum.inr (o1)∧s=⟨[(1,oc (dM (pods.map ePod))),(2,oc (dM (order.map (eK .u8)))),(4,oc (dI now)),(11,oc (dM (fs.map eBudget))),(13,oc (.own 0 0 0 (go.length) none))],[some (.arr 0 1 (go.map eRaw))]⟩) (fun _=>False)))
 ⟨[(1,oc (dM (pods.map ePod))),(2,oc (dM (order.map (eK .u8)))),(4,oc (dI now)),(11,oc (dM (fs.map eBudget))),(13,oc (.own 0 0 0 (go.length) none)),(14,oc (dI i))],[some (.arr 0 1 (go.map eRaw))]⟩:=by
 rw[F5kh]at h
 simp only[cF5kh,VW.down,Nat.reduceEqDiff,reduceCtorEq,Nat.reduceAdd,Nat.reduceLeDiff,Nat.reduceLT,Nat.reduceBEq,Nat.reduceSub,EE.down]
 refine condSh h (fun c1 h=>ww ?_) (fun c1 h=>?_)
 ·cases h
  exact eM [some 0] ⟨_,rfl,rfl⟩
 ·refine ww ?_
  cases h
  exact eX [some 0] ⟨rfl,_,rfl,rfl⟩
def cF5kl:AC:=(.reg [Qe 16 0])
def F5kl(pods:List Pod)(order:List Int)(now:Int)(fs:List Budget)(go:List D)(st:List Budget):Option (Unit):=some (())
theorem F5kl_ok{pods order now fs go st r}(h:F5kl pods order now fs go st=some r):sK Try.prog 169 0 cF5kl [] (sM 169 0 (fun s=>s=⟨[(1,oc (dM (pods.map ePod))),(2,oc (dM (order.map (eK .u8)))),(4,oc (dI now)),(11,oc (dM (fs.map eBudget))),(13,oc (.own 0 0 0 (go.length) none)),(15,oc (dM (st.map eBudget))),(16,oc (dI 0))],[some (.arr 0 1 (go.map eRaw))]⟩) (xQ 169 0 (fun _ _=>False) (fun _=>False)))
 ⟨[(1,oc (dM (pods.map ePod))),(2,oc (dM (order.map (eK .u8)))),(4,oc (dI now)),(11,oc (dM (fs.map eBudget))),(13,oc (.own 0 0 0 (go.length) none)),(15,oc (dM (st.map eBudget)))],[some (.arr 0 1 (go.map eRaw))]⟩:=by
 rw[F5kl]at h
 simp only[cF5kl,VW.down,Nat.reduceEqDiff,reduceCtorEq,Nat.reduceAdd,Nat.reduceLeDiff,Nat.reduceLT,Nat.reduceBEq,Nat.reduceSub,EE.down]
 cases h
 exact eM [some 0] rfl
def cF5ks:AC:=(.seq (.reg [Qa 116 20,
Qa 117 13,
Qh 118 117,
Qn 119 116 118])
 (.cond (.t 119)
 .skip
 (.exit 6)))
def F5ks(pods:List Pod)(order:List Int)(now:Int)(fs:List Budget)(go:List D)(st:List Budget)(j:Int)(key:ByteArray)(k:Int):Option ((Unit) ⊕ (Unit)):=(if k<(go.length:Int)then some (Sum.inl (()))else some (Sum.inr (())))
theorem F5ks_ok{pods order now fs go st j key k r}(h:F5ks pods order now fs go st j key k=some r):sK Try.prog 169 0 cF5ks [] (sM 169 0 (fun s=>∃o0,r=Sum.inl o0∧s=⟨[(1,oc (dM (pods.map ePod))),(2,oc (dM (order.map (eK .u8)))),(4,oc (dI now)),(11,oc (dM (fs.map eBudget))),(13,oc (.own 0 0 0 (go.length) none)),(15,oc (dM (st.map eBudget))),(16,oc (dI j)),(17,oc (dS key)),(20,oc (dI k))],[some (.arr 0 1 (go.map eRaw))]⟩) (xQ 169 0 (fun xi s=>xi=6∧∃o1,r=Sum.inr (o1)∧s=⟨[(1,oc (dM (pods.map ePod))),(2,oc (dM (order.map (eK .u8)))),(4,oc (dI now)),(11,oc (dM (fs.map eBudget))),(13,oc (.own 0 0 0 (go.length) none)),(15,oc (dM (st.map eBudget))),(16,oc (dI j))],[some (.arr 0 1 (go.map eRaw))]⟩) (fun _=>False)))
 ⟨[(1,oc (dM (pods.map ePod))),(2,oc (dM (order.map (eK .u8)))),(4,oc (dI now)),(11,oc (dM (fs.map eBudget))),(13,oc (.own 0 0 0 (go.length) none)),(15,oc (dM (st.map eBudget))),(16,oc (dI j)),(17,oc (dS key)),(20,oc (dI k))],[some (.arr 0 1 (go.map eRaw))]⟩:=by
 rw[F5ks]at h
 simp only[cF5ks,VW.down,Nat.reduceEqDiff,reduceCtorEq,Nat.reduceAdd,Nat.reduceLeDiff,Nat.reduceLT,Nat.reduceBEq,Nat.reduceSub,EE.down]
 refine condSh h (fun c1 h=>ww ?_) (fun c1 h=>?_)
 ·cases h
  exact eM [some 0] ⟨_,rfl,rfl⟩
 ·refine ww ?_
  cases h
  exact eX [some 0] ⟨rfl,_,rfl,rfl⟩
def cF5kx:AC:=(.reg [Qa 90 16,
Qm 91 90 1,
Qa 16 91])
def F5kx(pods:List Pod)(order:List Int)(now:Int)(fs:List Budget)(go:List D)(st:List Budget)(j:Int):Option (Unit):=some (())
theorem F5kx_ok{pods order now fs go st j r}(h:F5kx pods order now fs go st j=some r):sK Try.prog 169 0 cF5kx [] (sM 169 0 (fun s=>s=⟨[(1,oc (dM (pods.map ePod))),(2,oc (dM (order.map (eK .u8)))),(4,oc (dI now)),(11,oc (dM (fs.map eBudget))),(13,oc (.own 0 0 0 (go.length) none)),(15,oc (dM (st.map eBudget))),(16,oc (dI ((IntKind.i64.wrap (j+1)))))],[some (.arr 0 1 (go.map eRaw))]⟩) (xQ 169 0 (fun _ _=>False) (fun _=>False)))
 ⟨[(1,oc (dM (pods.map ePod))),(2,oc (dM (order.map (eK .u8)))),(4,oc (dI now)),(11,oc (dM (fs.map eBudget))),(13,oc (.own 0 0 0 (go.length) none)),(15,oc (dM (st.map eBudget))),(16,oc (dI j))],[some (.arr 0 1 (go.map eRaw))]⟩:=by
 rw[F5kx]at h
 simp only[cF5kx,VW.down,Nat.reduceEqDiff,reduceCtorEq,Nat.reduceAdd,Nat.reduceLeDiff,Nat.reduceLT,Nat.reduceBEq,Nat.reduceSub,EE.down]
 cases h
 exact eM [some 0] rfl
end Go.Proofs.Ytedgocbpegllaaa
