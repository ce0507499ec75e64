/- Each Go function as a function over typed data, and its walk. -/
import Derived.Test.YtdejhahgpojnoaaW0
import Derived.Test.YtdejhahgpojnoaaW7
namespace Go.Proofs.Ytdejhahgpojnoaa
open Go Go.Fw Go.Shelf
set_option maxRecDepth 100000
set_option maxHeartbeats 4000000
set_option linter.unusedSimpArgs false
set_option linter.unusedVariables false
def F19_l1:List Object→Nat→(List (Int×TState))→Option ((List (Int×TState)))
 |[],o1_1,o1_0=>some o1_0
 |xo1::xs,o1_1,o1_0=>(((if((((getM xo1.Meta.Uid o1_0).getD ((⟨false,false,false,false,false⟩:TState)))).orphans)=true then some true else(if xo1.Meta.Deleting=true then(F35 xo1.Meta.Finalizers ((⟨#[111,114,112,104,97,110,45,100,101,112,101,110,100,101,110,116,115]⟩:ByteArray))).bind fun t6=>some t6 else some false))).bind fun o3=>(((if((((getM xo1.Meta.Uid o1_0).getD ((⟨false,false,false,false,false⟩:TState)))).foreground)=true then some true else(if xo1.Meta.Deleting=true then(F35 xo1.Meta.Finalizers ((⟨#[102,111,114,101,103,114,111,117,110,100,45,100,101,108,101,116,105,111,110]⟩:ByteArray))).bind fun t10=>some t10 else some false))).bind fun o7=>F19_l1 xs (o1_1+1) ((putM xo1.Meta.Uid ((⟨true,o3,o7,(((getM xo1.Meta.Uid o1_0).getD ((⟨false,false,false,false,false⟩:TState)))).depended,(((getM xo1.Meta.Uid o1_0).getD ((⟨false,false,false,false,false⟩:TState)))).blocked⟩:TState)) o1_0))))
def F19_l14:List Owner→Nat→(List (Int×TState))→Option ((List (Int×TState)))
 |[],o14_1,o14_0=>some o14_0
 |xo14::xs,o14_1,o14_0=>(((if((((getM xo14.Uid o14_0).getD ((⟨false,false,false,false,false⟩:TState)))).blocked)=true then some true else some xo14.Block)).bind fun o16=>F19_l14 xs (o14_1+1) ((putM xo14.Uid ((⟨(((getM xo14.Uid o14_0).getD ((⟨false,false,false,false,false⟩:TState)))).exists_,(((getM xo14.Uid o14_0).getD ((⟨false,false,false,false,false⟩:TState)))).orphans,(((getM xo14.Uid o14_0).getD ((⟨false,false,false,false,false⟩:TState)))).foreground,true,o16⟩:TState)) o14_0)))
def F19_l12:List Object→Nat→(List (Int×TState))→Option ((List (Int×TState)))
 |[],o12_1,o12_0=>some o12_0
 |xo12::xs,o12_1,o12_0=>(((ck (0≤xo12.Meta.Owners.length∧xo12.Meta.Owners.length≤4294967290)).bind fun u18=>F19_l14 xo12.Meta.Owners 0 o12_0).bind fun o14=>F19_l12 xs (o12_1+1) o14)
def F19(x0:(List Object)):Option ((List (Int×TState))):=(((ck (0≤x0.length∧x0.length≤4294967290)).bind fun u11=>F19_l1 x0 0 ([])).bind fun o1=>(((ck (0≤x0.length∧x0.length≤4294967290)).bind fun u19=>F19_l12 x0 0 o1).bind fun o12=>some o12))
def a19:AFn:=⟨92,[(.tmp 2)],
 (.seq (.reg [sq 2 (.mv (.k (.c (.d (.v (.map none))))))])
 (.seq (.reg [sq 12 (.mkmap),
Qa 3 12])
 (.seq (.seq (.reg [Qa 13 0,
Qh 14 13,
Qe 15 0])
 (.sem (.block 0 (.loop (.seq (.reg [Qn 16 15 14])
 (.seq (.cond (.t 16)
 .skip
 (.exit 0))
 (.seq (.block 1 (.seq (.reg [Qp 17 23 13 15,
Qc 18 23 17,
sq 5 (.zbox [dS ⟨#[]⟩,dS ⟨#[]⟩,dS ⟨#[]⟩,dI 0,dI 0,dI 0,dI 0,dB false,dI 0,dN,dN,dN,dN,dI 0,dI 0,dS ⟨#[]⟩,dN,dN,dI 0,dI 0,dS ⟨#[]⟩,dN,dN]),
su (.store 23 (.t 5) (.t 18))])
 (.seq (.reg [Qa 19 3,
Qb 20 0 5,
Qb 21 3 20,
Qd 22 21,
sq 23 (.mget 0 false (.agg [dB false,dB false,dB false,dB false,dB false]) (.t 19) (.t 22)),
sq 6 (.zbox [dB false,dB false,dB false,dB false,dB false]),
su (.store 5 (.t 6) (.t 23))])
 (.seq (.reg [Qb 24 0 6,
⟨none,none,.store 1 (.t 24) (kB true),[],(.lone [6])⟩])
 (.seq (.sem (.reg [Qb 25 1 6,
Qd 26 25,
Qa 27 26,
Qs 28 27 false 0 5,
Qs 29 27 false 7 28,
Qt 30 27 false 29,
Qv 31 27 false 30,
Qs 32 31 true 0 5,
Qs 33 31 true 11 32,
Qt 34 31 true 33,
zg 35 31 true (.call 35 [(.t 34),(kS ⟨#[111,114,112,104,97,110,45,100,101,112,101,110,100,101,110,116,115]⟩)]),
zg 36 27 false (.pick (.t 31) (.t 35) (kB false)),
Qj 37 27 36,
Qb 38 1 6,
su (.store 1 (.t 38) (.t 37))]))
 (.seq (.sem (.reg [Qb 39 2 6,
Qd 40 39,
Qa 41 40,
Qs 42 41 false 0 5,
Qs 43 41 false 7 42,
Qt 44 41 false 43,
Qv 45 41 false 44,
Qs 46 45 true 0 5,
Qs 47 45 true 11 46,
Qt 48 45 true 47,
zg 49 45 true (.call 35 [(.t 48),(kS ⟨#[102,111,114,101,103,114,111,117,110,100,45,100,101,108,101,116,105,111,110]⟩)]),
zg 50 41 false (.pick (.t 45) (.t 49) (kB false)),
Qj 51 41 50,
Qb 52 2 6,
su (.store 1 (.t 52) (.t 51))]))
 (.reg [Qa 53 3,
Qb 54 0 5,
Qb 55 3 54,
Qd 56 55,
Qc 57 5 6,
⟨none,none,.mset 0 (.t 53) (.t 56) (.t 57),[],(.lone [5,54,55,6])⟩])))))))
 (.reg [Qm 58 15 1,
Qa 15 58]))))))))
 (.seq (.seq (.reg [Qa 59 0,
Qh 60 59,
Qe 61 0])
 (.sem (.block 2 (.loop (.seq (.reg [Qn 62 61 60])
 (.seq (.cond (.t 62)
 .skip
 (.exit 2))
 (.seq (.block 3 (.seq (.reg [Qp 63 23 59 61,
Qc 64 23 63,
sq 8 (.zbox [dS ⟨#[]⟩,dS ⟨#[]⟩,dS ⟨#[]⟩,dI 0,dI 0,dI 0,dI 0,dB false,dI 0,dN,dN,dN,dN,dI 0,dI 0,dS ⟨#[]⟩,dN,dN,dI 0,dI 0,dS ⟨#[]⟩,dN,dN]),
su (.store 23 (.t 8) (.t 64))])
 (.seq (.reg [Qb 65 0 8,
Qb 66 10 65,
Qd 67 66,
Qh 68 67,
Qe 69 0])
 (.sem (.block 4 (.loop (.seq (.reg [Qn 70 69 68])
 (.seq (.cond (.t 70)
 .skip
 (.exit 4))
 (.seq (.block 5 (.seq (.reg [Qp 71 5 67 69,
Qc 72 5 71,
sq 10 (.zbox [dS ⟨#[]⟩,dS ⟨#[]⟩,dI 0,dB false,dB false]),
su (.store 5 (.t 10) (.t 72))])
 (.seq (.reg [Qa 73 3,
Qb 74 2 10,
Qd 75 74,
sq 76 (.mget 0 false (.agg [dB false,dB false,dB false,dB false,dB false]) (.t 73) (.t 75)),
sq 11 (.zbox [dB false,dB false,dB false,dB false,dB false]),
su (.store 5 (.t 11) (.t 76))])
 (.seq (.reg [Qb 77 3 11,
⟨none,none,.store 1 (.t 77) (kB true),[],(.lone [11])⟩])
 (.seq (.sem (.reg [Qb 78 4 11,
Qd 79 78,
Qa 80 79,
Qs 81 80 false 4 10,
Qt 82 80 false 81,
Qj 83 80 82,
Qb 84 4 11,
su (.store 1 (.t 84) (.t 83))]))
 (.reg [Qa 85 3,
Qb 86 2 10,
Qd 87 86,
Qc 88 5 11,
⟨none,none,.mset 0 (.t 85) (.t 87) (.t 88),[],(.lone [10,86,11])⟩]))))))
 (.reg [Qm 89 69 1,
Qa 69 89]))))))))))
 (.reg [Qm 90 61 1,
Qa 61 90]))))))))
 (.seq (.reg [Qa 91 3,
Qa 2 91])
 .ret)))))⟩
theorem F19_ok{x0 r}(h:F19 x0=some r):CallD Try.prog 19 [.c (dM (x0.map eObject))] [] (tupV [.c (.mref 0)]) [some (.map (eMs (Value.int .i64) eTState r))]:=by
 rw[F19]at h
 refine zc a19 (by kernel_rfl) rfl (ww ?_)
 refine t_mkmaps (κ:=Int) (α:=TState) (enc:=eTState) (Value.int .i64) (ww ?_)
 obtain⟨o1,ho,h⟩:=bi h
 refine cutS (fun s=>s=⟨[(0,oc (dM (x0.map eObject))),(3,oc (.mref 0))],[some (.map (eMs (Value.int .i64) eTState o1))]⟩) ?_ ?_
 ·have h:=ho
  clear ho
  obtain⟨_,hk,h⟩:=bi h
  have hk:=ck_some hk
  refine ww ?_
  refine bL (fun j s=>∃(o1_1:Nat) (o1_0:List (Int×TState)),(o1_1≤x0.length∧j=x0.length-o1_1)∧s=⟨[(0,oc (dM (x0.map eObject))),(3,oc (.mref 0)),(13,oc (dM (x0.map eObject))),(14,oc (dI ((x0.length:Int)))),(15,oc (dI ((o1_1:Int))))],[some (.map (eMs (Value.int .i64) eTState o1_0))]⟩∧F19_l1 (x0.drop o1_1) o1_1 o1_0=some o1) (x0.length-0) [some 0] ⟨0,[],⟨hk.1,rfl⟩,rfl,h⟩ ?_
  rintro _ _ ⟨o1_1,o1_0,⟨hi,rfl⟩,rfl,h⟩
  refine ww ?_
  refine condS (fun c2=>?_) (fun c2=>?_)
  ·obtain⟨xo1,hxo1,hd⟩:=countY (show(o1_1:Int)<(x0.length:Int)from c2)
   rw[hd,F19_l1]at h
   refine ww ?_
   refine t_idxF (enc:=eObject) (xs:=x0) rfl rfl hxo1 rfl (ww ?_)
   refine t_mgets (enc:=eTState) (l:=o1_0) (z:=(⟨false,false,false,false,false⟩:TState)) kkI rfl rfl rfl rfl (ww ?_)
   obtain⟨o3,ho,h⟩:=bi h
   refine cutS (fun s=>s=⟨[(0,oc (dM (x0.map eObject))),(3,oc (.mref 0)),(5,Pz 1),(6,Pz 2),(13,oc (dM (x0.map eObject))),(14,oc (dI ((x0.length:Int)))),(15,oc (dI ((o1_1:Int))))],[some (.map (eMs (Value.int .i64) eTState o1_0)),xb (bObject xo1),xb [dB true,dB o3,dB ((((getM xo1.Meta.Uid o1_0).getD ((⟨false,false,false,false,false⟩:TState)))).foreground),dB ((((getM xo1.Meta.Uid o1_0).getD ((⟨false,false,false,false,false⟩:TState)))).depended),dB ((((getM xo1.Meta.Uid o1_0).getD ((⟨false,false,false,false,false⟩:TState)))).blocked)]]⟩) ?_ ?_
   ·have h:=ho
    clear ho
    refine ww ?_
    refine guardSBh h (fun g4 h=>ww ?_) (fun g4 h=>ww ?_)
    ·cases h
     exact eM [some 0,some 1,some 2] rfl
    refine guardSBh h (fun g5 h=>ww ?_) (fun g5 h=>ww ?_)
    ·obtain⟨t6,ht6,h⟩:=bi h
     refine cN [] (F35_ok ht6) trivial (ww ?_)
     cases h
     exact eM [some 0,some 1,some 2] rfl
    cases h
    exact eM [some 0,some 1,some 2] rfl
   rintro _ rfl
   clear ho
   refine ww ?_
   obtain⟨o7,ho,h⟩:=bi h
   refine cutS (fun s=>s=⟨[(0,oc (dM (x0.map eObject))),(3,oc (.mref 0)),(5,Pz 1),(6,Pz 2),(13,oc (dM (x0.map eObject))),(14,oc (dI ((x0.length:Int)))),(15,oc (dI ((o1_1:Int))))],[some (.map (eMs (Value.int .i64) eTState o1_0)),xb (bObject xo1),xb [dB true,dB o3,dB o7,dB ((((getM xo1.Meta.Uid o1_0).getD ((⟨false,false,false,false,false⟩:TState)))).depended),dB ((((getM xo1.Meta.Uid o1_0).getD ((⟨false,false,false,false,false⟩:TState)))).blocked)]]⟩) ?_ ?_
   ·have h:=ho
    clear ho
    refine ww ?_
    refine guardSBh h (fun g8 h=>ww ?_) (fun g8 h=>ww ?_)
    ·cases h
     exact eM [some 0,some 1,some 2] rfl
    refine guardSBh h (fun g9 h=>ww ?_) (fun g9 h=>ww ?_)
    ·obtain⟨t10,ht10,h⟩:=bi h
     refine cN [] (F35_ok ht10) trivial (ww ?_)
     cases h
     exact eM [some 0,some 1,some 2] rfl
    cases h
    exact eM [some 0,some 1,some 2] rfl
   rintro _ rfl
   clear ho
   refine ww ?_
   refine t_msets (enc:=eTState) (l:=o1_0) (x:=(⟨true,o3,o7,(((getM xo1.Meta.Uid o1_0).getD ((⟨false,false,false,false,false⟩:TState)))).depended,(((getM xo1.Meta.Uid o1_0).getD ((⟨false,false,false,false,false⟩:TState)))).blocked⟩:TState)) kkI rfl rfl rfl rfl (ww ?_)
   rw[wrapN (by omega)]
   exact eL' (x0.length-(o1_1+1)) [some 0] ⟨o1_1+1,(putM xo1.Meta.Uid ((⟨true,o3,o7,(((getM xo1.Meta.Uid o1_0).getD ((⟨false,false,false,false,false⟩:TState)))).depended,(((getM xo1.Meta.Uid o1_0).getD ((⟨false,false,false,false,false⟩:TState)))).blocked⟩:TState)) o1_0),⟨by omega,rfl⟩,rfl,h⟩ (by omega)
  rw[countN (show¬((o1_1:Int)<(x0.length:Int))from c2),F19_l1]at h
  refine ww ?_
  cases h
  exact eM [some 0] rfl
 rintro _ rfl
 clear ho
 refine ww ?_
 obtain⟨o12,ho,h⟩:=bi h
 refine cutS (fun s=>s=⟨[(3,oc (.mref 0))],[some (.map (eMs (Value.int .i64) eTState o12))]⟩) ?_ ?_
 ·have h:=ho
  clear ho
  obtain⟨_,hk,h⟩:=bi h
  have hk:=ck_some hk
  refine ww ?_
  refine bL (fun j s=>∃(o12_1:Nat) (o12_0:List (Int×TState)),(o12_1≤x0.length∧j=x0.length-o12_1)∧s=⟨[(3,oc (.mref 0)),(59,oc (dM (x0.map eObject))),(60,oc (dI ((x0.length:Int)))),(61,oc (dI ((o12_1:Int))))],[some (.map (eMs (Value.int .i64) eTState o12_0))]⟩∧F19_l12 (x0.drop o12_1) o12_1 o12_0=some o12) (x0.length-0) [some 0] ⟨0,o1,⟨hk.1,rfl⟩,rfl,h⟩ ?_
  rintro _ _ ⟨o12_1,o12_0,⟨hi,rfl⟩,rfl,h⟩
  refine ww ?_
  refine condS (fun c13=>?_) (fun c13=>?_)
  ·obtain⟨xo12,hxo12,hd⟩:=countY (show(o12_1:Int)<(x0.length:Int)from c13)
   rw[hd,F19_l12]at h
   refine ww ?_
   refine t_idxF (enc:=eObject) (xs:=x0) rfl rfl hxo12 rfl (ww ?_)
   obtain⟨o14,ho,h⟩:=bi h
   refine cutS (fun s=>s=⟨[(3,oc (.mref 0)),(59,oc (dM (x0.map eObject))),(60,oc (dI ((x0.length:Int)))),(61,oc (dI ((o12_1:Int))))],[some (.map (eMs (Value.int .i64) eTState o14))]⟩) ?_ ?_
   ·have h:=ho
    clear ho
    obtain⟨_,hk,h⟩:=bi h
    have hk:=ck_some hk
    refine ww ?_
    refine bL (fun j s=>∃(o14_1:Nat) (o14_0:List (Int×TState)),(o14_1≤xo12.Meta.Owners.length∧j=xo12.Meta.Owners.length-o14_1)∧s=⟨[(3,oc (.mref 0)),(59,oc (dM (x0.map eObject))),(60,oc (dI ((x0.length:Int)))),(61,oc (dI ((o12_1:Int)))),(67,oc (dM (xo12.Meta.Owners.map eOwner))),(68,oc (dI ((xo12.Meta.Owners.length:Int)))),(69,oc (dI ((o14_1:Int))))],[some (.map (eMs (Value.int .i64) eTState o14_0))]⟩∧F19_l14 (xo12.Meta.Owners.drop o14_1) o14_1 o14_0=some o14) (xo12.Meta.Owners.length-0) [some 0] ⟨0,o12_0,⟨hk.1,rfl⟩,rfl,h⟩ ?_
    rintro _ _ ⟨o14_1,o14_0,⟨hi,rfl⟩,rfl,h⟩
    refine ww ?_
    refine condS (fun c15=>?_) (fun c15=>?_)
    ·obtain⟨xo14,hxo14,hd⟩:=countY (show(o14_1:Int)<(xo12.Meta.Owners.length:Int)from c15)
     rw[hd,F19_l14]at h
     refine ww ?_
     refine t_idxF (enc:=eOwner) (xs:=xo12.Meta.Owners) rfl rfl hxo14 rfl (ww ?_)
     refine t_mgets (enc:=eTState) (l:=o14_0) (z:=(⟨false,false,false,false,false⟩:TState)) kkI rfl rfl rfl rfl (ww ?_)
     obtain⟨o16,ho,h⟩:=bi h
     refine cutS (fun s=>s=⟨[(3,oc (.mref 0)),(10,Pz 1),(11,Pz 2),(59,oc (dM (x0.map eObject))),(60,oc (dI ((x0.length:Int)))),(61,oc (dI ((o12_1:Int)))),(67,oc (dM (xo12.Meta.Owners.map eOwner))),(68,oc (dI ((xo12.Meta.Owners.length:Int)))),(69,oc (dI ((o14_1:Int))))],[some (.map (eMs (Value.int .i64) eTState o14_0)),xb (bOwner xo14),xb [dB ((((getM xo14.Uid o14_0).getD ((⟨false,false,false,false,false⟩:TState)))).exists_),dB ((((getM xo14.Uid o14_0).getD ((⟨false,false,false,false,false⟩:TState)))).orphans),dB ((((getM xo14.Uid o14_0).getD ((⟨false,false,false,false,false⟩:TState)))).foreground),dB true,dB o16]]⟩) ?_ ?_
     ·have h:=ho
      clear ho
      refine ww ?_
      refine guardSBh h (fun g17 h=>ww ?_) (fun g17 h=>ww ?_)
      ·cases h
       exact eM [some 0,some 1,some 2] rfl
      cases h
      exact eM [some 0,some 1,some 2] rfl
     rintro _ rfl
     clear ho
     refine ww ?_
     refine t_msets (enc:=eTState) (l:=o14_0) (x:=(⟨(((getM xo14.Uid o14_0).getD ((⟨false,false,false,false,false⟩:TState)))).exists_,(((getM xo14.Uid o14_0).getD ((⟨false,false,false,false,false⟩:TState)))).orphans,(((getM xo14.Uid o14_0).getD ((⟨false,false,false,false,false⟩:TState)))).foreground,true,o16⟩:TState)) kkI rfl rfl rfl rfl (ww ?_)
     rw[wrapN (by omega)]
     exact eL' (xo12.Meta.Owners.length-(o14_1+1)) [some 0] ⟨o14_1+1,(putM xo14.Uid ((⟨(((getM xo14.Uid o14_0).getD ((⟨false,false,false,false,false⟩:TState)))).exists_,(((getM xo14.Uid o14_0).getD ((⟨false,false,false,false,false⟩:TState)))).orphans,(((getM xo14.Uid o14_0).getD ((⟨false,false,false,false,false⟩:TState)))).foreground,true,o16⟩:TState)) o14_0),⟨by omega,rfl⟩,rfl,h⟩ (by omega)
    rw[countN (show¬((o14_1:Int)<(xo12.Meta.Owners.length:Int))from c15),F19_l14]at h
    refine ww ?_
    cases h
    exact eM [some 0] rfl
   rintro _ rfl
   clear ho
   refine ww ?_
   rw[wrapN (by omega)]
   exact eL' (x0.length-(o12_1+1)) [some 0] ⟨o12_1+1,o14,⟨by omega,rfl⟩,rfl,h⟩ (by omega)
  rw[countN (show¬((o12_1:Int)<(x0.length:Int))from c13),F19_l12]at h
  refine ww ?_
  cases h
  exact eM [some 0] rfl
 rintro _ rfl
 clear ho
 refine ww ?_
 cases h
 exact eF [some 0]
end Go.Proofs.Ytdejhahgpojnoaa
