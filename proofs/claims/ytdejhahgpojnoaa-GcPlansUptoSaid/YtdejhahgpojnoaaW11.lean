/- Each Go function as a function over typed data, and its walk. -/
import Derived.Test.YtdejhahgpojnoaaW0
import Derived.Test.YtdejhahgpojnoaaW2
import Derived.Test.YtdejhahgpojnoaaW5
import Derived.Test.YtdejhahgpojnoaaW6
import Derived.Test.YtdejhahgpojnoaaW8
namespace Go.Proofs.Ytdejhahgpojnoaa
open Go Go.Fw Go.Shelf
set_option maxRecDepth 100000
set_option maxHeartbeats 4000000
set_option linter.unusedSimpArgs false
set_option linter.unusedVariables false
def F12_l1(x1:Int):List Object→Nat→(List ByteArray)→Option ((List ByteArray))
 |[],o1_1,o1_0=>some o1_0
 |xo1::xs,o1_1,o1_0=>(((F25 xo1 x1 false).bind fun t4=>(if t4=true then(F26 xo1.Meta).bind fun t6=>(apI o1_0 ([t6])).bind fun a7=>some a7 else some o1_0)).bind fun o3=>F12_l1 x1 xs (o1_1+1) o3)
def F12(x0:(List Object))(x1:Int):Option ((List ByteArray)):=(((ck (0≤x0.length∧x0.length≤4294967290)).bind fun u8=>F12_l1 x1 x0 0 ([])).bind fun o1=>(sortI o1).bind fun t9=>(compI t9).bind fun t10=>some t10)
def a12:AFn:=⟨28,[(.tmp 4)],
 (.seq (.reg [sq 4 (.mv kN)])
 (.seq (.reg [sq 5 (.mv kN)])
 (.seq (.seq (.reg [Qa 8 0,
Qh 9 8,
Qe 10 0])
 (.sem (.block 0 (.loop (.seq (.reg [Qn 11 10 9])
 (.seq (.cond (.t 11)
 .skip
 (.exit 0))
 (.seq (.sem (.block 1 (.seq (.reg [Qp 12 23 8 10,
Qc 13 23 12,
sq 7 (.zbox [dS ⟨#[]⟩,dS ⟨#[]⟩,dS ⟨#[]⟩,dI 0,dI 0,dI 0,dI 0,dB false,dI 0,dN,dN,dN,dN,dI 0,dI 0,dS ⟨#[]⟩,dN,dN,dI 0,dI 0,dS ⟨#[]⟩,dN,dN]),
su (.store 23 (.t 7) (.t 13))])
 (.seq (.reg [Qc 14 23 7,
Qa 15 1,
zl 16 (.call 25 [(.t 14),(.t 15),(kB false)]) [] [7]])
 (.cond (.t 16)
 (.reg [Qa 17 5,
Qb 18 0 7,
Qc 19 13 18,
Qk 20 26 19,
sq 21 (.bslice 1 [(.t 20)]),
sq 22 (.app 1 16 (.t 17) (.t 21)),
Qa 5 22])
 .skip)))))
 (.reg [Qm 23 10 1,
Qa 10 23]))))))))
 (.seq (.reg [Qa 24 5,
zl 25 (.call 27 [(.t 24)]) [] []])
 (.seq (.reg [Qa 26 5,
Qk 27 28 26,
Qa 4 27])
 .ret)))))⟩
theorem F12_ok{x0 x1 r}(h:F12 x0 x1=some r):CallD Try.prog 12 [.c (dM (x0.map eObject)),.c (dI x1)] [] (tupV [.c (.own 0 0 0 (r.length) none)]) [some (.arr 0 1 (r.map eS))]:=by
 rw[F12]at h
 refine zc a12 (by kernel_rfl) rfl (ww ?_)
 obtain⟨o1,ho,h⟩:=bi h
 refine cutS (fun s=>s=⟨[(5,oc (.own 0 0 0 (o1.length) none))],[some (.arr 0 1 (o1.map eS))]⟩) ?_ ?_
 ·have h:=ho
  clear ho
  obtain⟨_,hk,h⟩:=bi h
  have hk:=ck_some hk
  refine ww ?_
  refine bL (fun j s=>∃(o1_1:Nat) (o1_0:List ByteArray),(o1_1≤x0.length∧j=x0.length-o1_1)∧s=⟨[(1,oc (dI x1)),(5,oc (.own 0 0 0 (o1_0.length) none)),(8,oc (dM (x0.map eObject))),(9,oc (dI ((x0.length:Int)))),(10,oc (dI ((o1_1:Int))))],[some (.arr 0 1 (o1_0.map eS))]⟩∧F12_l1 x1 (x0.drop o1_1) o1_1 o1_0=some o1) (x0.length-0) [none] ⟨0,[],⟨hk.1,rfl⟩,rfl,h⟩ ?_
  rintro _ _ ⟨o1_1,o1_0,⟨hi,rfl⟩,rfl,h⟩
  refine ww ?_
  refine condS (fun c2=>?_) (fun c2=>?_)
  ·obtain⟨xo1,hxo1,hd⟩:=countY (show(o1_1:Int)<(x0.length:Int)from c2)
   rw[hd,F12_l1]at h
   refine ww ?_
   obtain⟨o3,ho,h⟩:=bi h
   refine cutS (fun s=>s=⟨[(1,oc (dI x1)),(5,oc (.own 0 0 0 (o3.length) none)),(8,oc (dM (x0.map eObject))),(9,oc (dI ((x0.length:Int)))),(10,oc (dI ((o1_1:Int))))],[some (.arr 0 1 (o3.map eS))]⟩) ?_ ?_
   ·have h:=ho
    clear ho
    refine ww ?_
    refine t_idxF (enc:=eObject) (xs:=x0) rfl rfl hxo1 rfl (ww ?_)
    obtain⟨t4,ht4,h⟩:=bi h
    refine cN [] (F25_ok ht4) trivial (ww ?_)
    refine condBh h (fun c5 h=>ww ?_) (fun c5 h=>ww ?_)
    ·obtain⟨t6,ht6,h⟩:=bi h
     refine cN [] (F26_ok ht6) trivial (ww ?_)
     refine t_bslice (enc:=eS) (ys:=[t6]) rfl rfl (by simp[A1.cells]) (by first|rfl|(simp only[List.drop_zero,take_mapL];rfl)|(simp only[lit,List.map_cons,List.map_nil,List.drop_zero,take_mapL,EE.down];done)|(simp only[lit,List.map_cons,List.map_nil,List.drop_zero,take_mapL,EE.down];rfl)) (ww ?_)
     obtain⟨a7,ha7,h⟩:=bi h
     refine t_app (enc:=eS) (xs:=o1_0) rfl rfl (by first|rfl|simp only[List.length_set]|exact(clrL_len (slI_len (by assumption))).symm) rfl (rows_full (enc:=eS) (by first|rfl|simp only[List.length_set]|exact(clrL_len (slI_len (by assumption))).symm) rfl) ha7 (ww ?_)
     cases h
     exact eM [some 0] rfl
    cases h
    exact eM [some 0] rfl
   rintro _ rfl
   clear ho
   refine ww ?_
   rw[wrapN (by omega)]
   exact eL' (x0.length-(o1_1+1)) [some 0] ⟨o1_1+1,o3,⟨by omega,rfl⟩,rfl,h⟩ (by omega)
  rw[countN (show¬((o1_1:Int)<(x0.length:Int))from c2),F12_l1]at h
  refine ww ?_
  cases h
  exact eM [some 0] rfl
 rintro _ rfl
 clear ho
 refine ww ?_
 obtain⟨t9,ht9,h⟩:=bi h
 refine cN [0] (F27_ok (e0:=0) ht9) ⟨⟨rfl,trivial⟩,trivial⟩ ?_
 refine ww ?_
 obtain⟨t10,ht10,h⟩:=bi h
 refine callX_n [0] (F28_ok (e0:=0) ht10) ?_ ?_ ?_ ?_ ?_ ?_
 ·first|rfl|simp[nrmA,nrmC,nrm,A1.ren,C.ren,rn,List.length_set,sortI_len ht9]
 ·simp[liveAll,A1.live,C.live,hp]
 ·rfl
 ·decide
 ·exact⟨⟨rfl,trivial⟩,trivial⟩
 refine ww ?_
 cases h
 exact eF [some 0] (hB:=by simp only[ZZ.down,Nat.reduceEqDiff,reduceCtorEq,Nat.reduceAdd,Nat.reduceLeDiff,Nat.reduceLT,Nat.reduceBNe,EE.down,sortI_len ht9]) (hs:=by simp only[ZZ.down,Nat.reduceEqDiff,reduceCtorEq,Nat.reduceAdd,Nat.reduceLeDiff,Nat.reduceLT,Nat.reduceBNe,EE.down,sortI_len ht9])
def F11_l7:Nat→(List GcAction)→Int→Option ((List GcAction))
 |0,_,_=>none
 |k+1,o7_0,o7_1=>(((if 0<o7_1 then(rdI o7_0 o7_1).bind fun y10=>(rdI o7_0 ((IntKind.i64.wrap (o7_1-1)))).bind fun y11=>some (Op.bytesLess y10.Key.toList y11.Key.toList)else some false)).bind fun o8=>(if o8=true then(rdI o7_0 o7_1).bind fun y13=>(rdI o7_0 ((IntKind.i64.wrap (o7_1-1)))).bind fun y14=>(rdI o7_0 o7_1).bind fun y15=>(rdI ((o7_0.set o7_1.toNat y14)) ((IntKind.i64.wrap (o7_1-1)))).bind fun y16=>F11_l7 k ((((o7_0.set o7_1.toNat y14)).set ((IntKind.i64.wrap (o7_1-1))).toNat y13)) ((IntKind.i64.wrap (o7_1-1)))else some o7_0))
def F11_l1(x0:(List Object)):List Object→Nat→(List GcAction)→Option ((List GcAction))
 |[],o1_1,o1_0=>some o1_0
 |xo1::xs,o1_1,o1_0=>(((F24 x0 xo1).bind fun t4=>(if(nb t4.2)=true then some o1_0 else(apI o1_0 ([(⟨(t4.1).Kind,(t4.1).Key,(t4.1).Uid,(t4.1).Owner,(t4.1).Name⟩:GcAction)])).bind fun a6=>((F11_l7 1099511627776 a6 ((IntKind.i64.wrap (((a6.length:Int))-1)))).bind fun o7=>some o7))).bind fun o3=>F11_l1 x0 xs (o1_1+1) o3)
def F11(x0:(List Object)):Option ((List GcAction)):=(((ck (0≤x0.length∧x0.length≤4294967290)).bind fun u17=>F11_l1 x0 x0 0 ([])).bind fun o1=>some o1)
def a11:AFn:=⟨69,[(.tmp 2)],
 (.seq (.reg [sq 2 (.mv kN)])
 (.seq (.reg [sq 3 (.mv kN)])
 (.seq (.seq (.reg [Qe 4 0])
 (.sem (.block 0 (.loop (.seq (.seq (.reg [Qa 9 4,
Qa 10 0,
Qh 11 10,
Qn 12 9 11])
 (.cond (.t 12)
 .skip
 (.exit 0)))
 (.seq (.sem (.block 1 (.seq (.reg [Qa 16 0,
Qa 17 0,
Qa 18 4,
Qp 19 23 17 18,
Qc 20 23 19,
Ql 21 24 16 20,
Qa 15 21,
Qo 22 15 0,
Qo 23 15 1,
sq 5 (.zbox [dI 0,dS ⟨#[]⟩,dI 0,dI 0,dS ⟨#[]⟩]),
su (.store 5 (.t 5) (.t 22)),
Qa 6 23])
 (.seq (.seq (.reg [Qa 24 6,
Qq 25 24])
 (.cond (.t 25)
 (.exit 1)
 .skip))
 (.seq (.reg [Qa 26 3,
Qc 27 5 5,
sq 28 (.bslice 5 [(.t 27)]),
sq 29 (.app 5 56 (.t 26) (.t 28)),
Qa 3 29])
 (.seq (.reg [Qa 30 3,
Qh 31 30,
sq 32 (.bin .sub (.t 31) (kI 1)),
Qa 7 32])
 (.sem (.block 2 (.loop (.seq (.seq (.sem (.regd [Qa 33 7,
sd 34 (.bin .gtr (.t 33) (kI 0)) [0],
sd 35 (.mv (.t 34)) [0,1],
⟨(some 36),(some (35,true)),.mv (.t 3),[0,1,2],(.new [])⟩,
⟨(some 37),(some (35,true)),.mv (.t 7),[0,1,2],(.new [])⟩,
⟨(some 38),(some (35,true)),.indexA 5 (.t 36) (.t 37),[0,1,2,3,4],(.new [])⟩,
⟨(some 39),(some (35,true)),.fieldA 1 (.t 38),[0,1,2,3,4,5],(.new [])⟩,
⟨(some 40),(some (35,true)),.load none (.t 39),[0,1,2,3,4,5,6],(.new [])⟩,
⟨(some 41),(some (35,true)),.mv (.t 3),[0,1,2],(.new [])⟩,
⟨(some 42),(some (35,true)),.mv (.t 7),[0,1,2],(.new [])⟩,
⟨(some 43),(some (35,true)),.bin .sub (.t 42) (kI 1),[0,1,2,9],(.new [])⟩,
⟨(some 44),(some (35,true)),.indexA 5 (.t 41) (.t 43),[0,1,2,8,9,10],(.new [])⟩,
⟨(some 45),(some (35,true)),.fieldA 1 (.t 44),[0,1,2,8,9,10,11],(.new [])⟩,
⟨(some 46),(some (35,true)),.load none (.t 45),[0,1,2,8,9,10,11,12],(.new [])⟩,
⟨(some 47),(some (35,true)),.bin .lss (.t 40) (.t 46),[0,1,2,3,4,5,6,7,8,9,10,11,12,13],(.new [])⟩,
zl 48 (.pick (.t 35) (.t 47) (kB false)) [0,1,2,3,4,5,6,7,8,9,10,11,12,13,14] []]))
 (.cond (.t 48)
 .skip
 (.exit 2)))
 (.seq (.block 3 (.seq (.reg [Qa 51 3,
Qa 52 7,
Qp 53 5 51 52,
Qc 54 5 53,
sq 8 (.zbox [dI 0,dS ⟨#[]⟩,dI 0,dI 0,dS ⟨#[]⟩]),
su (.store 5 (.t 8) (.t 54))])
 (.seq (.reg [Qa 55 3,
Qa 56 7,
Qa 57 3,
Qa 58 7,
sq 59 (.bin .sub (.t 58) (kI 1)),
Qp 60 5 57 59,
Qc 61 5 60,
Qp 62 5 55 56,
⟨none,none,.store 5 (.t 62) (.t 61),[],(.lone [57,60,55])⟩])
 (.reg [Qa 63 3,
Qa 64 7,
sq 65 (.bin .sub (.t 64) (kI 1)),
Qc 66 5 8,
Qp 67 5 63 65,
⟨none,none,.store 5 (.t 67) (.t 66),[],(.lone [8,63])⟩]))))
 (.reg [Qa 49 7,
sq 50 (.bin .sub (.t 49) (kI 1)),
Qa 7 50]))))))))))))
 (.reg [Qa 13 4,
Qm 14 13 1,
Qa 4 14])))))))
 (.seq (.reg [Qa 68 3,
Qa 2 68])
 .ret))))⟩
theorem F11_ok{x0 r}(h:F11 x0=some r):CallD Try.prog 11 [.c (dM (x0.map eObject))] [] (tupV [.c (.own 0 0 0 (r.length) none)]) [some (.arr 0 5 (r.map eGcAction))]:=by
 rw[F11]at h
 refine zc a11 (by kernel_rfl) rfl (ww ?_)
 obtain⟨o1,ho,h⟩:=bi h
 refine cutS (fun s=>s=⟨[(3,oc (.own 0 0 0 (o1.length) none))],[some (.arr 0 5 (o1.map eGcAction))]⟩) ?_ ?_
 ·have h:=ho
  clear ho
  obtain⟨_,hk,h⟩:=bi h
  have hk:=ck_some hk
  refine ww ?_
  refine bL (fun j s=>∃(o1_1:Nat) (o1_0:List GcAction),(o1_1≤x0.length∧j=x0.length-o1_1)∧s=⟨[(0,oc (dM (x0.map eObject))),(3,oc (.own 0 0 0 (o1_0.length) none)),(4,oc (dI ((o1_1:Int))))],[some (.arr 0 5 (o1_0.map eGcAction))]⟩∧F11_l1 x0 (x0.drop o1_1) o1_1 o1_0=some o1) (x0.length-0) [none] ⟨0,[],⟨hk.1,rfl⟩,rfl,h⟩ ?_
  rintro _ _ ⟨o1_1,o1_0,⟨hi,rfl⟩,rfl,h⟩
  refine ww ?_
  refine condS (fun c2=>?_) (fun c2=>?_)
  ·obtain⟨xo1,hxo1,hd⟩:=countY (show(o1_1:Int)<(x0.length:Int)from c2)
   rw[hd,F11_l1]at h
   refine ww ?_
   obtain⟨o3,ho,h⟩:=bi h
   refine cutS (fun s=>s=⟨[(0,oc (dM (x0.map eObject))),(3,oc (.own 0 0 0 (o3.length) none)),(4,oc (dI ((o1_1:Int))))],[some (.arr 0 5 (o3.map eGcAction))]⟩) ?_ ?_
   ·have h:=ho
    clear ho
    refine ww ?_
    refine t_idxF (enc:=eObject) (xs:=x0) rfl rfl hxo1 rfl (ww ?_)
    obtain⟨t4,ht4,h⟩:=bi h
    refine cN [] (F24_ok ht4) trivial (ww ?_)
    refine condBh h (fun c5 h=>ww ?_) (fun c5 h=>ww ?_)
    ·cases h
     exact eM [some 0] rfl
    refine t_bslice (enc:=eGcAction) (ys:=[(⟨(t4.1).Kind,(t4.1).Key,(t4.1).Uid,(t4.1).Owner,(t4.1).Name⟩:GcAction)]) rfl rfl (by simp[A1.cells]) (by first|rfl|(simp only[List.drop_zero,take_mapL];rfl)|(simp only[lit,List.map_cons,List.map_nil,List.drop_zero,take_mapL,EE.down];done)|(simp only[lit,List.map_cons,List.map_nil,List.drop_zero,take_mapL,EE.down];rfl)) (ww ?_)
    obtain⟨a6,ha6,h⟩:=bi h
    refine t_app (enc:=eGcAction) (xs:=o1_0) rfl rfl (by first|rfl|simp only[List.length_set]|exact(clrL_len (slI_len (by assumption))).symm) rfl (rows_full (enc:=eGcAction) (by first|rfl|simp only[List.length_set]|exact(clrL_len (slI_len (by assumption))).symm) rfl) ha6 (ww ?_)
    obtain⟨o7,ho,h⟩:=bi h
    refine cutS (fun s=>s=⟨[(0,oc (dM (x0.map eObject))),(3,oc (.own 0 0 0 (o7.length) none)),(4,oc (dI ((o1_1:Int))))],[some (.arr 0 5 (o7.map eGcAction))]⟩) ?_ ?_
    ·have h:=ho
     clear ho
     refine ww ?_
     refine bL (fun j s=>∃(o7_0:List GcAction) (o7_1:Int),s=⟨[(0,oc (dM (x0.map eObject))),(3,oc (.own 0 0 0 (o7_0.length) none)),(4,oc (dI ((o1_1:Int)))),(7,oc (dI o7_1))],[some (.arr 0 5 (o7_0.map eGcAction))]⟩∧F11_l7 j o7_0 o7_1=some o7) 1099511627776 [some 0] ⟨a6,(IntKind.i64.wrap (((a6.length:Int))-1)),rfl,h⟩ ?_
     rintro j _ ⟨o7_0,o7_1,rfl,h⟩
     cases j with
     |zero=>cases(show(none:Option _)=some _ from h)
     |succ j=>
      rw[F11_l7]at h
      refine ww ?_
      obtain⟨o8,ho,h⟩:=bi h
      refine cutS (fun s=>s=⟨[(0,oc (dM (x0.map eObject))),(3,oc (.own 0 0 0 (o7_0.length) none)),(4,oc (dI ((o1_1:Int)))),(7,oc (dI o7_1)),(48,oc (dB o8))],[some (.arr 0 5 (o7_0.map eGcAction))]⟩) ?_ ?_
      ·have h:=ho
       clear ho
       refine ww ?_
       refine guardDh h (fun g9 h=>ww ?_) (fun g9 h=>?_)
       ·obtain⟨y10,hy10,h⟩:=bi h
        refine t_idxO (enc:=eGcAction) (xs:=o7_0) rfl rfl rfl (by first|rfl|simp only[List.length_set]|exact(clrL_len (slI_len (by assumption))).symm) hy10 (ww ?_)
        refine LdRow.rd (rdI_some hy10).2.1 (ww ?_)
        obtain⟨y11,hy11,h⟩:=bi h
        refine t_idxO (enc:=eGcAction) (xs:=o7_0) rfl rfl rfl (by first|rfl|simp only[List.length_set]|exact(clrL_len (slI_len (by assumption))).symm) hy11 (ww ?_)
        refine LdRow.rd (rdI_some hy11).2.1 (ww ?_)
        cases h
        exact eM [some 0] rfl
       ·refine ww ?_
        cases h
        exact eM [some 0] rfl
      ·rintro _ rfl
       clear ho
       refine ww ?_
       refine condBh h (fun c12 h=>ww ?_) (fun c12 h=>?_)
       ·obtain⟨y13,hy13,h⟩:=bi h
        refine t_idxO (enc:=eGcAction) (xs:=o7_0) rfl rfl rfl (by first|rfl|simp only[List.length_set]|exact(clrL_len (slI_len (by assumption))).symm) hy13 (ww ?_)
        refine LdRow.rd (rdI_some hy13).2.1 (ww ?_)
        obtain⟨y14,hy14,h⟩:=bi h
        refine t_idxO (enc:=eGcAction) (xs:=o7_0) rfl rfl rfl (by first|rfl|simp only[List.length_set]|exact(clrL_len (slI_len (by assumption))).symm) hy14 (ww ?_)
        refine LdRow.rd (rdI_some hy14).2.1 (ww ?_)
        obtain⟨y15,hy15,h⟩:=bi h
        refine t_idxO (enc:=eGcAction) (xs:=o7_0) rfl rfl rfl (by first|rfl|simp only[List.length_set]|exact(clrL_len (slI_len (by assumption))).symm) hy15 (ww ?_)
        refine StRow.rd (y':=y14) (rdI_some hy15).2.1 (by simp[EE.down]) (by first|rfl|(simp only[bor_full'];rfl)) (ww ?_)
        obtain⟨y16,hy16,h⟩:=bi h
        refine t_idxO (enc:=eGcAction) (xs:=((o7_0.set o7_1.toNat y14))) rfl rfl rfl (by first|rfl|simp only[List.length_set]|exact(clrL_len (slI_len (by assumption))).symm) hy16 (ww ?_)
        refine StRow.rd (y':=y13) (rdI_some hy16).2.1 (by simp[EE.down]) (by first|rfl|(simp only[bor_full'];rfl)) (ww ?_)
        exact eL' j [some 0] ⟨(((o7_0.set o7_1.toNat y14)).set ((IntKind.i64.wrap (o7_1-1))).toNat y13),(IntKind.i64.wrap (o7_1-1)),rfl,h⟩ (Nat.lt_succ_self _)
       ·refine ww ?_
        cases h
        exact eM [some 0] rfl
    rintro _ rfl
    clear ho
    refine ww ?_
    cases h
    exact eM [some 0] rfl
   rintro _ rfl
   clear ho
   refine ww ?_
   rw[wrapN (by omega)]
   exact eL' (x0.length-(o1_1+1)) [some 0] ⟨o1_1+1,o3,⟨by omega,rfl⟩,rfl,h⟩ (by omega)
  rw[countN (show¬((o1_1:Int)<(x0.length:Int))from c2),F11_l1]at h
  refine ww ?_
  cases h
  exact eM [some 0] rfl
 rintro _ rfl
 clear ho
 refine ww ?_
 cases h
 exact eF [some 0]
end Go.Proofs.Ytdejhahgpojnoaa
