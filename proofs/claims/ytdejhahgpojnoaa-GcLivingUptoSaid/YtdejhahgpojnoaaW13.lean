/- Each Go function as a function over typed data, and its walk. -/
import Derived.Test.YtdejhahgpojnoaaW0
import Derived.Test.YtdejhahgpojnoaaW3
import Derived.Test.YtdejhahgpojnoaaW11
import Derived.Test.YtdejhahgpojnoaaW12
namespace Go.Proofs.Ytdejhahgpojnoaa
open Go Go.Fw Go.Shelf
set_option maxRecDepth 100000
set_option maxHeartbeats 4000000
set_option linter.unusedSimpArgs false
set_option linter.unusedVariables false
def F6_l26(o15_0:Int)(o20_0:Int)(x0:(List Object)):Nat→Int→Option (((((Bool) ⊕ (Unit)) ⊕ (Unit)) ⊕ (Unit)) ⊕ (Unit))
 |0,_=>none
 |k+1,o26_0=>(rdI x0 o15_0).bind fun y27=>(if o26_0<(y27.Meta.Owners.length:Int)then(rdI y27.Meta.Owners o26_0).bind fun y29=>(rdI x0 o20_0).bind fun y30=>(if y29.Uid=y30.Meta.Uid then((((some false).map Sum.inl).map Sum.inl).map Sum.inl).map Sum.inl else F6_l26 o15_0 o20_0 x0 k ((IntKind.i64.wrap (o26_0+1))))else some (Sum.inr (())))
def F6_l20(o15_0:Int)(o8_0:Nat)(t7:(List GcAction))(x0:(List Object)):Nat→Int→Option ((((Bool) ⊕ (Unit)) ⊕ (Unit)) ⊕ (Unit))
 |0,_=>none
 |k+1,o20_0=>(((if o20_0<(x0.length:Int)then(rdI x0 o15_0).bind fun y23=>(rdI t7 ((o8_0:Int))).bind fun y24=>some (decide (y23.Meta.Uid=y24.Uid))else some false)).bind fun o21=>(if o21=true then((F6_l26 o15_0 o20_0 x0 1099511627776 0:Option (((((Bool) ⊕ (Unit)) ⊕ (Unit)) ⊕ (Unit)) ⊕ (Unit))).bind fun o26=>match o26 with|Sum.inl f=>some f|Sum.inr po26=>F6_l20 o15_0 o8_0 t7 x0 k ((IntKind.i64.wrap (o20_0+1))))else some (Sum.inr (()))))
def F6_l15(o8_0:Nat)(t7:(List GcAction))(x0:(List Object)):Nat→Int→Option (((Bool) ⊕ (Unit)) ⊕ (Unit))
 |0,_=>none
 |k+1,o15_0=>(((if o15_0<(x0.length:Int)then(rdI t7 ((o8_0:Int))).bind fun y18=>some (decide (y18.Kind=1))else some false)).bind fun o16=>(if o16=true then((F6_l20 o15_0 o8_0 t7 x0 1099511627776 0:Option ((((Bool) ⊕ (Unit)) ⊕ (Unit)) ⊕ (Unit))).bind fun o20=>match o20 with|Sum.inl f=>some f|Sum.inr po20=>F6_l15 o8_0 t7 x0 k ((IntKind.i64.wrap (o15_0+1))))else some (Sum.inr (()))))
def F6_l8(t7:(List GcAction))(x0:(List Object)):List GcAction→Nat→Option ((Bool) ⊕ (Unit))
 |[],o8_0=>some (Sum.inr (()))
 |xo8::xs,o8_0=>(((if 0<(o8_0:Int)then(rdI t7 ((o8_0:Int))).bind fun y12=>(rdI t7 ((IntKind.i64.wrap (((o8_0:Int))-1)))).bind fun y13=>some ((Op.bytesLess y12.Key.toList y13.Key.toList||decide (y12.Key=y13.Key)))else some false)).bind fun o10=>(if o10=true then(some false).map Sum.inl else((F6_l15 o8_0 t7 x0 1099511627776 0:Option (((Bool) ⊕ (Unit)) ⊕ (Unit))).bind fun o15=>match o15 with|Sum.inl f=>some f|Sum.inr po15=>F6_l8 t7 x0 xs (o8_0+1))))
def F6(x0:(List Object)):Option (Bool):=(((F7 x0).bind fun t2=>(if t2=true then some true else(F16 x0).bind fun t4=>some (nb t4))).bind fun o1=>(if o1=true then(F8).bind fun t6=>some t6 else(F10 x0).bind fun t7=>(((ck (0≤t7.length∧t7.length≤4294967290)).bind fun u32=>F6_l8 t7 x0 t7 0:Option ((Bool) ⊕ (Unit))).bind fun o8=>match o8 with|Sum.inl f=>some f|Sum.inr po8=>(F8).bind fun t33=>some t33)))
def a6:AFn:=⟨103,[(.tmp 2)],
 (.seq (.reg [Qf 2 false])
 (.seq (.seq (.sem (.reg [Qa 8 0,
Qk 9 7 8,
Qa 10 9,
Qv 11 10 false 0,
zg 12 10 false (.call 16 [(.t 11)]),
zg 13 10 false (.not (.t 12)),
Qj 14 10 13]))
 (.cond (.t 14)
 (.seq (.reg [sq 15 (.call 8 []),
Qa 2 15])
 .ret)
 .skip))
 (.seq (.reg [Qa 16 0,
Qk 17 10 16,
Qa 3 17])
 (.seq (.seq (.reg [Qe 4 0])
 (.sem (.block 0 (.loop (.seq (.seq (.reg [Qa 18 4,
Qa 19 3,
Qh 20 19,
Qn 21 18 20])
 (.cond (.t 21)
 .skip
 (.exit 0)))
 (.seq (.block 1 (.seq (.seq (.sem (.regd [Qa 24 4,
sd 25 (.bin .gtr (.t 24) (kI 0)) [0],
sd 26 (.mv (.t 25)) [0,1],
⟨(some 27),(some (26,true)),.mv (.t 3),[0,1,2],(.new [])⟩,
⟨(some 28),(some (26,true)),.mv (.t 4),[0,1,2],(.new [])⟩,
⟨(some 29),(some (26,true)),.indexA 5 (.t 27) (.t 28),[0,1,2,3,4],(.new [])⟩,
⟨(some 30),(some (26,true)),.fieldA 1 (.t 29),[0,1,2,3,4,5],(.new [])⟩,
⟨(some 31),(some (26,true)),.load none (.t 30),[0,1,2,3,4,5,6],(.new [])⟩,
⟨(some 32),(some (26,true)),.mv (.t 3),[0,1,2],(.new [])⟩,
⟨(some 33),(some (26,true)),.mv (.t 4),[0,1,2],(.new [])⟩,
⟨(some 34),(some (26,true)),.bin .sub (.t 33) (kI 1),[0,1,2,9],(.new [])⟩,
⟨(some 35),(some (26,true)),.indexA 5 (.t 32) (.t 34),[0,1,2,8,9,10],(.new [])⟩,
⟨(some 36),(some (26,true)),.fieldA 1 (.t 35),[0,1,2,8,9,10,11],(.new [])⟩,
⟨(some 37),(some (26,true)),.load none (.t 36),[0,1,2,8,9,10,11,12],(.new [])⟩,
⟨(some 38),(some (26,true)),.bin .leq (.t 31) (.t 37),[0,1,2,3,4,5,6,7,8,9,10,11,12,13],(.new [])⟩,
zl 39 (.pick (.t 26) (.t 38) (kB false)) [0,1,2,3,4,5,6,7,8,9,10,11,12,13,14] []]))
 (.cond (.t 39)
 (.seq (.reg [Qf 2 false])
 .ret)
 .skip))
 (.seq (.reg [Qe 5 0])
 (.sem (.block 2 (.loop (.seq (.seq (.sem (.reg [Qa 40 5,
Qa 41 0,
Qh 42 41,
Qn 43 40 42,
Qa 44 43,
Qv 45 44 true 3,
Qv 46 44 true 4,
zg 47 44 true (.indexA 5 (.t 45) (.t 46)),
Qs 48 44 true 0 47,
Qt 49 44 true 48,
zg 50 44 true (.bin .eql (.t 49) (kI 1)),
zl 51 (.pick (.t 44) (.t 50) (kB false)) [] [41,45,47,48]]))
 (.cond (.t 51)
 .skip
 (.exit 2)))
 (.seq (.block 3 (.seq (.reg [Qe 6 0])
 (.sem (.block 4 (.loop (.seq (.seq (.sem (.regd [Qa 54 6,
Qa 55 0,
sd 56 (.len (.t 55)) [1],
sd 57 (.bin .lss (.t 54) (.t 56)) [0,1,2],
sd 58 (.mv (.t 57)) [0,1,2,3],
⟨(some 59),(some (58,true)),.mv (.t 0),[0,1,2,3,4],(.new [])⟩,
⟨(some 60),(some (58,true)),.mv (.t 5),[0,1,2,3,4],(.new [])⟩,
⟨(some 61),(some (58,true)),.indexA 23 (.t 59) (.t 60),[0,1,2,3,4,5,6],(.new [])⟩,
⟨(some 62),(some (58,true)),.fieldA 0 (.t 61),[0,1,2,3,4,5,6,7],(.new [])⟩,
⟨(some 63),(some (58,true)),.fieldA 3 (.t 62),[0,1,2,3,4,5,6,7,8],(.new [])⟩,
⟨(some 64),(some (58,true)),.load none (.t 63),[0,1,2,3,4,5,6,7,8,9],(.new [])⟩,
⟨(some 65),(some (58,true)),.mv (.t 3),[0,1,2,3,4],(.new [])⟩,
⟨(some 66),(some (58,true)),.mv (.t 4),[0,1,2,3,4],(.new [])⟩,
⟨(some 67),(some (58,true)),.indexA 5 (.t 65) (.t 66),[0,1,2,3,4,11,12],(.new [])⟩,
⟨(some 68),(some (58,true)),.fieldA 2 (.t 67),[0,1,2,3,4,11,12,13],(.new [])⟩,
⟨(some 69),(some (58,true)),.load none (.t 68),[0,1,2,3,4,11,12,13,14],(.new [])⟩,
⟨(some 70),(some (58,true)),.bin .eql (.t 64) (.t 69),[0,1,2,3,4,5,6,7,8,9,10,11,12,13,14,15],(.new [])⟩,
zl 71 (.pick (.t 58) (.t 70) (kB false)) [0,1,2,3,4,5,6,7,8,9,10,11,12,13,14,15,16] []]))
 (.cond (.t 71)
 .skip
 (.exit 4)))
 (.seq (.block 5 (.seq (.reg [Qe 7 0])
 (.sem (.block 6 (.loop (.seq (.seq (.reg [Qa 74 7,
Qa 75 0,
Qa 76 5,
Qp 77 23 75 76,
Qb 78 0 77,
Qb 79 10 78,
Qd 80 79,
Qh 81 80,
Qn 82 74 81])
 (.cond (.t 82)
 .skip
 (.exit 6)))
 (.seq (.block 7 (.seq (.regd [Qa 85 0,
Qa 86 5,
sd 87 (.indexA 23 (.t 85) (.t 86)) [0,1],
sd 88 (.fieldA 0 (.t 87)) [0,1,2],
sd 89 (.fieldA 10 (.t 88)) [0,1,2,3],
sd 90 (.load none (.t 89)) [0,1,2,3,4],
Qa 91 7,
sd 92 (.indexA 5 (.t 90) (.t 91)) [0,1,2,3,4,5,6],
sd 93 (.fieldA 2 (.t 92)) [0,1,2,3,4,5,6,7],
sd 94 (.load none (.t 93)) [0,1,2,3,4,5,6,7,8],
Qa 95 0,
Qa 96 6,
sd 97 (.indexA 23 (.t 95) (.t 96)) [10,11],
sd 98 (.fieldA 0 (.t 97)) [10,11,12],
sd 99 (.fieldA 3 (.t 98)) [10,11,12,13],
sd 100 (.load none (.t 99)) [10,11,12,13,14],
sd 101 (.bin .eql (.t 94) (.t 100)) [0,1,2,3,4,5,6,7,8,9,10,11,12,13,14,15]])
 (.cond (.t 101)
 (.seq (.reg [Qf 2 false])
 .ret)
 .skip)))
 (.reg [Qa 83 7,
Qm 84 83 1,
Qa 7 84]))))))))
 (.reg [Qa 72 6,
Qm 73 72 1,
Qa 6 73]))))))))
 (.reg [Qa 52 5,
Qm 53 52 1,
Qa 5 53])))))))))
 (.reg [Qa 22 4,
Qm 23 22 1,
Qa 4 23])))))))
 (.seq (.reg [sq 102 (.call 8 []),
Qa 2 102])
 .ret)))))⟩
theorem F6_ok{x0 r}(h:F6 x0=some r):CallD Try.prog 6 [.c (dM (x0.map eObject))] [] (tupV [.c (dB r)]) []:=by
 rw[F6]at h
 refine zc a6 (by kernel_rfl) rfl (ww ?_)
 obtain⟨o1,ho,h⟩:=bi h
 refine cutS (fun s=>s=⟨[(0,oc (dM (x0.map eObject))),(14,oc (dB o1))],[]⟩) ?_ ?_
 ·have h:=ho
  clear ho
  refine ww ?_
  obtain⟨t2,ht2,h⟩:=bi h
  refine cN [] (F7_ok ht2) trivial (ww ?_)
  refine guardSBh h (fun g3 h=>ww ?_) (fun g3 h=>ww ?_)
  ·cases h
   exact eM [] rfl
  obtain⟨t4,ht4,h⟩:=bi h
  refine cN [] (F16_ok ht4) trivial (ww ?_)
  cases h
  exact eM [] rfl
 rintro _ rfl
 clear ho
 refine ww ?_
 refine condBh h (fun c5 h=>ww ?_) (fun c5 h=>ww ?_)
 ·obtain⟨t6,ht6,h⟩:=bi h
  refine cN [] (F8_ok ht6) trivial (ww ?_)
  cases h
  exact eF []
 obtain⟨t7,ht7,h⟩:=bi h
 refine cN [] (F10_ok ht7) trivial (ww ?_)
 obtain⟨o8,ho,h⟩:=bi h
 refine cutS (fun s=>∃po8,o8=Sum.inr po8∧s=⟨[],[]⟩) ?_ ?_
 ·have h0o8:=h
  have h:=ho
  clear ho
  obtain⟨_,hk,h⟩:=bi h
  have hk:=ck_some hk
  refine ww ?_
  refine bL (fun j s=>∃(o8_0:Nat),(o8_0≤t7.length∧j=t7.length-o8_0)∧s=⟨[(0,oc (dM (x0.map eObject))),(3,oc (.own 0 0 0 (t7.length) none)),(4,oc (dI ((o8_0:Int))))],[some (.arr 0 5 (t7.map eGcAction))]⟩∧F6_l8 t7 x0 (t7.drop o8_0) o8_0=some o8) (t7.length-0) [some 0] ⟨0,⟨hk.1,rfl⟩,rfl,h⟩ ?_
  rintro _ _ ⟨o8_0,⟨hi,rfl⟩,rfl,h⟩
  refine ww ?_
  refine condS (fun c9=>?_) (fun c9=>?_)
  ·obtain⟨xo8,hxo8,hd⟩:=countY (show(o8_0:Int)<(t7.length:Int)from c9)
   rw[hd,F6_l8]at h
   refine ww ?_
   obtain⟨o10,ho,h⟩:=bi h
   refine cutS (fun s=>s=⟨[(0,oc (dM (x0.map eObject))),(3,oc (.own 0 0 0 (t7.length) none)),(4,oc (dI ((o8_0:Int)))),(39,oc (dB o10))],[some (.arr 0 5 (t7.map eGcAction))]⟩) ?_ ?_
   ·have h:=ho
    clear ho
    refine ww ?_
    refine guardDh h (fun g11 h=>ww ?_) (fun g11 h=>ww ?_)
    ·obtain⟨y12,hy12,h⟩:=bi h
     refine t_idxO (enc:=eGcAction) (xs:=t7) rfl rfl rfl (by first|rfl|simp only[List.length_set]|exact(clrL_len (slI_len (by assumption))).symm) hy12 (ww ?_)
     refine LdRow.rd (rdI_some hy12).2.1 (ww ?_)
     obtain⟨y13,hy13,h⟩:=bi h
     refine t_idxO (enc:=eGcAction) (xs:=t7) rfl rfl rfl (by first|rfl|simp only[List.length_set]|exact(clrL_len (slI_len (by assumption))).symm) hy13 (ww ?_)
     refine LdRow.rd (rdI_some hy13).2.1 (ww ?_)
     cases h
     exact eM [some 0] rfl
    cases h
    exact eM [some 0] rfl
   rintro _ rfl
   clear ho
   refine ww ?_
   refine condBh h (fun c14 h=>ww ?_) (fun c14 h=>ww ?_)
   ·obtain⟨fh0o8,hfh0o8,rfl⟩:=Option.map_eq_some_iff.1 h
    have h:=hfh0o8.trans h0o8
    cases h
    exact eF []
   obtain⟨o15,ho,h⟩:=bi h
   refine cutS (fun s=>∃po15,o15=Sum.inr po15∧s=⟨[(0,oc (dM (x0.map eObject))),(3,oc (.own 0 0 0 (t7.length) none)),(4,oc (dI ((o8_0:Int))))],[some (.arr 0 5 (t7.map eGcAction))]⟩) ?_ ?_
   ·have h0o15:=h
    have h:=ho
    clear ho
    refine ww ?_
    refine bL (fun j s=>∃(o15_0:Int),s=⟨[(0,oc (dM (x0.map eObject))),(3,oc (.own 0 0 0 (t7.length) none)),(4,oc (dI ((o8_0:Int)))),(5,oc (dI o15_0))],[some (.arr 0 5 (t7.map eGcAction))]⟩∧F6_l15 o8_0 t7 x0 j o15_0=some o15) 1099511627776 [some 0] ⟨0,rfl,h⟩ ?_
    rintro j _ ⟨o15_0,rfl,h⟩
    cases j with
    |zero=>cases(show(none:Option _)=some _ from h)
    |succ j=>
     rw[F6_l15]at h
     refine ww ?_
     obtain⟨o16,ho,h⟩:=bi h
     refine cutS (fun s=>s=⟨[(0,oc (dM (x0.map eObject))),(3,oc (.own 0 0 0 (t7.length) none)),(4,oc (dI ((o8_0:Int)))),(5,oc (dI o15_0)),(51,oc (dB o16))],[some (.arr 0 5 (t7.map eGcAction))]⟩) ?_ ?_
     ·have h:=ho
      clear ho
      refine ww ?_
      refine guardSh h (fun g17 h=>ww ?_) (fun g17 h=>?_)
      ·obtain⟨y18,hy18,h⟩:=bi h
       refine t_idxO (enc:=eGcAction) (xs:=t7) rfl rfl rfl (by first|rfl|simp only[List.length_set]|exact(clrL_len (slI_len (by assumption))).symm) hy18 (ww ?_)
       refine LdRow.rd (rdI_some hy18).2.1 (ww ?_)
       cases h
       exact eM [some 0] rfl
      ·refine ww ?_
       cases h
       exact eM [some 0] rfl
     ·rintro _ rfl
      clear ho
      refine ww ?_
      refine condBh h (fun c19 h=>ww ?_) (fun c19 h=>?_)
      ·obtain⟨o20,ho,h⟩:=bi h
       refine cutS (fun s=>∃po20,o20=Sum.inr po20∧s=⟨[(0,oc (dM (x0.map eObject))),(3,oc (.own 0 0 0 (t7.length) none)),(4,oc (dI ((o8_0:Int)))),(5,oc (dI o15_0))],[some (.arr 0 5 (t7.map eGcAction))]⟩) ?_ ?_
       ·have h0o20:=h
        have h:=ho
        clear ho
        refine ww ?_
        refine bL (fun j s=>∃(o20_0:Int),s=⟨[(0,oc (dM (x0.map eObject))),(3,oc (.own 0 0 0 (t7.length) none)),(4,oc (dI ((o8_0:Int)))),(5,oc (dI o15_0)),(6,oc (dI o20_0))],[some (.arr 0 5 (t7.map eGcAction))]⟩∧F6_l20 o15_0 o8_0 t7 x0 j o20_0=some o20) 1099511627776 [some 0] ⟨0,rfl,h⟩ ?_
        rintro j _ ⟨o20_0,rfl,h⟩
        cases j with
        |zero=>cases(show(none:Option _)=some _ from h)
        |succ j=>
         rw[F6_l20]at h
         refine ww ?_
         obtain⟨o21,ho,h⟩:=bi h
         refine cutS (fun s=>s=⟨[(0,oc (dM (x0.map eObject))),(3,oc (.own 0 0 0 (t7.length) none)),(4,oc (dI ((o8_0:Int)))),(5,oc (dI o15_0)),(6,oc (dI o20_0)),(71,oc (dB o21))],[some (.arr 0 5 (t7.map eGcAction))]⟩) ?_ ?_
         ·have h:=ho
          clear ho
          refine ww ?_
          refine guardDh h (fun g22 h=>ww ?_) (fun g22 h=>?_)
          ·obtain⟨y23,hy23,h⟩:=bi h
           refine t_idxF (enc:=eObject) (xs:=x0) rfl rfl hy23 rfl (ww ?_)
           obtain⟨y24,hy24,h⟩:=bi h
           refine t_idxO (enc:=eGcAction) (xs:=t7) rfl rfl rfl (by first|rfl|simp only[List.length_set]|exact(clrL_len (slI_len (by assumption))).symm) hy24 (ww ?_)
           refine LdRow.rd (rdI_some hy24).2.1 (ww ?_)
           cases h
           exact eM [some 0] rfl
          ·refine ww ?_
           cases h
           exact eM [some 0] rfl
         ·rintro _ rfl
          clear ho
          refine ww ?_
          refine condBh h (fun c25 h=>ww ?_) (fun c25 h=>?_)
          ·obtain⟨o26,ho,h⟩:=bi h
           refine cutS (fun s=>∃po26,o26=Sum.inr po26∧s=⟨[(0,oc (dM (x0.map eObject))),(3,oc (.own 0 0 0 (t7.length) none)),(4,oc (dI ((o8_0:Int)))),(5,oc (dI o15_0)),(6,oc (dI o20_0))],[some (.arr 0 5 (t7.map eGcAction))]⟩) ?_ ?_
           ·have h0o26:=h
            have h:=ho
            clear ho
            refine ww ?_
            refine bL (fun j s=>∃(o26_0:Int),s=⟨[(0,oc (dM (x0.map eObject))),(3,oc (.own 0 0 0 (t7.length) none)),(4,oc (dI ((o8_0:Int)))),(5,oc (dI o15_0)),(6,oc (dI o20_0)),(7,oc (dI o26_0))],[some (.arr 0 5 (t7.map eGcAction))]⟩∧F6_l26 o15_0 o20_0 x0 j o26_0=some o26) 1099511627776 [some 0] ⟨0,rfl,h⟩ ?_
            rintro j _ ⟨o26_0,rfl,h⟩
            cases j with
            |zero=>cases(show(none:Option _)=some _ from h)
            |succ j=>
             rw[F6_l26]at h
             refine ww ?_
             obtain⟨y27,hy27,h⟩:=bi h
             refine t_idxF (enc:=eObject) (xs:=x0) rfl rfl hy27 rfl (ww ?_)
             refine condSh h (fun c28 h=>ww ?_) (fun c28 h=>?_)
             ·refine t_idxF (enc:=eObject) (xs:=x0) rfl rfl hy27 rfl (ww ?_)
              obtain⟨y29,hy29,h⟩:=bi h
              refine t_idxF (enc:=eOwner) (xs:=y27.Meta.Owners) rfl rfl hy29 rfl (ww ?_)
              obtain⟨y30,hy30,h⟩:=bi h
              refine t_idxF (enc:=eObject) (xs:=x0) rfl rfl hy30 rfl (ww ?_)
              refine condSh h (fun c31 h=>ww ?_) (fun c31 h=>?_)
              ·obtain⟨fh0o26,hfh0o26,rfl⟩:=Option.map_eq_some_iff.1 h
               have h:=hfh0o26.trans h0o26
               obtain⟨fh0o20,hfh0o20,rfl⟩:=Option.map_eq_some_iff.1 h
               have h:=hfh0o20.trans h0o20
               obtain⟨fh0o15,hfh0o15,rfl⟩:=Option.map_eq_some_iff.1 h
               have h:=hfh0o15.trans h0o15
               obtain⟨fh0o8,hfh0o8,rfl⟩:=Option.map_eq_some_iff.1 h
               have h:=hfh0o8.trans h0o8
               cases h
               exact eF []
              ·refine ww ?_
               exact eL' j [some 0] ⟨(IntKind.i64.wrap (o26_0+1)),rfl,h⟩ (Nat.lt_succ_self _)
             ·refine ww ?_
              cases h
              exact eM [some 0] ⟨_,rfl,rfl⟩
           ·rintro _ ⟨po26,rfl,rfl⟩
            clear ho
            dsimp only at h
            refine ww ?_
            exact eL' j [some 0] ⟨(IntKind.i64.wrap (o20_0+1)),rfl,h⟩ (Nat.lt_succ_self _)
          ·refine ww ?_
           cases h
           exact eM [some 0] ⟨_,rfl,rfl⟩
       ·rintro _ ⟨po20,rfl,rfl⟩
        clear ho
        dsimp only at h
        refine ww ?_
        exact eL' j [some 0] ⟨(IntKind.i64.wrap (o15_0+1)),rfl,h⟩ (Nat.lt_succ_self _)
      ·refine ww ?_
       cases h
       exact eM [some 0] ⟨_,rfl,rfl⟩
   rintro _ ⟨po15,rfl,rfl⟩
   clear ho
   dsimp only at h
   refine ww ?_
   rw[wrapN (by omega)]
   exact eL' (t7.length-(o8_0+1)) [some 0] ⟨o8_0+1,⟨by omega,rfl⟩,rfl,h⟩ (by omega)
  rw[countN (show¬((o8_0:Int)<(t7.length:Int))from c9),F6_l8]at h
  refine ww ?_
  cases h
  exact eM [] ⟨_,rfl,rfl⟩
 rintro _ ⟨po8,rfl,rfl⟩
 clear ho
 dsimp only at h
 refine ww ?_
 obtain⟨t33,ht33,h⟩:=bi h
 refine cN [] (F8_ok ht33) trivial (ww ?_)
 cases h
 exact eF []
end Go.Proofs.Ytdejhahgpojnoaa
