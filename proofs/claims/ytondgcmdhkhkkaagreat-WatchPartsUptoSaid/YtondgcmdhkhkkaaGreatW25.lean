/- Each Go function as a function over typed data, and its walk. -/
import Derived.Test.YtondgcmdhkhkkaaGreatW0
import Derived.Test.YtondgcmdhkhkkaaGreatW1
import Derived.Test.YtondgcmdhkhkkaaGreatW6
import Derived.Test.YtondgcmdhkhkkaaGreatW10
import Derived.Test.YtondgcmdhkhkkaaGreatW12
import Derived.Test.YtondgcmdhkhkkaaGreatW15
namespace Go.Proofs.YtondgcmdhkhkkaaGreat
open Go Go.Fw Go.Shelf
set_option maxRecDepth 100000
set_option maxHeartbeats 4000000
set_option linter.unusedSimpArgs false
set_option linter.unusedVariables false
def F7_l29(o24_1:Nat)(t19:(List Requirement)×Int×(List Event)×Int)(t20:(List Requirement)×Int×(List Event)×Int):Nat→Int→Option (Int)
 |0,_=>none
 |k+1,o29_0=>(((if o29_0<(t19.2.2.1.length:Int)then(rdI t19.2.2.1 o29_0).bind fun y32=>(rdI t20.2.2.1 ((o24_1:Int))).bind fun y33=>some (decide (y32.Rev<y33.Rev))else some false)).bind fun o30=>(if o30=true then F7_l29 o24_1 t19 t20 k ((IntKind.i64.wrap (o29_0+1)))else some o29_0))
def F7_l24(t19:(List Requirement)×Int×(List Event)×Int)(t20:(List Requirement)×Int×(List Event)×Int):List Event→Nat→Int→Option ((Bool) ⊕ (Unit))
 |[],o24_1,o24_0=>some (Sum.inr (()))
 |xo24::xs,o24_1,o24_0=>(((rdI t20.2.2.1 ((o24_1:Int))).bind fun y27=>(if y27.Type_=4 then some (Sum.inr o24_0)else((F7_l29 o24_1 t19 t20 1099511627776 o24_0).bind fun o29=>(((if o29=(t19.2.2.1.length:Int)then some true else(rdI t19.2.2.1 o29).bind fun y37=>(rdI t20.2.2.1 ((o24_1:Int))).bind fun y38=>(if¬(y37.Rev=y38.Rev)then some true else(rdI t19.2.2.1 o29).bind fun y40=>some (decide (y40.Type_=4))))).bind fun o35=>(if o35=true then((some false).map Sum.inl).map Sum.inl else some (Sum.inr o29))))):Option (((Bool) ⊕ (Unit)) ⊕ (Int))).bind fun o26=>match o26 with|Sum.inl f=>some f|Sum.inr po26=>F7_l24 t19 t20 xs (o24_1+1) po26)
def F7(x0:(List TOp))(x1:Filter)(x2:(List Requirement)):Option (Bool):=(((F8 x0).bind fun t2=>(if(nb t2)=true then some true else(F9 x1).bind fun t4=>(if(nb t4)=true then some true else some (decide (10<(x2.length:Int)))))).bind fun o1=>(if o1=true then(F10).bind fun t7=>some t7 else(apI ([]:List Requirement) x1.Selector).bind fun a8=>(apI a8 x2).bind fun a9=>(((F27 a9).bind fun t11=>(if(nb t11)=true then some true else(F27 x1.Selector).bind fun t13=>(if(nb t13)=true then some true else(F9 ((⟨x1.Kind,x1.Namespace,a9⟩:Filter))).bind fun t15=>some (nb t15)))).bind fun o10=>(if o10=true then(F10).bind fun t17=>some t17 else(F11 x0).bind fun t18=>(F14 ((⟨(t18).Rev,(t18).Floor,(t18).NextUid,(t18).Base,(t18).Objects,(t18).History⟩:TStore)) ((⟨x1,(t18).Floor⟩:Watcher)) 100).bind fun t19=>(F14 ((⟨(t18).Rev,(t18).Floor,(t18).NextUid,(t18).Base,(t18).Objects,(t18).History⟩:TStore)) ((⟨(⟨x1.Kind,x1.Namespace,a9⟩:Filter),(t18).Floor⟩:Watcher)) 100).bind fun t20=>(((if¬(t19.2.2.2=0)then some true else some (decide (¬(t20.2.2.2=0))))).bind fun o21=>(if o21=true then some false else(((ck (0≤t20.2.2.1.length∧t20.2.2.1.length≤4294967290)).bind fun u42=>F7_l24 t19 t20 t20.2.2.1 0 0:Option ((Bool) ⊕ (Unit))).bind fun o24=>match o24 with|Sum.inl f=>some f|Sum.inr po24=>(F10).bind fun t43=>some t43)))))))
def a7:AFn:=⟨140,[(.tmp 6)],
 (.seq (.reg [sq 4 (.box (.t 1)),
sq 6 (.mv (kB false))])
 (.seq (.seq (.sem (.reg [sq 17 (.mv (.t 0)),
sq 18 (.call 8 [(.t 17)]),
sq 19 (.not (.t 18)),
sq 20 (.mv (.t 19)),
zg 21 20 false (.load (some 3) (.t 4)),
zg 22 20 false (.call 9 [(.t 21)]),
zg 23 20 false (.not (.t 22)),
sq 24 (.pick (.t 20) (kB true) (.t 23)),
sq 25 (.mv (.t 24)),
zg 26 25 false (.mv (.t 2)),
zg 27 25 false (.len (.t 26)),
zg 28 25 false (.bin .gtr (.t 27) (kI 10)),
sq 29 (.pick (.t 25) (kB true) (.t 28))]))
 (.cond (.t 29)
 (.seq (.reg [sq 30 (.call 10 []),
sq 6 (.mv (.t 30))])
 .ret)
 .skip))
 (.seq (.reg [sq 31 (.load (some 3) (.t 4)),
sq 7 (.zbox [dS ⟨#[]⟩,dS ⟨#[]⟩,dN]),
su (.store 3 (.t 7) (.t 31))])
 (.seq (.reg [sq 32 (.bslice 3 []),
sq 33 (.fieldA 2 (.t 4)),
sq 34 (.load none (.t 33)),
sq 35 (.app 3 48 (.t 32) (.t 34)),
sq 36 (.mv (.t 2)),
sq 37 (.app 3 48 (.t 35) (.t 36)),
sq 38 (.fieldA 2 (.t 7)),
su (.store 1 (.t 38) (.t 37))])
 (.seq (.seq (.sem (.reg [sq 39 (.fieldA 2 (.t 7)),
sq 40 (.load none (.t 39)),
sq 41 (.call 27 [(.t 40)]),
sq 42 (.not (.t 41)),
sq 43 (.mv (.t 42)),
zg 44 43 false (.fieldA 2 (.t 4)),
zg 45 43 false (.load none (.t 44)),
zg 46 43 false (.call 27 [(.t 45)]),
zg 47 43 false (.not (.t 46)),
sq 48 (.pick (.t 43) (kB true) (.t 47)),
sq 49 (.mv (.t 48)),
zg 50 49 false (.load (some 3) (.t 7)),
zg 51 49 false (.call 9 [(.t 50)]),
zg 52 49 false (.not (.t 51)),
sq 53 (.pick (.t 49) (kB true) (.t 52))]))
 (.cond (.t 53)
 (.seq (.reg [sq 54 (.call 10 []),
sq 6 (.mv (.t 54))])
 .ret)
 .skip))
 (.seq (.reg [sq 55 (.mv (.t 0)),
sq 56 (.call 11 [(.t 55)]),
sq 8 (.zbox [dI 0,dI 0,dI 0,dN,dN,dN]),
su (.store 6 (.t 8) (.t 56))])
 (.seq (.reg [sq 58 (.load (some 6) (.t 8)),
sq 59 (.load (some 3) (.t 4)),
sq 60 (.fieldA 1 (.t 8)),
sq 61 (.load none (.t 60)),
sq 62 (.build [dS ⟨#[]⟩,dS ⟨#[]⟩,dN,dI 0] [(0,3,(.t 59)),(3,1,(.t 61))]),
sq 63 (.call 14 [(.t 58),(.t 62),(kI 100)]),
sq 57 (.mv (.t 63)),
sq 64 (.ext (.t 57) 0),
sq 65 (.ext (.t 57) 1),
sq 66 (.ext (.t 57) 2),
sq 9 (.zbox [dS ⟨#[]⟩,dS ⟨#[]⟩,dN,dI 0]),
su (.store 4 (.t 9) (.t 64)),
sq 10 (.mv (.t 65)),
sq 11 (.mv (.t 66))])
 (.seq (.reg [sq 68 (.load (some 6) (.t 8)),
sq 69 (.load (some 3) (.t 7)),
sq 70 (.fieldA 1 (.t 8)),
sq 71 (.load none (.t 70)),
sq 72 (.build [dS ⟨#[]⟩,dS ⟨#[]⟩,dN,dI 0] [(0,3,(.t 69)),(3,1,(.t 71))]),
sq 73 (.call 14 [(.t 68),(.t 72),(kI 100)]),
sq 67 (.mv (.t 73)),
sq 74 (.ext (.t 67) 0),
sq 75 (.ext (.t 67) 1),
sq 76 (.ext (.t 67) 2),
sq 12 (.zbox [dS ⟨#[]⟩,dS ⟨#[]⟩,dN,dI 0]),
su (.store 4 (.t 12) (.t 74)),
sq 13 (.mv (.t 75)),
sq 14 (.mv (.t 76))])
 (.seq (.seq (.sem (.reg [sq 77 (.mv (.t 11)),
sq 78 (.bin .neq (.t 77) (kI 0)),
sq 79 (.mv (.t 78)),
zg 80 79 false (.mv (.t 14)),
zg 81 79 false (.bin .neq (.t 80) (kI 0)),
zl 82 (.pick (.t 79) (kB true) (.t 81)) [] []]))
 (.cond (.t 82)
 (.seq (.reg [sq 6 (.mv (kB false))])
 .ret)
 .skip))
 (.seq (.reg [sq 15 (.mv (kI 0))])
 (.seq (.seq (.reg [sq 16 (.mv (kI 0))])
 (.sem (.block 0 (.loop (.seq (.seq (.reg [sq 83 (.mv (.t 16)),
sq 84 (.mv (.t 13)),
sq 85 (.len (.t 84)),
sq 86 (.bin .lss (.t 83) (.t 85))])
 (.cond (.t 86)
 .skip
 (.exit 0)))
 (.seq (.sem (.block 1 (.seq (.seq (.reg [sq 89 (.mv (.t 13)),
sq 90 (.mv (.t 16)),
sq 91 (.indexA 25 (.t 89) (.t 90)),
sq 92 (.fieldA 0 (.t 91)),
sq 93 (.load none (.t 92)),
sq 94 (.bin .eql (.t 93) (kI 4))])
 (.cond (.t 94)
 (.exit 1)
 .skip))
 (.seq (.sem (.block 2 (.loop (.seq (.seq (.sem (.regd [sq 95 (.mv (.t 15)),
sq 96 (.mv (.t 10)),
sd 97 (.len (.t 96)) [1],
sd 98 (.bin .lss (.t 95) (.t 97)) [0,1,2],
sd 99 (.mv (.t 98)) [0,1,2,3],
⟨(some 100),(some (99,true)),.mv (.t 10),[0,1,2,3,4],(.new [])⟩,
⟨(some 101),(some (99,true)),.mv (.t 15),[0,1,2,3,4],(.new [])⟩,
⟨(some 102),(some (99,true)),.indexA 25 (.t 100) (.t 101),[0,1,2,3,4,5,6],(.new [])⟩,
⟨(some 103),(some (99,true)),.fieldA 1 (.t 102),[0,1,2,3,4,5,6,7],(.new [])⟩,
⟨(some 104),(some (99,true)),.load none (.t 103),[0,1,2,3,4,5,6,7,8],(.new [])⟩,
⟨(some 105),(some (99,true)),.mv (.t 13),[0,1,2,3,4],(.new [])⟩,
⟨(some 106),(some (99,true)),.mv (.t 16),[0,1,2,3,4],(.new [])⟩,
⟨(some 107),(some (99,true)),.indexA 25 (.t 105) (.t 106),[0,1,2,3,4,10,11],(.new [])⟩,
⟨(some 108),(some (99,true)),.fieldA 1 (.t 107),[0,1,2,3,4,10,11,12],(.new [])⟩,
⟨(some 109),(some (99,true)),.load none (.t 108),[0,1,2,3,4,10,11,12,13],(.new [])⟩,
⟨(some 110),(some (99,true)),.bin .lss (.t 104) (.t 109),[0,1,2,3,4,5,6,7,8,9,10,11,12,13,14],(.new [])⟩,
zl 111 (.pick (.t 99) (.t 110) (kB false)) [0,1,2,3,4,5,6,7,8,9,10,11,12,13,14,15] []]))
 (.cond (.t 111)
 .skip
 (.exit 2)))
 (.block 3 (.reg [sq 112 (.mv (.t 15)),
sq 113 (.bin .add (.t 112) (kI 1)),
sq 15 (.mv (.t 113))]))))))
 (.seq (.sem (.regd [sq 114 (.mv (.t 15)),
sq 115 (.mv (.t 10)),
sd 116 (.len (.t 115)) [1],
sd 117 (.bin .eql (.t 114) (.t 116)) [0,1,2],
sd 118 (.mv (.t 117)) [0,1,2,3],
⟨(some 119),(some (118,false)),.mv (.t 10),[0,1,2,3,4],(.new [])⟩,
⟨(some 120),(some (118,false)),.mv (.t 15),[0,1,2,3,4],(.new [])⟩,
⟨(some 121),(some (118,false)),.indexA 25 (.t 119) (.t 120),[0,1,2,3,4,5,6],(.new [])⟩,
⟨(some 122),(some (118,false)),.fieldA 1 (.t 121),[0,1,2,3,4,5,6,7],(.new [])⟩,
⟨(some 123),(some (118,false)),.load none (.t 122),[0,1,2,3,4,5,6,7,8],(.new [])⟩,
⟨(some 124),(some (118,false)),.mv (.t 13),[0,1,2,3,4],(.new [])⟩,
⟨(some 125),(some (118,false)),.mv (.t 16),[0,1,2,3,4],(.new [])⟩,
⟨(some 126),(some (118,false)),.indexA 25 (.t 124) (.t 125),[0,1,2,3,4,10,11],(.new [])⟩,
⟨(some 127),(some (118,false)),.fieldA 1 (.t 126),[0,1,2,3,4,10,11,12],(.new [])⟩,
⟨(some 128),(some (118,false)),.load none (.t 127),[0,1,2,3,4,10,11,12,13],(.new [])⟩,
⟨(some 129),(some (118,false)),.bin .neq (.t 123) (.t 128),[0,1,2,3,4,5,6,7,8,9,10,11,12,13,14],(.new [])⟩,
zl 130 (.pick (.t 118) (kB true) (.t 129)) [0,1,2,3,4,5,6,7,8,9,10,11,12,13,14,15] [],
sd 131 (.mv (.t 130)) [0,1,2,3,4,5,6,7,8,9,10,11,12,13,14,15,16],
⟨(some 132),(some (131,false)),.mv (.t 10),[0,1,2,3,4,5,6,7,8,9,10,11,12,13,14,15,16,17],(.new [])⟩,
⟨(some 133),(some (131,false)),.mv (.t 15),[0,1,2,3,4,5,6,7,8,9,10,11,12,13,14,15,16,17],(.new [])⟩,
⟨(some 134),(some (131,false)),.indexA 25 (.t 132) (.t 133),[0,1,2,3,4,5,6,7,8,9,10,11,12,13,14,15,16,17,18,19],(.new [])⟩,
⟨(some 135),(some (131,false)),.fieldA 0 (.t 134),[0,1,2,3,4,5,6,7,8,9,10,11,12,13,14,15,16,17,18,19,20],(.new [])⟩,
⟨(some 136),(some (131,false)),.load none (.t 135),[0,1,2,3,4,5,6,7,8,9,10,11,12,13,14,15,16,17,18,19,20,21],(.new [])⟩,
⟨(some 137),(some (131,false)),.bin .eql (.t 136) (kI 4),[0,1,2,3,4,5,6,7,8,9,10,11,12,13,14,15,16,17,18,19,20,21,22],(.new [])⟩,
zl 138 (.pick (.t 131) (kB true) (.t 137)) [0,1,2,3,4,5,6,7,8,9,10,11,12,13,14,15,16,17,18,19,20,21,22,23] []]))
 (.cond (.t 138)
 (.seq (.reg [sq 6 (.mv (kB false))])
 .ret)
 .skip))))))
 (.reg [sq 87 (.mv (.t 16)),
sq 88 (.bin .add (.t 87) (kI 1)),
sq 16 (.mv (.t 88))])))))))
 (.seq (.reg [sq 139 (.call 10 []),
sq 6 (.mv (.t 139))])
 .ret))))))))))))⟩
theorem a7_ok:afn Tryz.prog 7=some a7.er:=by kernel_rfl
theorem F7_ok{x0 x1 x2 r}(h:F7 x0 x1 x2=some r):CallD Tryz.prog 7 [.c (dM (x0.map eTOp)),.agg [dS x1.Kind,dS x1.Namespace,dM (x1.Selector.map eRequirement)],.c (dM (x2.map eRequirement))] [] (tupV [.c (dB r)]) []:=by
 refine callS a7_ok (by simp[a7]) ?_
 rw[F7]at h
 simp only[a7,VW.down,Nat.reduceEqDiff,reduceCtorEq,Nat.reduceAdd,Nat.reduceLeDiff,Nat.reduceLT,Nat.reduceBEq,Nat.reduceSub,EE.down]
 obtain⟨o1,ho,h⟩:=bi h
 refine cutS (fun s=>s=⟨[(0,.one (.c (dM (x0.map eTOp)))),(2,.one (.c (dM (x2.map eRequirement)))),(4,.one (.c (.pt 0 0))),(29,.one (.c (dB o1)))],[some (.box [dS x1.Kind,dS x1.Namespace,dM (x1.Selector.map eRequirement)])]⟩) ?_ ?_
 ·have h:=ho
  clear ho
  refine ww ?_
  obtain⟨t2,ht2,h⟩:=bi h
  refine cN [] (F8_ok ht2) trivial (ww ?_)
  refine guardSBh h (fun g3 h=>?_) (fun g3 h=>?_)
  ·refine ww ?_
   cases h
   exact eM [some 0] rfl
  refine ww ?_
  obtain⟨t4,ht4,h⟩:=bi h
  refine cN [] (F9_ok ht4) trivial (ww ?_)
  refine guardSBh h (fun g5 h=>?_) (fun g5 h=>?_)
  ·refine ww ?_
   cases h
   exact eM [some 0] rfl
  refine ww ?_
  cases h
  exact eM [some 0] rfl
 rintro _ rfl
 clear ho
 refine ww ?_
 refine condBh h (fun c6 h=>?_) (fun c6 h=>?_)
 ·refine ww ?_
  obtain⟨t7,ht7,h⟩:=bi h
  refine cN [] (F10_ok ht7) trivial (ww ?_)
  cases h
  exact eF []
 refine ww ?_
 refine t_bslice (enc:=eRequirement) (ys:=([]:List Requirement)) rfl rfl (by simp[A1.cells]) (by first|rfl|(simp only[List.drop_zero,take_mapL];rfl)|(simp only[lit,List.map_cons,List.map_nil,List.drop_zero,take_mapL,EE.down];done)|(simp only[lit,List.map_cons,List.map_nil,List.drop_zero,take_mapL,EE.down];rfl)) (ww ?_)
 obtain⟨a8,ha8,h⟩:=bi h
 refine t_app (enc:=eRequirement) (xs:=([]:List Requirement)) rfl rfl (by first|rfl|simp only[List.length_set]|exact(clrL_len (slI_len (by assumption))).symm) rfl (rows_frz (enc:=eRequirement) (fun _=>rfl)) ha8 (ww ?_)
 obtain⟨a9,ha9,h⟩:=bi h
 refine t_app (enc:=eRequirement) (xs:=a8) rfl rfl (by first|rfl|simp only[List.length_set]|exact(clrL_len (slI_len (by assumption))).symm) rfl (rows_frz (enc:=eRequirement) (fun _=>rfl)) ha9 (ww ?_)
 obtain⟨o10,ho,h⟩:=bi h
 refine cutS (fun s=>s=⟨[(0,.one (.c (dM (x0.map eTOp)))),(4,.one (.c (.pt 0 0))),(7,.one (.c (.pt 1 0))),(53,.one (.c (dB o10)))],[some (.box [dS x1.Kind,dS x1.Namespace,dM (x1.Selector.map eRequirement)]),some (.box [dS x1.Kind,dS x1.Namespace,.own 2 0 0 (a9.length) none]),some (.arr 0 3 (a9.map eRequirement))]⟩) ?_ ?_
 ·have h:=ho
  clear ho
  refine ww ?_
  obtain⟨t11,ht11,h⟩:=bi h
  refine callX_bor (F27_ok ht11) (by simp only[borAs,bors,hp,List.getElem?_cons_zero,List.getElem?_cons_succ,Option.join_some,List.drop_zero,bor_full',true_and,Nat.zero_add,List.length_map,Nat.le_refl,nrm,List.length_cons,List.length_nil,Nat.reduceAdd,Nat.reduceLeDiff,List.take_succ_cons,List.take_zero,List.take_nil,List.map_cons,List.map_nil,List.length_set,EE.down]) rfl ?_
  refine ww ?_
  refine guardSBh h (fun g12 h=>?_) (fun g12 h=>?_)
  ·refine ww ?_
   cases h
   exact eM [some 0,some 1,some 2] rfl
  refine ww ?_
  obtain⟨t13,ht13,h⟩:=bi h
  refine cN [] (F27_ok ht13) trivial (ww ?_)
  refine guardSBh h (fun g14 h=>?_) (fun g14 h=>?_)
  ·refine ww ?_
   cases h
   exact eM [some 0,some 1,some 2] rfl
  refine ww ?_
  obtain⟨t15,ht15,h⟩:=bi h
  refine callX_bor (F9_ok ht15) (by simp only[borAs,bors,hp,List.getElem?_cons_zero,List.getElem?_cons_succ,Option.join_some,List.drop_zero,bor_full',true_and,Nat.zero_add,List.length_map,Nat.le_refl,nrm,List.length_cons,List.length_nil,Nat.reduceAdd,Nat.reduceLeDiff,List.take_succ_cons,List.take_zero,List.take_nil,List.map_cons,List.map_nil,List.length_set,EE.down]) rfl ?_
  refine ww ?_
  cases h
  exact eM [some 0,some 1,some 2] rfl
 rintro _ rfl
 clear ho
 refine ww ?_
 refine condBh h (fun c16 h=>?_) (fun c16 h=>?_)
 ·refine ww ?_
  obtain⟨t17,ht17,h⟩:=bi h
  refine cN [] (F10_ok ht17) trivial (ww ?_)
  cases h
  exact eF []
 refine ww ?_
 obtain⟨t18,ht18,h⟩:=bi h
 refine cN [] (F11_ok ht18) trivial (ww ?_)
 obtain⟨t19,ht19,h⟩:=bi h
 refine cN [] (F14_ok ht19) trivial (ww ?_)
 obtain⟨t20,ht20,h⟩:=bi h
 refine callX_gen (as1:=[.agg [dI ((t18).Rev),dI ((t18).Floor),dI ((t18).NextUid),dM (((t18).Base).map eObject),dM (((t18).Objects).map eObject),dM (((t18).History).map eChange)],.agg [dS x1.Kind,dS x1.Namespace,dM (a9.map eRequirement),dI ((t18).Floor)],.c (dI 100)]) [(2,.arr 1 3 []),(1,.box [dS x1.Kind,dS x1.Namespace,.own 2 0 0 0 (some 0)])] [some 0,some 1,none,some 3,some 4,some 5,some 6] [] (F14_ok ht20) ⟨?_,rfl,?_⟩ ?_ ?_ ?_ ?_ ?_ ?_ ?_ ?_
 ·simp only[ZZ.down,Nat.reduceEqDiff,reduceCtorEq,Nat.reduceAdd,Nat.reduceLeDiff,Nat.reduceLT,Nat.reduceBNe,EE.down]
 ·simp only[ZZ.down,Nat.reduceEqDiff,reduceCtorEq,Nat.reduceAdd,Nat.reduceLeDiff,Nat.reduceLT,Nat.reduceBNe,EE.down]
 ·simp only[ZZ.down,Nat.reduceEqDiff,reduceCtorEq,Nat.reduceAdd,Nat.reduceLeDiff,Nat.reduceLT,Nat.reduceBNe,EE.down]
 ·rfl
 ·rfl
 ·simp[liveAll,A1.live,C.live]
 ·rfl
 ·decide
 ·exact trivial
 refine ww ?_
 obtain⟨o21,ho,h⟩:=bi h
 refine cutS (fun s=>s=⟨[(10,.one (.c (.own 0 0 0 (t19.2.2.1.length) none))),(13,.one (.c (.own 1 0 0 (t20.2.2.1.length) none))),(82,.one (.c (dB o21)))],[some (.arr 0 25 (t19.2.2.1.map eEvent)),some (.arr 0 25 (t20.2.2.1.map eEvent))]⟩) ?_ ?_
 ·have h:=ho
  clear ho
  refine ww ?_
  refine guardSh h (fun g22 h=>?_) (fun g22 h=>?_)
  ·refine ww ?_
   cases h
   exact eM [some 5,some 8] rfl
  refine ww ?_
  cases h
  exact eM [some 5,some 8] rfl
 rintro _ rfl
 clear ho
 refine ww ?_
 refine condBh h (fun c23 h=>?_) (fun c23 h=>?_)
 ·refine ww ?_
  cases h
  exact eF []
 refine ww ?_
 obtain⟨o24,ho,h⟩:=bi h
 refine cutS (fun s=>∃po24,o24=Sum.inr po24∧s=⟨[],[]⟩) ?_ ?_
 ·have h0o24:=h
  have h:=ho
  clear ho
  obtain⟨_,hk,h⟩:=bi h
  have hk:=ck_some hk
  refine ww ?_
  refine bL (fun j s=>∃(o24_1:Nat) (o24_0:Int),(o24_1≤t20.2.2.1.length∧j=t20.2.2.1.length-o24_1)∧s=⟨[(10,.one (.c (.own 0 0 0 (t19.2.2.1.length) none))),(13,.one (.c (.own 1 0 0 (t20.2.2.1.length) none))),(15,.one (.c (dI o24_0))),(16,.one (.c (dI ((o24_1:Int)))))],[some (.arr 0 25 (t19.2.2.1.map eEvent)),some (.arr 0 25 (t20.2.2.1.map eEvent))]⟩∧F7_l24 t19 t20 (t20.2.2.1.drop o24_1) o24_1 o24_0=some o24) (t20.2.2.1.length-0) [some 0,some 1] ⟨0,0,⟨hk.1,rfl⟩,rfl,h⟩ ?_
  rintro _ _ ⟨o24_1,o24_0,⟨hi,rfl⟩,rfl,h⟩
  refine ww ?_
  refine condS (fun c25=>?_) (fun c25=>?_)
  ·obtain⟨xo24,hxo24,hd⟩:=countY (show(o24_1:Int)<(t20.2.2.1.length:Int)from c25)
   rw[hd,F7_l24]at h
   refine ww ?_
   obtain⟨o26,ho,h⟩:=bi h
   refine cutS (fun s=>∃po26,o26=Sum.inr po26∧s=⟨[(10,.one (.c (.own 0 0 0 (t19.2.2.1.length) none))),(13,.one (.c (.own 1 0 0 (t20.2.2.1.length) none))),(15,.one (.c (dI po26))),(16,.one (.c (dI ((o24_1:Int)))))],[some (.arr 0 25 (t19.2.2.1.map eEvent)),some (.arr 0 25 (t20.2.2.1.map eEvent))]⟩) ?_ ?_
   ·have h0o26:=h
    have h:=ho
    clear ho
    refine ww ?_
    obtain⟨y27,hy27,h⟩:=bi h
    refine t_idxO (enc:=eEvent) (xs:=t20.2.2.1) rfl rfl rfl (by first|rfl|simp only[List.length_set]|exact(clrL_len (slI_len (by assumption))).symm) hy27 (ww ?_)
    refine LdRow.rd (rdI_some hy27).2.1 (ww ?_)
    refine condSh h (fun c28 h=>?_) (fun c28 h=>?_)
    ·refine ww ?_
     cases h
     exact eM [some 0,some 1] ⟨_,rfl,rfl⟩
    refine ww ?_
    obtain⟨o29,ho,h⟩:=bi h
    refine cutS (fun s=>s=⟨[(10,.one (.c (.own 0 0 0 (t19.2.2.1.length) none))),(13,.one (.c (.own 1 0 0 (t20.2.2.1.length) none))),(15,.one (.c (dI o29))),(16,.one (.c (dI ((o24_1:Int)))))],[some (.arr 0 25 (t19.2.2.1.map eEvent)),some (.arr 0 25 (t20.2.2.1.map eEvent))]⟩) ?_ ?_
    ·have h:=ho
     clear ho
     refine ww ?_
     refine bL (fun j s=>∃(o29_0:Int),s=⟨[(10,.one (.c (.own 0 0 0 (t19.2.2.1.length) none))),(13,.one (.c (.own 1 0 0 (t20.2.2.1.length) none))),(15,.one (.c (dI o29_0))),(16,.one (.c (dI ((o24_1:Int)))))],[some (.arr 0 25 (t19.2.2.1.map eEvent)),some (.arr 0 25 (t20.2.2.1.map eEvent))]⟩∧F7_l29 o24_1 t19 t20 j o29_0=some o29) 1099511627776 [some 0,some 1] ⟨o24_0,rfl,h⟩ ?_
     rintro j _ ⟨o29_0,rfl,h⟩
     cases j with
     |zero=>cases(show(none:Option _)=some _ from h)
     |succ j=>
      rw[F7_l29]at h
      refine ww ?_
      obtain⟨o30,ho,h⟩:=bi h
      refine cutS (fun s=>s=⟨[(10,.one (.c (.own 0 0 0 (t19.2.2.1.length) none))),(13,.one (.c (.own 1 0 0 (t20.2.2.1.length) none))),(15,.one (.c (dI o29_0))),(16,.one (.c (dI ((o24_1:Int))))),(111,.one (.c (dB o30)))],[some (.arr 0 25 (t19.2.2.1.map eEvent)),some (.arr 0 25 (t20.2.2.1.map eEvent))]⟩) ?_ ?_
      ·have h:=ho
       clear ho
       refine ww ?_
       refine guardDh h (fun g31 h=>?_) (fun g31 h=>?_)
       ·refine ww ?_
        obtain⟨y32,hy32,h⟩:=bi h
        refine t_idxO (enc:=eEvent) (xs:=t19.2.2.1) rfl rfl rfl (by first|rfl|simp only[List.length_set]|exact(clrL_len (slI_len (by assumption))).symm) hy32 (ww ?_)
        refine LdRow.rd (rdI_some hy32).2.1 (ww ?_)
        obtain⟨y33,hy33,h⟩:=bi h
        refine t_idxO (enc:=eEvent) (xs:=t20.2.2.1) rfl rfl rfl (by first|rfl|simp only[List.length_set]|exact(clrL_len (slI_len (by assumption))).symm) hy33 (ww ?_)
        refine LdRow.rd (rdI_some hy33).2.1 (ww ?_)
        cases h
        exact eM [some 0,some 1] rfl
       ·refine ww ?_
        cases h
        exact eM [some 0,some 1] rfl
      ·rintro _ rfl
       clear ho
       refine ww ?_
       refine condBh h (fun c34 h=>?_) (fun c34 h=>?_)
       ·refine ww ?_
        exact eL' j [some 0,some 1] ⟨(IntKind.i64.wrap (o29_0+1)),rfl,h⟩ (Nat.lt_succ_self _)
       ·refine ww ?_
        cases h
        exact eM [some 0,some 1] rfl
    rintro _ rfl
    clear ho
    refine ww ?_
    obtain⟨o35,ho,h⟩:=bi h
    refine cutS (fun s=>s=⟨[(10,.one (.c (.own 0 0 0 (t19.2.2.1.length) none))),(13,.one (.c (.own 1 0 0 (t20.2.2.1.length) none))),(15,.one (.c (dI o29))),(16,.one (.c (dI ((o24_1:Int))))),(138,.one (.c (dB o35)))],[some (.arr 0 25 (t19.2.2.1.map eEvent)),some (.arr 0 25 (t20.2.2.1.map eEvent))]⟩) ?_ ?_
    ·have h:=ho
     clear ho
     refine ww ?_
     refine guardDh h (fun g36 h=>?_) (fun g36 h=>?_)
     ·refine ww ?_
      cases h
      exact eM [some 0,some 1] rfl
     refine ww ?_
     obtain⟨y37,hy37,h⟩:=bi h
     refine t_idxO (enc:=eEvent) (xs:=t19.2.2.1) rfl rfl rfl (by first|rfl|simp only[List.length_set]|exact(clrL_len (slI_len (by assumption))).symm) hy37 (ww ?_)
     refine LdRow.rd (rdI_some hy37).2.1 (ww ?_)
     obtain⟨y38,hy38,h⟩:=bi h
     refine t_idxO (enc:=eEvent) (xs:=t20.2.2.1) rfl rfl rfl (by first|rfl|simp only[List.length_set]|exact(clrL_len (slI_len (by assumption))).symm) hy38 (ww ?_)
     refine LdRow.rd (rdI_some hy38).2.1 (ww ?_)
     refine guardDh h (fun g39 h=>?_) (fun g39 h=>?_)
     ·refine ww ?_
      cases h
      exact eM [some 0,some 1] rfl
     refine ww ?_
     obtain⟨y40,hy40,h⟩:=bi h
     refine t_idxO (enc:=eEvent) (xs:=t19.2.2.1) rfl rfl rfl (by first|rfl|simp only[List.length_set]|exact(clrL_len (slI_len (by assumption))).symm) hy40 (ww ?_)
     refine LdRow.rd (rdI_some hy40).2.1 (ww ?_)
     cases h
     exact eM [some 0,some 1] rfl
    rintro _ rfl
    clear ho
    refine ww ?_
    refine condBh h (fun c41 h=>?_) (fun c41 h=>?_)
    ·refine ww ?_
     obtain⟨fh0o26,hfh0o26,rfl⟩:=Option.map_eq_some_iff.1 h
     have h:=hfh0o26.trans h0o26
     obtain⟨fh0o24,hfh0o24,rfl⟩:=Option.map_eq_some_iff.1 h
     have h:=hfh0o24.trans h0o24
     cases h
     exact eF []
    refine ww ?_
    cases h
    exact eM [some 0,some 1] ⟨_,rfl,rfl⟩
   rintro _ ⟨po26,rfl,rfl⟩
   clear ho
   dsimp only at h
   refine ww ?_
   rw[wrapN (by omega)]
   exact eL' (t20.2.2.1.length-(o24_1+1)) [some 0,some 1] ⟨o24_1+1,po26,⟨by omega,rfl⟩,rfl,h⟩ (by omega)
  rw[countN (show¬((o24_1:Int)<(t20.2.2.1.length:Int))from c25),F7_l24]at h
  refine ww ?_
  cases h
  exact eM [] ⟨_,rfl,rfl⟩
 rintro _ ⟨po24,rfl,rfl⟩
 clear ho
 dsimp only at h
 refine ww ?_
 obtain⟨t43,ht43,h⟩:=bi h
 refine cN [] (F10_ok ht43) trivial (ww ?_)
 cases h
 exact eF []
end Go.Proofs.YtondgcmdhkhkkaaGreat
