/- Each Go function as a function over typed data, and its walk. -/
import Derived.Test.YtadhmlfnfgpjjaaPX
import Derived.Test.YtadhmlfnfgpjjaaPX2
import Derived.Test.YtadhmlfnfgpjjaaPX3
import Derived.Test.YtadhmlfnfgpjjaaPX4
import Derived.Test.YtadhmlfnfgpjjaaPX5
namespace Go.Proofs.Ytadhmlfnfgpjjaa
open Go Go.Fw Go.Shelf
set_option maxRecDepth 100000
set_option maxHeartbeats 4000000
set_option linter.unusedSimpArgs false
set_option linter.unusedVariables false
def F62(x0:(List ByteArray)):Option (Bool):=(F76 x0).bind fun t1=>some (decide (0≤t1))
def a62:AFn:=⟨9,[(.tmp 4)],
 (.seq (.reg [sq 4 (.mv (kB false))])
 (.seq (.reg [sq 5 (.mv (.t 0)),
sq 6 (.mv (.t 1)),
sq 7 (.call 76 [(.t 5),(.t 6)]),
sq 8 (.bin .geq (.t 7) (kI 0)),
sq 4 (.mv (.t 8))])
 .ret))⟩
theorem a62_ok:afn Try.prog 62=some a62.er:=by kernel_rfl
theorem F62_ok{x0 r}(h:F62 x0=some r):CallD Try.prog 62 [.c (dM (x0.map eS)),.c (.fn 63 [])] [] (tupV [.c (dB r)]) []:=by
 refine callS a62_ok (by simp[a62]) ?_
 rw[F62]at h
 simp only[a62,VW.down,Nat.reduceEqDiff,reduceCtorEq,Nat.reduceAdd,Nat.reduceLeDiff,Nat.reduceLT,Nat.reduceBEq,Nat.reduceSub,EE.down]
 obtain⟨t1,ht1,h⟩:=bi h
 refine cN [] (F76_ok ht1) trivial (ww ?_)
 cases h
 exact eF []
def F43(x0:Requirement):Option (Int):=(((F29 x0.Key).bind fun t2=>(if(nb t2)=true then some (nb t2)else(F62 x0.Values).bind fun t4=>some t4)).bind fun o1=>(if o1=true then some 1 else(if 64<(x0.Values.length:Int)then some 4 else some 0)))
def a43:AFn:=⟨16,[(.tmp 2)],
 (.seq (.reg [sq 1 (.box (.t 0)),
sq 2 (.mv (kI 0))])
 (.seq (.block 0 (.seq (.sem (.seq (.reg [sq 4 (.fieldA 0 (.t 1)),
sq 5 (.load none (.t 4)),
sq 6 (.call 29 [(.t 5)]),
sq 7 (.not (.t 6)),
sq 3 (.mv (.t 7))])
 (.cond (.t 3)
 .skip
 (.reg [sq 8 (.fieldA 2 (.t 1)),
sq 9 (.load none (.t 8)),
sq 10 (.call 62 [(.t 9),(.f 63)]),
sq 3 (.mv (.t 10))]))))
 (.cond (.t 3)
 (.seq (.reg [sq 2 (.mv (kI 1))])
 .ret)
 (.seq (.reg [sq 12 (.fieldA 2 (.t 1)),
sq 13 (.load none (.t 12)),
sq 14 (.len (.t 13)),
sq 15 (.bin .gtr (.t 14) (kI 64)),
sq 11 (.mv (.t 15))])
 (.cond (.t 11)
 (.seq (.reg [sq 2 (.mv (kI 4))])
 .ret)
 .skip)))))
 (.seq (.reg [sq 2 (.mv (kI 0))])
 .ret)))⟩
theorem a43_ok:afn Try.prog 43=some a43.er:=by kernel_rfl
theorem F43_ok{x0 r}(h:F43 x0=some r):CallD Try.prog 43 [.agg [dS x0.Key,dI x0.Op,dM (x0.Values.map eS)]] [] (tupV [.c (dI r)]) []:=by
 refine callS a43_ok (by simp[a43]) ?_
 rw[F43]at h
 simp only[a43,VW.down,Nat.reduceEqDiff,reduceCtorEq,Nat.reduceAdd,Nat.reduceLeDiff,Nat.reduceLT,Nat.reduceBEq,Nat.reduceSub,EE.down]
 obtain⟨o1,ho,h⟩:=bi h
 refine cutS (fun s=>s=⟨[(1,.one (.c (.pt 0 0))),(3,.one (.c (dB o1)))],[some (.box [dS x0.Key,dI x0.Op,dM (x0.Values.map eS)])]⟩) ?_ ?_
 ·have h:=ho
  clear ho
  refine ww ?_
  obtain⟨t2,ht2,h⟩:=bi h
  refine cN [] (F29_ok ht2) trivial (ww ?_)
  refine condBh h (fun c3 h=>?_) (fun c3 h=>?_)
  ·refine ww ?_
   cases h
   exact eM [some 0] rfl
  refine ww ?_
  obtain⟨t4,ht4,h⟩:=bi h
  refine cN [] (F62_ok ht4) trivial (ww ?_)
  cases h
  exact eM [some 0] rfl
 rintro _ rfl
 clear ho
 refine ww ?_
 refine condBh h (fun c5 h=>?_) (fun c5 h=>?_)
 ·refine ww ?_
  cases h
  exact eF []
 refine ww ?_
 refine condSh h (fun c6 h=>?_) (fun c6 h=>?_)
 ·refine ww ?_
  cases h
  exact eF []
 refine ww ?_
 cases h
 exact eF []
def F24_l4:Nat→(List Requirement)→(List ByteArray)→Bool→Bool→Option ((List Requirement)×Parser)
 |0,_,_,_,_=>none
 |k+1,o4_0,o4_1,o4_2,o4_3=>(((if o4_3=true then some (nb o4_2)else some false)).bind fun o5=>(if o5=true then(F42 ((⟨o4_1,o4_2⟩:Parser))).bind fun t8=>(apI o4_0 ([(⟨t8.2.1,t8.2.2.1,t8.2.2.2⟩:Requirement)])).bind fun a9=>(F41 ((⟨#[44]⟩:ByteArray)) ((⟨(t8.1).tokens,(t8.1).failed⟩:Parser))).bind fun t10=>F24_l4 k a9 t10.1 (((t8.1).failed)) t10.2 else some ((o4_0,(⟨o4_1,o4_2⟩:Parser)))))
def F24_l14(o4:(List Requirement)×Parser):List Requirement→Nat→Option (((List Requirement)×Int) ⊕ (Unit))
 |[],o14_0=>some (Sum.inr (()))
 |xo14::xs,o14_0=>(rdI o4.1 ((o14_0:Int))).bind fun y16=>(F43 y16).bind fun t17=>(if¬(t17=0)then(some (([],t17))).map Sum.inl else F24_l14 o4 xs (o14_0+1))
def F24(x0:ByteArray):Option ((List Requirement)×Int):=(if 20000<(x0.size:Int)then some (([],4))else(F40 x0).bind fun t2=>(if(nb t2.2)=true then some (([],2))else((F24_l4 1099511627776 ([]) t2.1 false (decide (0<(t2.1.length:Int)))).bind fun o4=>(((if((o4.2).failed)=true then some true else some (decide (0<(((o4.2).tokens).length:Int))))).bind fun o11=>(if o11=true then some (([],2))else(((ck (0≤o4.1.length∧o4.1.length≤4294967290)).bind fun u19=>F24_l14 o4 o4.1 0:Option (((List Requirement)×Int) ⊕ (Unit))).bind fun o14=>match o14 with|Sum.inl f=>some f|Sum.inr po14=>(if 16<(o4.1.length:Int)then some (([],4))else some ((o4.1,0)))))))))
def a24:AFn:=⟨71,[(.tmp 2),(.tmp 3)],
 (.seq (.reg [sq 2 (.mv kN),
sq 3 (.mv (kI 0))])
 (.seq (.seq (.reg [sq 12 (.mv (.t 0)),
sq 13 (.slen (.t 12)),
sq 14 (.bin .gtr (.t 13) (kI 20000))])
 (.cond (.t 14)
 (.seq (.reg [sq 2 (.mv kN),
sq 3 (.mv (kI 4))])
 .ret)
 .skip))
 (.seq (.reg [sq 16 (.mv (.t 0)),
sq 17 (.call 40 [(.t 16)]),
sq 15 (.mv (.t 17)),
sq 18 (.ext (.t 15) 0),
sq 19 (.ext (.t 15) 1),
sq 4 (.mv (.t 18)),
sq 5 (.mv (.t 19))])
 (.seq (.seq (.reg [sq 20 (.mv (.t 5)),
sq 21 (.not (.t 20))])
 (.cond (.t 21)
 (.seq (.reg [sq 2 (.mv kN),
sq 3 (.mv (kI 2))])
 .ret)
 .skip))
 (.seq (.reg [sq 6 (.mv kN)])
 (.seq (.reg [sq 22 (.mv (.t 4)),
sq 23 (.build [dN,dB false] [(0,1,(.t 22))]),
sq 24 (.box (.t 23)),
sq 7 (.mv (.t 24))])
 (.seq (.seq (.reg [sq 25 (.mv (.t 4)),
sq 26 (.len (.t 25)),
sq 27 (.bin .gtr (.t 26) (kI 0)),
sq 8 (.mv (.t 27))])
 (.sem (.block 0 (.loop (.seq (.seq (.sem (.reg [sq 28 (.mv (.t 8)),
sq 29 (.mv (.t 28)),
zg 30 29 true (.mv (.t 7)),
zg 31 29 true (.fieldA 0 (.t 30)),
zg 32 29 true (.fieldA 1 (.t 31)),
zg 33 29 true (.load none (.t 32)),
zg 34 29 true (.not (.t 33)),
zl 35 (.pick (.t 29) (.t 34) (kB false)) [] [30,31,32]]))
 (.cond (.t 35)
 .skip
 (.exit 0)))
 (.seq (.block 1 (.reg [sq 38 (.mv (.t 6)),
sq 39 (.mv (.t 7)),
sq 40 (.call 42 [(.t 39)]),
sq 41 (.bslice 3 [(.t 40)]),
sq 42 (.app 3 48 (.t 38) (.t 41)),
sq 6 (.mv (.t 42))]))
 (.reg [sq 36 (.mv (.t 7)),
sq 37 (.call 41 [(.t 36),(kS ⟨#[44]⟩)]),
sq 8 (.mv (.t 37))])))))))
 (.seq (.seq (.sem (.reg [sq 43 (.mv (.t 7)),
sq 44 (.fieldA 0 (.t 43)),
sq 45 (.fieldA 1 (.t 44)),
sq 46 (.load none (.t 45)),
sq 47 (.mv (.t 46)),
zg 48 47 false (.mv (.t 7)),
zg 49 47 false (.fieldA 0 (.t 48)),
zg 50 47 false (.fieldA 0 (.t 49)),
zg 51 47 false (.load none (.t 50)),
zg 52 47 false (.len (.t 51)),
zg 53 47 false (.bin .gtr (.t 52) (kI 0)),
zl 54 (.pick (.t 47) (kB true) (.t 53)) [] [43,44,45,48,49,50,51]]))
 (.cond (.t 54)
 (.seq (.reg [sq 2 (.mv kN),
sq 3 (.mv (kI 2))])
 .ret)
 .skip))
 (.seq (.seq (.reg [sq 55 (.mv (.t 6)),
sq 56 (.len (.t 55)),
sq 57 (.mv (kI 0))])
 (.sem (.block 2 (.loop (.seq (.reg [sq 58 (.bin .lss (.t 57) (.t 56))])
 (.seq (.cond (.t 58)
 .skip
 (.exit 2))
 (.seq (.block 3 (.seq (.reg [sq 59 (.indexA 3 (.t 55) (.t 57)),
sq 60 (.load (some 3) (.t 59)),
sq 10 (.zbox [dS ⟨#[]⟩,dI 0,dN]),
su (.store 3 (.t 10) (.t 60))])
 (.seq (.reg [sq 61 (.load (some 3) (.t 10)),
sq 62 (.call 43 [(.t 61)]),
sq 11 (.mv (.t 62))])
 (.seq (.reg [sq 63 (.mv (.t 11)),
sq 64 (.bin .neq (.t 63) (kI 0))])
 (.cond (.t 64)
 (.seq (.reg [sq 65 (.mv (.t 11)),
sq 2 (.mv kN),
sq 3 (.mv (.t 65))])
 .ret)
 .skip)))))
 (.reg [sq 66 (.bin .add (.t 57) (kI 1)),
sq 57 (.mv (.t 66))]))))))))
 (.seq (.seq (.reg [sq 67 (.mv (.t 6)),
sq 68 (.len (.t 67)),
sq 69 (.bin .gtr (.t 68) (kI 16))])
 (.cond (.t 69)
 (.seq (.reg [sq 2 (.mv kN),
sq 3 (.mv (kI 4))])
 .ret)
 .skip))
 (.seq (.reg [sq 70 (.mv (.t 6)),
sq 2 (.mv (.t 70)),
sq 3 (.mv (kI 0))])
 .ret)))))))))))⟩
theorem a24_ok:afn Try.prog 24=some a24.er:=by kernel_rfl
theorem F24_ok{x0 r}(h:F24 x0=some r):CallD Try.prog 24 [.c (dS x0)] [] (tupV [.c (.own 0 0 0 (r.1.length) none),.c (dI r.2)]) [some (.arr 0 3 (r.1.map eRequirement))]:=by
 refine callS a24_ok (by simp[a24]) ?_
 rw[F24]at h
 simp only[a24,VW.down,Nat.reduceEqDiff,reduceCtorEq,Nat.reduceAdd,Nat.reduceLeDiff,Nat.reduceLT,Nat.reduceBEq,Nat.reduceSub,EE.down]
 refine condSh h (fun c1 h=>?_) (fun c1 h=>?_)
 ·refine ww ?_
  cases h
  exact eF [none]
 refine ww ?_
 obtain⟨t2,ht2,h⟩:=bi h
 refine cN [] (F40_ok ht2) trivial (ww ?_)
 refine condBh h (fun c3 h=>?_) (fun c3 h=>?_)
 ·refine ww ?_
  cases h
  exact eF [none]
 refine ww ?_
 obtain⟨o4,ho,h⟩:=bi h
 refine cutS (fun s=>s=⟨[(6,.one (.c (.own 0 0 0 (o4.1.length) none))),(7,.one (.c (.pt 1 0)))],[some (.arr 0 3 (o4.1.map eRequirement)),some (.box [dM (((o4.2).tokens).map eS),dB ((o4.2).failed)])]⟩) ?_ ?_
 ·have h:=ho
  clear ho
  refine ww ?_
  refine bL (fun j s=>∃(o4_0:List Requirement) (o4_1:List ByteArray) (o4_2:Bool) (o4_3:Bool),s=⟨[(6,.one (.c (.own 0 0 0 (o4_0.length) none))),(7,.one (.c (.pt 1 0))),(8,.one (.c (dB o4_3)))],[some (.arr 0 3 (o4_0.map eRequirement)),some (.box [dM (o4_1.map eS),dB o4_2])]⟩∧F24_l4 j o4_0 o4_1 o4_2 o4_3=some o4) 1099511627776 [none,some 1] ⟨[],t2.1,false,decide (0<(t2.1.length:Int)),rfl,h⟩ ?_
  rintro j _ ⟨o4_0,o4_1,o4_2,o4_3,rfl,h⟩
  cases j with
  |zero=>cases(show(none:Option _)=some _ from h)
  |succ j=>
   rw[F24_l4]at h
   refine ww ?_
   obtain⟨o5,ho,h⟩:=bi h
   refine cutS (fun s=>s=⟨[(6,.one (.c (.own 0 0 0 (o4_0.length) none))),(7,.one (.c (.pt 1 0))),(35,.one (.c (dB o5)))],[some (.arr 0 3 (o4_0.map eRequirement)),some (.box [dM (o4_1.map eS),dB o4_2])]⟩) ?_ ?_
   ·have h:=ho
    clear ho
    refine ww ?_
    refine guardSBh h (fun g6 h=>?_) (fun g6 h=>?_)
    ·refine ww ?_
     cases h
     exact eM [some 0,some 1] rfl
    ·refine ww ?_
     cases h
     exact eM [some 0,some 1] rfl
   ·rintro _ rfl
    clear ho
    refine ww ?_
    refine condBh h (fun c7 h=>?_) (fun c7 h=>?_)
    ·refine ww ?_
     obtain⟨t8,ht8,h⟩:=bi h
     refine cN [1] (F42_ok ht8) ⟨⟨rfl,by simp[Blk.live,C.live,hp]⟩,trivial⟩ ?_
     refine ww ?_
     refine t_bslice (enc:=eRequirement) (ys:=[(⟨t8.2.1,t8.2.2.1,t8.2.2.2⟩:Requirement)]) rfl rfl (by simp[A1.cells]) (by first|rfl|(simp only[List.drop_zero,take_mapL];rfl)|(simp only[lit,List.map_cons,List.map_nil,List.drop_zero,take_mapL,EE.down];done)|(simp only[lit,List.map_cons,List.map_nil,List.drop_zero,take_mapL,EE.down];rfl)) (ww ?_)
     obtain⟨a9,ha9,h⟩:=bi h
     refine t_app (enc:=eRequirement) (xs:=o4_0) rfl rfl (by first|rfl|simp only[List.length_set]|exact(clrL_len (slI_len (by assumption))).symm) rfl (rows_full (enc:=eRequirement) (by first|rfl|simp only[List.length_set]|exact(clrL_len (slI_len (by assumption))).symm) rfl) ha9 (ww ?_)
     obtain⟨t10,ht10,h⟩:=bi h
     refine cN [1] (F41_ok ht10) ⟨⟨rfl,by simp[Blk.live,C.live,hp]⟩,trivial⟩ ?_
     refine ww ?_
     exact eL' j [some 0,some 1] ⟨a9,t10.1,((t8.1).failed),t10.2,rfl,h⟩ (Nat.lt_succ_self _)
    ·refine ww ?_
     cases h
     exact eM [some 0,some 1] rfl
 rintro _ rfl
 clear ho
 refine ww ?_
 obtain⟨o11,ho,h⟩:=bi h
 refine cutS (fun s=>s=⟨[(6,.one (.c (.own 0 0 0 (o4.1.length) none))),(54,.one (.c (dB o11)))],[some (.arr 0 3 (o4.1.map eRequirement))]⟩) ?_ ?_
 ·have h:=ho
  clear ho
  refine ww ?_
  refine guardSBh h (fun g12 h=>?_) (fun g12 h=>?_)
  ·refine ww ?_
   cases h
   exact eM [some 0] rfl
  refine ww ?_
  cases h
  exact eM [some 0] rfl
 rintro _ rfl
 clear ho
 refine ww ?_
 refine condBh h (fun c13 h=>?_) (fun c13 h=>?_)
 ·refine ww ?_
  cases h
  exact eF [none]
 refine ww ?_
 obtain⟨o14,ho,h⟩:=bi h
 refine cutS (fun s=>∃po14,o14=Sum.inr po14∧s=⟨[(6,.one (.c (.own 0 0 0 (o4.1.length) none)))],[some (.arr 0 3 (o4.1.map eRequirement))]⟩) ?_ ?_
 ·have h0o14:=h
  have h:=ho
  clear ho
  obtain⟨_,hk,h⟩:=bi h
  have hk:=ck_some hk
  refine ww ?_
  refine bL (fun j s=>∃(o14_0:Nat),(o14_0≤o4.1.length∧j=o4.1.length-o14_0)∧s=⟨[(6,.one (.c (.own 0 0 0 (o4.1.length) none))),(55,.one (.c (.own 0 0 0 (o4.1.length) none))),(56,.one (.c (dI ((o4.1.length:Int))))),(57,.one (.c (dI ((o14_0:Int)))))],[some (.arr 0 3 (o4.1.map eRequirement))]⟩∧F24_l14 o4 (o4.1.drop o14_0) o14_0=some o14) (o4.1.length-0) [some 0] ⟨0,⟨hk.1,rfl⟩,rfl,h⟩ ?_
  rintro _ _ ⟨o14_0,⟨hi,rfl⟩,rfl,h⟩
  refine ww ?_
  refine condS (fun c15=>?_) (fun c15=>?_)
  ·obtain⟨xo14,hxo14,hd⟩:=countY (show(o14_0:Int)<(o4.1.length:Int)from c15)
   rw[hd,F24_l14]at h
   refine ww ?_
   obtain⟨y16,hy16,h⟩:=bi h
   refine t_idxO (enc:=eRequirement) (xs:=o4.1) rfl rfl rfl (by first|rfl|simp only[List.length_set]|exact(clrL_len (slI_len (by assumption))).symm) hy16 (ww ?_)
   refine LdRow.rd (rdI_some hy16).2.1 (ww ?_)
   obtain⟨t17,ht17,h⟩:=bi h
   refine cN [] (F43_ok ht17) trivial (ww ?_)
   refine condSh h (fun c18 h=>?_) (fun c18 h=>?_)
   ·refine ww ?_
    obtain⟨fh0o14,hfh0o14,rfl⟩:=Option.map_eq_some_iff.1 h
    have h:=hfh0o14.trans h0o14
    cases h
    exact eF [none]
   refine ww ?_
   rw[wrapN (by omega)]
   exact eL' (o4.1.length-(o14_0+1)) [some 0] ⟨o14_0+1,⟨by omega,rfl⟩,rfl,h⟩ (by omega)
  rw[countN (show¬((o14_0:Int)<(o4.1.length:Int))from c15),F24_l14]at h
  refine ww ?_
  cases h
  exact eM [some 0] ⟨_,rfl,rfl⟩
 rintro _ ⟨po14,rfl,rfl⟩
 clear ho
 dsimp only at h
 refine ww ?_
 refine condSh h (fun c20 h=>?_) (fun c20 h=>?_)
 ·refine ww ?_
  cases h
  exact eF [none]
 refine ww ?_
 cases h
 exact eF [some 0]
def F53_l1:List Requirement→Nat→Option ((Int) ⊕ (Unit))
 |[],o1_0=>some (Sum.inr (()))
 |xo1::xs,o1_0=>(F34 xo1).bind fun t3=>(if t3=true then(some ((o1_0:Int))).map Sum.inl else F53_l1 xs (o1_0+1))
def F53(x0:(List Requirement)):Option (Int):=(((ck (0≤x0.length∧x0.length≤4294967290)).bind fun u5=>F53_l1 x0 0:Option ((Int) ⊕ (Unit))).bind fun o1=>match o1 with|Sum.inl f=>some f|Sum.inr po1=>some ((-1)))
def a53:AFn:=⟨19,[(.tmp 4)],
 (.seq (.reg [sq 4 (.mv (kI 0))])
 (.seq (.seq (.reg [sq 6 (.mv (.t 0)),
sq 7 (.len (.t 6)),
sq 8 (.mv (kI 0))])
 (.sem (.block 0 (.loop (.seq (.reg [sq 9 (.bin .lss (.t 8) (.t 7))])
 (.seq (.cond (.t 9)
 .skip
 (.exit 0))
 (.seq (.block 1 (.seq (.reg [sq 10 (.mv (.t 8)),
sq 5 (.mv (.t 10))])
 (.seq (.reg [sq 11 (.mv (.t 1)),
sq 12 (.mv (.t 0)),
sq 13 (.mv (.t 5)),
sq 14 (.indexA 3 (.t 12) (.t 13)),
sq 15 (.load (some 3) (.t 14)),
zl 16 (.callv (.t 11) [(.t 15)]) [] [12,14]])
 (.cond (.t 16)
 (.seq (.reg [sq 17 (.mv (.t 5)),
sq 4 (.mv (.t 17))])
 .ret)
 .skip))))
 (.reg [sq 18 (.bin .add (.t 8) (kI 1)),
sq 8 (.mv (.t 18))]))))))))
 (.seq (.reg [sq 4 (.mv (kI (-1)))])
 .ret)))⟩
theorem a53_ok:afn Try.prog 53=some a53.er:=by kernel_rfl
theorem F53_ok{x0 r}(h:F53 x0=some r):CallD Try.prog 53 [.c (dM (x0.map eRequirement)),.c (.fn 34 [])] [] (tupV [.c (dI r)]) []:=by
 refine callS a53_ok (by simp[a53]) ?_
 rw[F53]at h
 simp only[a53,VW.down,Nat.reduceEqDiff,reduceCtorEq,Nat.reduceAdd,Nat.reduceLeDiff,Nat.reduceLT,Nat.reduceBEq,Nat.reduceSub,EE.down]
 obtain⟨o1,ho,h⟩:=bi h
 refine cutS (fun s=>∃po1,o1=Sum.inr po1∧s=⟨[],[]⟩) ?_ ?_
 ·have h0o1:=h
  have h:=ho
  clear ho
  obtain⟨_,hk,h⟩:=bi h
  have hk:=ck_some hk
  refine ww ?_
  refine bL (fun j s=>∃(o1_0:Nat),(o1_0≤x0.length∧j=x0.length-o1_0)∧s=⟨[(0,.one (.c (dM (x0.map eRequirement)))),(1,.one (.c (.fn 34 []))),(7,.one (.c (dI ((x0.length:Int))))),(8,.one (.c (dI ((o1_0:Int)))))],[]⟩∧F53_l1 (x0.drop o1_0) o1_0=some o1) (x0.length-0) [] ⟨0,⟨hk.1,rfl⟩,rfl,h⟩ ?_
  rintro _ _ ⟨o1_0,⟨hi,rfl⟩,rfl,h⟩
  refine ww ?_
  refine condS (fun c2=>?_) (fun c2=>?_)
  ·obtain⟨xo1,hxo1,hd⟩:=countY (show(o1_0:Int)<(x0.length:Int)from c2)
   rw[hd,F53_l1]at h
   refine ww ?_
   refine t_idxF (enc:=eRequirement) (xs:=x0) rfl rfl hxo1 rfl (ww ?_)
   obtain⟨t3,ht3,h⟩:=bi h
   refine cN [] (F34_ok ht3) trivial (ww ?_)
   refine condBh h (fun c4 h=>?_) (fun c4 h=>?_)
   ·refine ww ?_
    obtain⟨fh0o1,hfh0o1,rfl⟩:=Option.map_eq_some_iff.1 h
    have h:=hfh0o1.trans h0o1
    cases h
    exact eF []
   refine ww ?_
   rw[wrapN (by omega)]
   exact eL' (x0.length-(o1_0+1)) [] ⟨o1_0+1,⟨by omega,rfl⟩,rfl,h⟩ (by omega)
  rw[countN (show¬((o1_0:Int)<(x0.length:Int))from c2),F53_l1]at h
  refine ww ?_
  cases h
  exact eM [] ⟨_,rfl,rfl⟩
 rintro _ ⟨po1,rfl,rfl⟩
 clear ho
 dsimp only at h
 refine ww ?_
 cases h
 exact eF []
def F33(x0:(List Requirement)):Option (Bool):=(F53 x0).bind fun t1=>some (decide (0≤t1))
def a33:AFn:=⟨9,[(.tmp 4)],
 (.seq (.reg [sq 4 (.mv (kB false))])
 (.seq (.reg [sq 5 (.mv (.t 0)),
sq 6 (.mv (.t 1)),
sq 7 (.call 53 [(.t 5),(.t 6)]),
sq 8 (.bin .geq (.t 7) (kI 0)),
sq 4 (.mv (.t 8))])
 .ret))⟩
theorem a33_ok:afn Try.prog 33=some a33.er:=by kernel_rfl
theorem F33_ok{x0 r}(h:F33 x0=some r):CallD Try.prog 33 [.c (dM (x0.map eRequirement)),.c (.fn 34 [])] [] (tupV [.c (dB r)]) []:=by
 refine callS a33_ok (by simp[a33]) ?_
 rw[F33]at h
 simp only[a33,VW.down,Nat.reduceEqDiff,reduceCtorEq,Nat.reduceAdd,Nat.reduceLeDiff,Nat.reduceLT,Nat.reduceBEq,Nat.reduceSub,EE.down]
 obtain⟨t1,ht1,h⟩:=bi h
 refine cN [] (F53_ok ht1) trivial (ww ?_)
 cases h
 exact eF []
def F15(x0:(List Requirement)):Option (Bool):=(((if(x0.length:Int)≤16 then(F33 x0).bind fun t3=>some (nb t3)else some false)).bind fun o1=>some o1)
def a15:AFn:=⟨11,[(.tmp 2)],
 (.seq (.reg [sq 2 (.mv (kB false))])
 (.seq (.sem (.reg [sq 3 (.mv (.t 0)),
sq 4 (.len (.t 3)),
sq 5 (.bin .leq (.t 4) (kI 16)),
sq 6 (.mv (.t 5)),
zg 7 6 true (.mv (.t 0)),
zg 8 6 true (.call 33 [(.t 7),(.f 34)]),
zg 9 6 true (.not (.t 8)),
sq 10 (.pick (.t 6) (.t 9) (kB false)),
sq 2 (.mv (.t 10))]))
 .ret))⟩
theorem a15_ok:afn Try.prog 15=some a15.er:=by kernel_rfl
theorem F15_ok{x0 r}(h:F15 x0=some r):CallD Try.prog 15 [.c (dM (x0.map eRequirement))] [] (tupV [.c (dB r)]) []:=by
 refine callS a15_ok (by simp[a15]) ?_
 rw[F15]at h
 simp only[a15,VW.down,Nat.reduceEqDiff,reduceCtorEq,Nat.reduceAdd,Nat.reduceLeDiff,Nat.reduceLT,Nat.reduceBEq,Nat.reduceSub,EE.down]
 obtain⟨o1,ho,h⟩:=bi h
 refine cutS (fun s=>s=⟨[(2,.one (.c (dB o1)))],[]⟩) ?_ ?_
 ·have h:=ho
  clear ho
  refine ww ?_
  refine guardSh h (fun g2 h=>?_) (fun g2 h=>?_)
  ·refine ww ?_
   obtain⟨t3,ht3,h⟩:=bi h
   refine cN [] (F33_ok ht3) trivial (ww ?_)
   cases h
   exact eM [] rfl
  refine ww ?_
  cases h
  exact eM [] rfl
 rintro _ rfl
 clear ho
 refine ww ?_
 cases h
 exact eF []
def F27_l3:List Requirement→Nat→(List ByteArray)→Option ((List ByteArray))
 |[],o3_1,o3_0=>some o3_0
 |xo3::xs,o3_1,o3_0=>(F48 xo3).bind fun t5=>(apI o3_0 ([t5])).bind fun a6=>F27_l3 xs (o3_1+1) a6
def F27(x0:(List Requirement)):Option (ByteArray×Int):=(F15 x0).bind fun t1=>(if(nb t1)=true then some (((⟨#[]⟩:ByteArray),1))else(((ck (0≤x0.length∧x0.length≤4294967290)).bind fun u7=>F27_l3 x0 0 ([])).bind fun o3=>(joinI o3 ((⟨#[44,32]⟩:ByteArray))).bind fun t8=>(if 20000<(t8.size:Int)then some (((⟨#[]⟩:ByteArray),4))else some ((t8,0)))))
def a27:AFn:=⟨29,[(.tmp 2),(.tmp 3)],
 (.seq (.reg [sq 2 (.mv (kS ⟨#[]⟩)),
sq 3 (.mv (kI 0))])
 (.seq (.seq (.reg [sq 8 (.mv (.t 0)),
sq 9 (.call 15 [(.t 8)]),
sq 10 (.not (.t 9))])
 (.cond (.t 10)
 (.seq (.reg [sq 2 (.mv (kS ⟨#[]⟩)),
sq 3 (.mv (kI 1))])
 .ret)
 .skip))
 (.seq (.reg [sq 4 (.mv kN)])
 (.seq (.seq (.reg [sq 11 (.mv (.t 0)),
sq 12 (.len (.t 11)),
sq 13 (.mv (kI 0))])
 (.sem (.block 0 (.loop (.seq (.reg [sq 14 (.bin .lss (.t 13) (.t 12))])
 (.seq (.cond (.t 14)
 .skip
 (.exit 0))
 (.seq (.block 1 (.seq (.reg [sq 15 (.indexA 3 (.t 11) (.t 13)),
sq 16 (.load (some 3) (.t 15)),
sq 6 (.zbox [dS ⟨#[]⟩,dI 0,dN]),
su (.store 3 (.t 6) (.t 16))])
 (.reg [sq 17 (.mv (.t 4)),
sq 18 (.load (some 3) (.t 6)),
sq 19 (.call 48 [(.t 18)]),
sq 20 (.bslice 1 [(.t 19)]),
sq 21 (.app 1 16 (.t 17) (.t 20)),
sq 4 (.mv (.t 21))])))
 (.reg [sq 22 (.bin .add (.t 13) (kI 1)),
sq 13 (.mv (.t 22))]))))))))
 (.seq (.reg [sq 23 (.mv (.t 4)),
sq 24 (.call 49 [(.t 23),(kS ⟨#[44,32]⟩)]),
sq 7 (.mv (.t 24))])
 (.seq (.seq (.reg [sq 25 (.mv (.t 7)),
sq 26 (.slen (.t 25)),
sq 27 (.bin .gtr (.t 26) (kI 20000))])
 (.cond (.t 27)
 (.seq (.reg [sq 2 (.mv (kS ⟨#[]⟩)),
sq 3 (.mv (kI 4))])
 .ret)
 .skip))
 (.seq (.reg [sq 28 (.mv (.t 7)),
sq 2 (.mv (.t 28)),
sq 3 (.mv (kI 0))])
 .ret)))))))⟩
theorem a27_ok:afn Try.prog 27=some a27.er:=by kernel_rfl
theorem F27_ok{x0 r}(h:F27 x0=some r):CallD Try.prog 27 [.c (dM (x0.map eRequirement))] [] (tupV [.c (dS r.1),.c (dI r.2)]) []:=by
 refine callS a27_ok (by simp[a27]) ?_
 rw[F27]at h
 simp only[a27,VW.down,Nat.reduceEqDiff,reduceCtorEq,Nat.reduceAdd,Nat.reduceLeDiff,Nat.reduceLT,Nat.reduceBEq,Nat.reduceSub,EE.down]
 obtain⟨t1,ht1,h⟩:=bi h
 refine cN [] (F15_ok ht1) trivial (ww ?_)
 refine condBh h (fun c2 h=>?_) (fun c2 h=>?_)
 ·refine ww ?_
  cases h
  exact eF []
 refine ww ?_
 obtain⟨o3,ho,h⟩:=bi h
 refine cutS (fun s=>s=⟨[(4,.one (.c (.own 0 0 0 (o3.length) none)))],[some (.arr 0 1 (o3.map eS))]⟩) ?_ ?_
 ·have h:=ho
  clear ho
  obtain⟨_,hk,h⟩:=bi h
  have hk:=ck_some hk
  refine ww ?_
  refine bL (fun j s=>∃(o3_1:Nat) (o3_0:List ByteArray),(o3_1≤x0.length∧j=x0.length-o3_1)∧s=⟨[(4,.one (.c (.own 0 0 0 (o3_0.length) none))),(11,.one (.c (dM (x0.map eRequirement)))),(12,.one (.c (dI ((x0.length:Int))))),(13,.one (.c (dI ((o3_1:Int)))))],[some (.arr 0 1 (o3_0.map eS))]⟩∧F27_l3 (x0.drop o3_1) o3_1 o3_0=some o3) (x0.length-0) [none] ⟨0,[],⟨hk.1,rfl⟩,rfl,h⟩ ?_
  rintro _ _ ⟨o3_1,o3_0,⟨hi,rfl⟩,rfl,h⟩
  refine ww ?_
  refine condS (fun c4=>?_) (fun c4=>?_)
  ·obtain⟨xo3,hxo3,hd⟩:=countY (show(o3_1:Int)<(x0.length:Int)from c4)
   rw[hd,F27_l3]at h
   refine ww ?_
   refine t_idxF (enc:=eRequirement) (xs:=x0) rfl rfl hxo3 rfl (ww ?_)
   obtain⟨t5,ht5,h⟩:=bi h
   refine cN [] (F48_ok ht5) trivial (ww ?_)
   refine t_bslice (enc:=eS) (ys:=[t5]) rfl rfl (by simp[A1.cells]) (by first|rfl|(simp only[List.drop_zero,take_mapL];rfl)|(simp only[lit,List.map_cons,List.map_nil,List.drop_zero,take_mapL,EE.down];done)|(simp only[lit,List.map_cons,List.map_nil,List.drop_zero,take_mapL,EE.down];rfl)) (ww ?_)
   obtain⟨a6,ha6,h⟩:=bi h
   refine t_app (enc:=eS) (xs:=o3_0) rfl rfl (by first|rfl|simp only[List.length_set]|exact(clrL_len (slI_len (by assumption))).symm) rfl (rows_full (enc:=eS) (by first|rfl|simp only[List.length_set]|exact(clrL_len (slI_len (by assumption))).symm) rfl) ha6 (ww ?_)
   rw[wrapN (by omega)]
   exact eL' (x0.length-(o3_1+1)) [some 0] ⟨o3_1+1,a6,⟨by omega,rfl⟩,rfl,h⟩ (by omega)
  rw[countN (show¬((o3_1:Int)<(x0.length:Int))from c4),F27_l3]at h
  refine ww ?_
  cases h
  exact eM [some 0] rfl
 rintro _ rfl
 clear ho
 refine ww ?_
 obtain⟨t8,ht8,h⟩:=bi h
 refine callX_bor (F49d_ok ht8) (by simp only[borAs,bors,hp,List.getElem?_cons_zero,List.getElem?_cons_succ,Option.join_some,List.drop_zero,bor_full',true_and,Nat.zero_add,List.length_map,Nat.le_refl,nrm,List.length_cons,List.length_nil,Nat.reduceAdd,Nat.reduceLeDiff,List.take_succ_cons,List.take_zero,List.take_nil,List.map_cons,List.map_nil,List.length_set,EE.down]) rfl ?_
 refine ww ?_
 refine condSh h (fun c9 h=>?_) (fun c9 h=>?_)
 ·refine ww ?_
  cases h
  exact eF []
 refine ww ?_
 cases h
 exact eF []
def F12:Option (Bool):=(F24 ((⟨#[101,110,118,32,105,110,32,40,98,44,97,41,44,32,33,120]⟩:ByteArray))).bind fun t1=>(F27 t1.1).bind fun t2=>(F20 ([(⟨(⟨#[97]⟩:ByteArray),(⟨#[49]⟩:ByteArray)⟩:Label),(⟨(⟨#[99]⟩:ByteArray),(⟨#[51]⟩:ByteArray)⟩:Label)]) ((⟨#[98]⟩:ByteArray)) ((⟨#[50]⟩:ByteArray))).bind fun t3=>(F17 t3 ((⟨#[98]⟩:ByteArray))).bind fun t4=>(F24 ((⟨#[97,44]⟩:ByteArray))).bind fun t5=>(((if t1.2=0 then(if t2.2=0 then(if t2.1=(⟨#[101,110,118,32,105,110,32,40,97,44,98,41,44,32,33,120]⟩:ByteArray)then(if t4.2=true then(if t4.1=(⟨#[50]⟩:ByteArray)then(if(t3.length:Int)=3 then(F13 t3).bind fun t13=>(if t13=true then(if t5.2=2 then(F22 t1.1 ([(⟨(⟨#[101,110,118]⟩:ByteArray),(⟨#[97]⟩:ByteArray)⟩:Label)])).bind fun t16=>some t16 else some false)else some false)else some false)else some false)else some false)else some false)else some false)else some false)).bind fun o6=>some o6)
def a12:AFn:=⟨68,[(.tmp 0)],
 (.seq (.reg [sq 0 (.mv (kB false))])
 (.seq (.reg [sq 11 (.call 24 [(kS ⟨#[101,110,118,32,105,110,32,40,98,44,97,41,44,32,33,120]⟩)]),
sq 10 (.mv (.t 11)),
sq 12 (.ext (.t 10) 0),
sq 13 (.ext (.t 10) 1),
sq 1 (.mv (.t 12)),
sq 2 (.mv (.t 13))])
 (.seq (.reg [sq 15 (.mv (.t 1)),
sq 16 (.call 27 [(.t 15)]),
sq 14 (.mv (.t 16)),
sq 17 (.ext (.t 14) 0),
sq 18 (.ext (.t 14) 1),
sq 3 (.mv (.t 17)),
sq 4 (.mv (.t 18))])
 (.seq (.reg [sq 19 (.build [dS ⟨#[]⟩,dS ⟨#[]⟩] [(0,1,(kS ⟨#[97]⟩)),(1,1,(kS ⟨#[49]⟩))]),
sq 20 (.build [dS ⟨#[]⟩,dS ⟨#[]⟩] [(0,1,(kS ⟨#[99]⟩)),(1,1,(kS ⟨#[51]⟩))]),
sq 21 (.bslice 2 [(.t 19),(.t 20)]),
sq 22 (.call 20 [(.t 21),(kS ⟨#[98]⟩),(kS ⟨#[50]⟩)]),
sq 5 (.mv (.t 22))])
 (.seq (.reg [sq 24 (.mv (.t 5)),
sq 25 (.call 17 [(.t 24),(kS ⟨#[98]⟩)]),
sq 23 (.mv (.t 25)),
sq 26 (.ext (.t 23) 0),
sq 27 (.ext (.t 23) 1),
sq 6 (.mv (.t 26)),
sq 7 (.mv (.t 27))])
 (.seq (.reg [sq 29 (.call 24 [(kS ⟨#[97,44]⟩)]),
sq 28 (.mv (.t 29)),
sq 30 (.ext (.t 28) 0),
sq 31 (.ext (.t 28) 1),
sq 8 (.mv (.t 30)),
sq 9 (.mv (.t 31))])
 (.seq (.sem (.reg [sq 32 (.mv (.t 2)),
sq 33 (.bin .eql (.t 32) (kI 0)),
sq 34 (.mv (.t 33)),
zg 35 34 true (.mv (.t 4)),
zg 36 34 true (.bin .eql (.t 35) (kI 0)),
sq 37 (.pick (.t 34) (.t 36) (kB false)),
sq 38 (.mv (.t 37)),
zg 39 38 true (.mv (.t 3)),
zg 40 38 true (.bin .eql (.t 39) (kS ⟨#[101,110,118,32,105,110,32,40,97,44,98,41,44,32,33,120]⟩)),
sq 41 (.pick (.t 38) (.t 40) (kB false)),
sq 42 (.mv (.t 41)),
zg 43 42 true (.mv (.t 7)),
sq 44 (.pick (.t 42) (.t 43) (kB false)),
sq 45 (.mv (.t 44)),
zg 46 45 true (.mv (.t 6)),
zg 47 45 true (.bin .eql (.t 46) (kS ⟨#[50]⟩)),
sq 48 (.pick (.t 45) (.t 47) (kB false)),
sq 49 (.mv (.t 48)),
zg 50 49 true (.mv (.t 5)),
zg 51 49 true (.len (.t 50)),
zg 52 49 true (.bin .eql (.t 51) (kI 3)),
sq 53 (.pick (.t 49) (.t 52) (kB false)),
sq 54 (.mv (.t 53)),
zg 55 54 true (.mv (.t 5)),
zg 56 54 true (.call 13 [(.t 55)]),
sq 57 (.pick (.t 54) (.t 56) (kB false)),
sq 58 (.mv (.t 57)),
zg 59 58 true (.mv (.t 9)),
zg 60 58 true (.bin .eql (.t 59) (kI 2)),
sq 61 (.pick (.t 58) (.t 60) (kB false)),
sq 62 (.mv (.t 61)),
zg 63 62 true (.mv (.t 1)),
zg 64 62 true (.build [dS ⟨#[]⟩,dS ⟨#[]⟩] [(0,1,(kS ⟨#[101,110,118]⟩)),(1,1,(kS ⟨#[97]⟩))]),
zg 65 62 true (.bslice 2 [(.t 64)]),
zg 66 62 true (.call 22 [(.t 63),(.t 65)]),
sq 67 (.pick (.t 62) (.t 66) (kB false)),
sq 0 (.mv (.t 67))]))
 .ret)))))))⟩
theorem a12_ok:afn Try.prog 12=some a12.er:=by kernel_rfl
theorem F12_ok{r}(h:F12=some r):CallD Try.prog 12 [] [] (tupV [.c (dB r)]) []:=by
 refine callS a12_ok (by simp[a12]) ?_
 rw[F12]at h
 simp only[a12,VW.down,Nat.reduceEqDiff,reduceCtorEq,Nat.reduceAdd,Nat.reduceLeDiff,Nat.reduceLT,Nat.reduceBEq,Nat.reduceSub,EE.down]
 obtain⟨t1,ht1,h⟩:=bi h
 refine cN [] (F24_ok ht1) trivial (ww ?_)
 obtain⟨t2,ht2,h⟩:=bi h
 refine callX_bor (F27_ok ht2) (by simp only[borAs,bors,hp,List.getElem?_cons_zero,List.getElem?_cons_succ,Option.join_some,List.drop_zero,bor_full',true_and,Nat.zero_add,List.length_map,Nat.le_refl,nrm,List.length_cons,List.length_nil,Nat.reduceAdd,Nat.reduceLeDiff,List.take_succ_cons,List.take_zero,List.take_nil,List.map_cons,List.map_nil,List.length_set,EE.down]) rfl ?_
 refine ww ?_
 refine t_bslice (enc:=eLabel) (ys:=[(⟨(⟨#[97]⟩:ByteArray),(⟨#[49]⟩:ByteArray)⟩:Label),(⟨(⟨#[99]⟩:ByteArray),(⟨#[51]⟩:ByteArray)⟩:Label)]) rfl rfl (by simp[A1.cells]) (by first|rfl|(simp only[List.drop_zero,take_mapL];rfl)|(simp only[lit,List.map_cons,List.map_nil,List.drop_zero,take_mapL,EE.down];done)|(simp only[lit,List.map_cons,List.map_nil,List.drop_zero,take_mapL,EE.down];rfl)) (ww ?_)
 obtain⟨t3,ht3,h⟩:=bi h
 refine callX_borF (F20_ok ht3) (by simp only[borAs,bors,hp,List.getElem?_cons_zero,List.getElem?_cons_succ,Option.join_some,List.drop_zero,bor_full',true_and,Nat.zero_add,List.length_map,Nat.le_refl,nrm,List.length_cons,List.length_nil,Nat.reduceAdd,Nat.reduceLeDiff,List.take_succ_cons,List.take_zero,List.take_nil,List.map_cons,List.map_nil,List.length_set,EE.down]) rfl ⟨flat_rows (enc:=eLabel) (fun _=>rfl) _,trivial⟩ ?_
 refine ww ?_
 obtain⟨t4,ht4,h⟩:=bi h
 refine callX_bor (F17_ok ht4) (by simp only[borAs,bors,hp,List.getElem?_cons_zero,List.getElem?_cons_succ,Option.join_some,List.drop_zero,bor_full',true_and,Nat.zero_add,List.length_map,Nat.le_refl,nrm,List.length_cons,List.length_nil,Nat.reduceAdd,Nat.reduceLeDiff,List.take_succ_cons,List.take_zero,List.take_nil,List.map_cons,List.map_nil,List.length_set,EE.down]) rfl ?_
 refine ww ?_
 obtain⟨t5,ht5,h⟩:=bi h
 refine cN [] (F24_ok ht5) trivial (ww ?_)
 obtain⟨o6,ho,h⟩:=bi h
 refine cutS (fun s=>s=⟨[(0,.one (.c (dB o6)))],[]⟩) ?_ ?_
 ·have h:=ho
  clear ho
  refine ww ?_
  refine guardSh h (fun g7 h=>?_) (fun g7 h=>?_)
  ·refine ww ?_
   refine guardSh h (fun g8 h=>?_) (fun g8 h=>?_)
   ·refine ww ?_
    refine guardSh h (fun g9 h=>?_) (fun g9 h=>?_)
    ·refine ww ?_
     refine guardSBh h (fun g10 h=>?_) (fun g10 h=>?_)
     ·refine ww ?_
      refine guardSh h (fun g11 h=>?_) (fun g11 h=>?_)
      ·refine ww ?_
       refine guardSh h (fun g12 h=>?_) (fun g12 h=>?_)
       ·refine ww ?_
        obtain⟨t13,ht13,h⟩:=bi h
        refine callX_bor (F13_ok ht13) (by simp only[borAs,bors,hp,List.getElem?_cons_zero,List.getElem?_cons_succ,Option.join_some,List.drop_zero,bor_full',true_and,Nat.zero_add,List.length_map,Nat.le_refl,nrm,List.length_cons,List.length_nil,Nat.reduceAdd,Nat.reduceLeDiff,List.take_succ_cons,List.take_zero,List.take_nil,List.map_cons,List.map_nil,List.length_set,EE.down]) rfl ?_
        refine ww ?_
        refine guardSBh h (fun g14 h=>?_) (fun g14 h=>?_)
        ·refine ww ?_
         refine guardSh h (fun g15 h=>?_) (fun g15 h=>?_)
         ·refine ww ?_
          refine t_bslice (enc:=eLabel) (ys:=[(⟨(⟨#[101,110,118]⟩:ByteArray),(⟨#[97]⟩:ByteArray)⟩:Label)]) rfl rfl (by simp[A1.cells]) (by first|rfl|(simp only[List.drop_zero,take_mapL];rfl)|(simp only[lit,List.map_cons,List.map_nil,List.drop_zero,take_mapL,EE.down];done)|(simp only[lit,List.map_cons,List.map_nil,List.drop_zero,take_mapL,EE.down];rfl)) (ww ?_)
          obtain⟨t16,ht16,h⟩:=bi h
          refine callX_bor (F22_ok ht16) (by simp only[borAs,bors,hp,List.getElem?_cons_zero,List.getElem?_cons_succ,Option.join_some,List.drop_zero,bor_full',true_and,Nat.zero_add,List.length_map,Nat.le_refl,nrm,List.length_cons,List.length_nil,Nat.reduceAdd,Nat.reduceLeDiff,List.take_succ_cons,List.take_zero,List.take_nil,List.map_cons,List.map_nil,List.length_set,EE.down]) rfl ?_
          refine ww ?_
          cases h
          exact eM [] rfl
         refine ww ?_
         cases h
         exact eM [] rfl
        refine ww ?_
        cases h
        exact eM [] rfl
       refine ww ?_
       cases h
       exact eM [] rfl
      refine ww ?_
      cases h
      exact eM [] rfl
     refine ww ?_
     cases h
     exact eM [] rfl
    refine ww ?_
    cases h
    exact eM [] rfl
   refine ww ?_
   cases h
   exact eM [] rfl
  refine ww ?_
  cases h
  exact eM [] rfl
 rintro _ rfl
 clear ho
 refine ww ?_
 cases h
 exact eF []
def F25_l4(t2:(List ByteArray)×Bool):Nat→(List Requirement)→Int→Option (((List Requirement)×Int) ⊕ ((List Requirement)))
 |0,_,_=>none
 |k+1,o4_0,o4_1=>(if o4_1<(t2.1.length:Int)then(F45 t2.1 o4_1).bind fun t6=>((some (())).bind fun o7=>(if t6.2.2.2.2=true then(some (([],2))).map Sum.inl else(apI o4_0 ([(⟨t6.1,t6.2.1,t6.2.2.1⟩:Requirement)])).bind fun a9=>(((if t6.2.2.2.1<(t2.1.length:Int)then(rdI t2.1 t6.2.2.2.1).bind fun y12=>(if¬(y12=(⟨#[44]⟩:ByteArray))then some true else some (decide ((IntKind.i64.wrap (t6.2.2.2.1+1))=(t2.1.length:Int))))else some (decide ((IntKind.i64.wrap (t6.2.2.2.1+1))=(t2.1.length:Int))))).bind fun o10=>(if o10=true then(some (([],2))).map Sum.inl else F25_l4 t2 k a9 ((IntKind.i64.wrap (t6.2.2.2.1+1)))))))else some (Sum.inr o4_0))
def F25_l15(po4:(List Requirement)):List Requirement→Nat→Option (((List Requirement)×Int) ⊕ (Unit))
 |[],o15_0=>some (Sum.inr (()))
 |xo15::xs,o15_0=>(rdI po4 ((o15_0:Int))).bind fun y17=>(F46 y17).bind fun t18=>(if¬(t18=0)then(some (([],t18))).map Sum.inl else F25_l15 po4 xs (o15_0+1))
def F25(x0:ByteArray):Option ((List Requirement)×Int):=(if 20000<(x0.size:Int)then some (([],4))else(F44 x0).bind fun t2=>(if(nb t2.2)=true then some (([],2))else((F25_l4 t2 1099511627776 ([]) 0:Option (((List Requirement)×Int) ⊕ ((List Requirement)))).bind fun o4=>match o4 with|Sum.inl f=>some f|Sum.inr po4=>(((ck (0≤po4.length∧po4.length≤4294967290)).bind fun u20=>F25_l15 po4 po4 0:Option (((List Requirement)×Int) ⊕ (Unit))).bind fun o15=>match o15 with|Sum.inl f=>some f|Sum.inr po15=>(if 16<(po4.length:Int)then some (([],4))else some ((po4,0)))))))
def a25:AFn:=⟨75,[(.tmp 2),(.tmp 3)],
 (.seq (.reg [sq 2 (.mv kN),
sq 3 (.mv (kI 0))])
 (.seq (.seq (.reg [sq 11 (.mv (.t 0)),
sq 12 (.slen (.t 11)),
sq 13 (.bin .gtr (.t 12) (kI 20000))])
 (.cond (.t 13)
 (.seq (.reg [sq 2 (.mv kN),
sq 3 (.mv (kI 4))])
 .ret)
 .skip))
 (.seq (.reg [sq 15 (.mv (.t 0)),
sq 16 (.call 44 [(.t 15)]),
sq 14 (.mv (.t 16)),
sq 17 (.ext (.t 14) 0),
sq 18 (.ext (.t 14) 1),
sq 4 (.mv (.t 17)),
sq 5 (.mv (.t 18))])
 (.seq (.seq (.reg [sq 19 (.mv (.t 5)),
sq 20 (.not (.t 19))])
 (.cond (.t 20)
 (.seq (.reg [sq 2 (.mv kN),
sq 3 (.mv (kI 2))])
 .ret)
 .skip))
 (.seq (.reg [sq 6 (.mv kN)])
 (.seq (.reg [sq 7 (.mv (kI 0))])
 (.seq (.sem (.block 0 (.loop (.seq (.seq (.reg [sq 21 (.mv (.t 7)),
sq 22 (.mv (.t 4)),
sq 23 (.len (.t 22)),
sq 24 (.bin .lss (.t 21) (.t 23))])
 (.cond (.t 24)
 .skip
 (.exit 0)))
 (.block 1 (.seq (.reg [sq 25 (.mv (.t 4)),
sq 26 (.mv (.t 7)),
sq 27 (.call 45 [(.t 25),(.t 26)]),
sq 8 (.zbox [dS ⟨#[]⟩,dI 0,dN,dI 0,dB false]),
su (.store 5 (.t 8) (.t 27))])
 (.seq (.seq (.sem (.reg [sq 28 (.fieldA 4 (.t 8)),
sq 29 (.load none (.t 28))]))
 (.cond (.t 29)
 (.seq (.reg [sq 2 (.mv kN),
sq 3 (.mv (kI 2))])
 .ret)
 .skip))
 (.seq (.reg [sq 30 (.mv (.t 6)),
sq 31 (.fieldA 0 (.t 8)),
sq 32 (.load (some 3) (.t 31)),
sq 33 (.bslice 3 [(.t 32)]),
sq 34 (.app 3 48 (.t 30) (.t 33)),
sq 6 (.mv (.t 34))])
 (.seq (.reg [sq 35 (.fieldA 3 (.t 8)),
sq 36 (.load none (.t 35)),
sq 7 (.mv (.t 36))])
 (.seq (.seq (.sem (.reg [sq 37 (.mv (.t 7)),
sq 38 (.mv (.t 4)),
sq 39 (.len (.t 38)),
sq 40 (.bin .lss (.t 37) (.t 39)),
sq 41 (.mv (.t 40)),
zg 42 41 true (.mv (.t 4)),
zg 43 41 true (.mv (.t 7)),
zg 44 41 true (.indexA 1 (.t 42) (.t 43)),
zg 45 41 true (.load none (.t 44)),
zg 46 41 true (.bin .neq (.t 45) (kS ⟨#[44]⟩)),
sq 47 (.pick (.t 41) (.t 46) (kB false)),
sq 48 (.mv (.t 47)),
zg 49 48 false (.mv (.t 7)),
zg 50 48 false (.bin .add (.t 49) (kI 1)),
zg 51 48 false (.mv (.t 4)),
zg 52 48 false (.len (.t 51)),
zg 53 48 false (.bin .eql (.t 50) (.t 52)),
sq 54 (.pick (.t 48) (kB true) (.t 53))]))
 (.cond (.t 54)
 (.seq (.reg [sq 2 (.mv kN),
sq 3 (.mv (kI 2))])
 .ret)
 .skip))
 (.reg [sq 55 (.mv (.t 7)),
sq 56 (.bin .add (.t 55) (kI 1)),
sq 7 (.mv (.t 56))])))))))))))
 (.seq (.seq (.reg [sq 9 (.mv (kI 0))])
 (.sem (.block 2 (.loop (.seq (.seq (.reg [sq 57 (.mv (.t 9)),
sq 58 (.mv (.t 6)),
sq 59 (.len (.t 58)),
sq 60 (.bin .lss (.t 57) (.t 59))])
 (.cond (.t 60)
 .skip
 (.exit 2)))
 (.seq (.block 3 (.seq (.reg [sq 63 (.mv (.t 6)),
sq 64 (.mv (.t 9)),
sq 65 (.indexA 3 (.t 63) (.t 64)),
sq 66 (.load (some 3) (.t 65)),
sq 67 (.call 46 [(.t 66)]),
sq 10 (.mv (.t 67))])
 (.seq (.reg [sq 68 (.mv (.t 10)),
sq 69 (.bin .neq (.t 68) (kI 0))])
 (.cond (.t 69)
 (.seq (.reg [sq 70 (.mv (.t 10)),
sq 2 (.mv kN),
sq 3 (.mv (.t 70))])
 .ret)
 .skip))))
 (.reg [sq 61 (.mv (.t 9)),
sq 62 (.bin .add (.t 61) (kI 1)),
sq 9 (.mv (.t 62))])))))))
 (.seq (.seq (.reg [sq 71 (.mv (.t 6)),
sq 72 (.len (.t 71)),
sq 73 (.bin .gtr (.t 72) (kI 16))])
 (.cond (.t 73)
 (.seq (.reg [sq 2 (.mv kN),
sq 3 (.mv (kI 4))])
 .ret)
 .skip))
 (.seq (.reg [sq 74 (.mv (.t 6)),
sq 2 (.mv (.t 74)),
sq 3 (.mv (kI 0))])
 .ret))))))))))⟩
theorem a25_ok:afn Try.prog 25=some a25.er:=by kernel_rfl
theorem F25_ok{x0 r}(h:F25 x0=some r):CallD Try.prog 25 [.c (dS x0)] [] (tupV [.c (.own 0 0 0 (r.1.length) none),.c (dI r.2)]) [some (.arr 0 3 (r.1.map eRequirement))]:=by
 refine callS a25_ok (by simp[a25]) ?_
 rw[F25]at h
 simp only[a25,VW.down,Nat.reduceEqDiff,reduceCtorEq,Nat.reduceAdd,Nat.reduceLeDiff,Nat.reduceLT,Nat.reduceBEq,Nat.reduceSub,EE.down]
 refine condSh h (fun c1 h=>?_) (fun c1 h=>?_)
 ·refine ww ?_
  cases h
  exact eF [none]
 refine ww ?_
 obtain⟨t2,ht2,h⟩:=bi h
 refine cN [] (F44_ok ht2) trivial (ww ?_)
 refine condBh h (fun c3 h=>?_) (fun c3 h=>?_)
 ·refine ww ?_
  cases h
  exact eF [none]
 refine ww ?_
 obtain⟨o4,ho,h⟩:=bi h
 refine cutS (fun s=>∃po4,o4=Sum.inr po4∧s=⟨[(6,.one (.c (.own 0 0 0 (po4.length) none)))],[some (.arr 0 3 (po4.map eRequirement))]⟩) ?_ ?_
 ·have h0o4:=h
  have h:=ho
  clear ho
  refine ww ?_
  refine bL (fun j s=>∃(o4_0:List Requirement) (o4_1:Int),s=⟨[(4,.one (.c (dM (t2.1.map eS)))),(6,.one (.c (.own 0 0 0 (o4_0.length) none))),(7,.one (.c (dI o4_1)))],[some (.arr 0 3 (o4_0.map eRequirement))]⟩∧F25_l4 t2 j o4_0 o4_1=some o4) 1099511627776 [none] ⟨[],0,rfl,h⟩ ?_
  rintro j _ ⟨o4_0,o4_1,rfl,h⟩
  cases j with
  |zero=>cases(show(none:Option _)=some _ from h)
  |succ j=>
   rw[F25_l4]at h
   refine ww ?_
   refine condSh h (fun c5 h=>?_) (fun c5 h=>?_)
   ·refine ww ?_
    obtain⟨t6,ht6,h⟩:=bi h
    refine cN [] (F45_ok ht6) trivial (ww ?_)
    obtain⟨o7,ho,h⟩:=bi h
    refine cutS (fun s=>s=⟨[(4,.one (.c (dM (t2.1.map eS)))),(6,.one (.c (.own 0 0 0 (o4_0.length) none))),(8,.one (.c (.pt 1 0))),(29,.one (.c (dB t6.2.2.2.2)))],[some (.arr 0 3 (o4_0.map eRequirement)),some (.box [dS t6.1,dI t6.2.1,dM (t6.2.2.1.map eS),dI t6.2.2.2.1,dB t6.2.2.2.2])]⟩) ?_ ?_
    ·have h:=ho
     clear ho
     refine ww ?_
     cases h
     exact eM [some 0,some 2] rfl
    ·rintro _ rfl
     clear ho
     refine ww ?_
     refine condBh h (fun c8 h=>?_) (fun c8 h=>?_)
     ·refine ww ?_
      obtain⟨fh0o4,hfh0o4,rfl⟩:=Option.map_eq_some_iff.1 h
      have h:=hfh0o4.trans h0o4
      cases h
      exact eF [none]
     ·refine ww ?_
      refine t_bslice (enc:=eRequirement) (ys:=[(⟨t6.1,t6.2.1,t6.2.2.1⟩:Requirement)]) rfl rfl (by simp[A1.cells]) (by first|rfl|(simp only[List.drop_zero,take_mapL];rfl)|(simp only[lit,List.map_cons,List.map_nil,List.drop_zero,take_mapL,EE.down];done)|(simp only[lit,List.map_cons,List.map_nil,List.drop_zero,take_mapL,EE.down];rfl)) (ww ?_)
      obtain⟨a9,ha9,h⟩:=bi h
      refine t_app (enc:=eRequirement) (xs:=o4_0) rfl rfl (by first|rfl|simp only[List.length_set]|exact(clrL_len (slI_len (by assumption))).symm) rfl (rows_full (enc:=eRequirement) (by first|rfl|simp only[List.length_set]|exact(clrL_len (slI_len (by assumption))).symm) rfl) ha9 (ww ?_)
      obtain⟨o10,ho,h⟩:=bi h
      refine cutS (fun s=>s=⟨[(4,.one (.c (dM (t2.1.map eS)))),(6,.one (.c (.own 0 0 0 (a9.length) none))),(7,.one (.c (dI t6.2.2.2.1))),(54,.one (.c (dB o10)))],[some (.arr 0 3 (a9.map eRequirement))]⟩) ?_ ?_
      ·have h:=ho
       clear ho
       refine ww ?_
       refine guardSh h (fun g11 h=>?_) (fun g11 h=>?_)
       ·refine ww ?_
        obtain⟨y12,hy12,h⟩:=bi h
        refine t_idxF (enc:=eS) (xs:=t2.1) rfl rfl hy12 rfl (ww ?_)
        refine guardSh h (fun g13 h=>?_) (fun g13 h=>?_)
        ·refine ww ?_
         cases h
         exact eM [some 0] rfl
        ·refine ww ?_
         cases h
         exact eM [some 0] rfl
       ·refine ww ?_
        cases h
        exact eM [some 0] rfl
      ·rintro _ rfl
       clear ho
       refine ww ?_
       refine condBh h (fun c14 h=>?_) (fun c14 h=>?_)
       ·refine ww ?_
        obtain⟨fh0o4,hfh0o4,rfl⟩:=Option.map_eq_some_iff.1 h
        have h:=hfh0o4.trans h0o4
        cases h
        exact eF [none]
       ·refine ww ?_
        exact eL' j [some 0] ⟨a9,(IntKind.i64.wrap (t6.2.2.2.1+1)),rfl,h⟩ (Nat.lt_succ_self _)
   ·refine ww ?_
    cases h
    exact eM [some 0] ⟨_,rfl,rfl⟩
 rintro _ ⟨po4,rfl,rfl⟩
 clear ho
 dsimp only at h
 refine ww ?_
 obtain⟨o15,ho,h⟩:=bi h
 refine cutS (fun s=>∃po15,o15=Sum.inr po15∧s=⟨[(6,.one (.c (.own 0 0 0 (po4.length) none)))],[some (.arr 0 3 (po4.map eRequirement))]⟩) ?_ ?_
 ·have h0o15:=h
  have h:=ho
  clear ho
  obtain⟨_,hk,h⟩:=bi h
  have hk:=ck_some hk
  refine ww ?_
  refine bL (fun j s=>∃(o15_0:Nat),(o15_0≤po4.length∧j=po4.length-o15_0)∧s=⟨[(6,.one (.c (.own 0 0 0 (po4.length) none))),(9,.one (.c (dI ((o15_0:Int)))))],[some (.arr 0 3 (po4.map eRequirement))]⟩∧F25_l15 po4 (po4.drop o15_0) o15_0=some o15) (po4.length-0) [some 0] ⟨0,⟨hk.1,rfl⟩,rfl,h⟩ ?_
  rintro _ _ ⟨o15_0,⟨hi,rfl⟩,rfl,h⟩
  refine ww ?_
  refine condS (fun c16=>?_) (fun c16=>?_)
  ·obtain⟨xo15,hxo15,hd⟩:=countY (show(o15_0:Int)<(po4.length:Int)from c16)
   rw[hd,F25_l15]at h
   refine ww ?_
   obtain⟨y17,hy17,h⟩:=bi h
   refine t_idxO (enc:=eRequirement) (xs:=po4) rfl rfl rfl (by first|rfl|simp only[List.length_set]|exact(clrL_len (slI_len (by assumption))).symm) hy17 (ww ?_)
   refine LdRow.rd (rdI_some hy17).2.1 (ww ?_)
   obtain⟨t18,ht18,h⟩:=bi h
   refine cN [] (F46_ok ht18) trivial (ww ?_)
   refine condSh h (fun c19 h=>?_) (fun c19 h=>?_)
   ·refine ww ?_
    obtain⟨fh0o15,hfh0o15,rfl⟩:=Option.map_eq_some_iff.1 h
    have h:=hfh0o15.trans h0o15
    cases h
    exact eF [none]
   refine ww ?_
   rw[wrapN (by omega)]
   exact eL' (po4.length-(o15_0+1)) [some 0] ⟨o15_0+1,⟨by omega,rfl⟩,rfl,h⟩ (by omega)
  rw[countN (show¬((o15_0:Int)<(po4.length:Int))from c16),F25_l15]at h
  refine ww ?_
  cases h
  exact eM [some 0] ⟨_,rfl,rfl⟩
 rintro _ ⟨po15,rfl,rfl⟩
 clear ho
 dsimp only at h
 refine ww ?_
 refine condSh h (fun c21 h=>?_) (fun c21 h=>?_)
 ·refine ww ?_
  cases h
  exact eF [none]
 refine ww ?_
 cases h
 exact eF [some 0]
def F6(x0:ByteArray):Option (Bool):=(((if 2000<(x0.size:Int)then(if(x0.size:Int)≤20000 then some true else some (decide (20100<(x0.size:Int))))else some (decide (20100<(x0.size:Int))))).bind fun o1=>(if o1=true then(F12).bind fun t5=>some t5 else(F24 x0).bind fun t6=>(F25 x0).bind fun t7=>(((if t6.2=t7.2 then(F26 t6.1 t7.1).bind fun t10=>(if t10=true then(F12).bind fun t12=>some t12 else some false)else some false)).bind fun o8=>some o8)))
def a6:AFn:=⟨42,[(.tmp 2)],
 (.seq (.reg [sq 2 (.mv (kB false))])
 (.seq (.seq (.sem (.reg [sq 7 (.mv (.t 0)),
sq 8 (.slen (.t 7)),
sq 9 (.bin .gtr (.t 8) (kI 2000)),
sq 10 (.mv (.t 9)),
zg 11 10 true (.mv (.t 0)),
zg 12 10 true (.slen (.t 11)),
zg 13 10 true (.bin .leq (.t 12) (kI 20000)),
sq 14 (.pick (.t 10) (.t 13) (kB false)),
sq 15 (.mv (.t 14)),
zg 16 15 false (.mv (.t 0)),
zg 17 15 false (.slen (.t 16)),
zg 18 15 false (.bin .gtr (.t 17) (kI 20100)),
sq 19 (.pick (.t 15) (kB true) (.t 18))]))
 (.cond (.t 19)
 (.seq (.reg [sq 20 (.call 12 []),
sq 2 (.mv (.t 20))])
 .ret)
 .skip))
 (.seq (.reg [sq 22 (.mv (.t 0)),
sq 23 (.call 24 [(.t 22)]),
sq 21 (.mv (.t 23)),
sq 24 (.ext (.t 21) 0),
sq 25 (.ext (.t 21) 1),
sq 3 (.mv (.t 24)),
sq 4 (.mv (.t 25))])
 (.seq (.reg [sq 27 (.mv (.t 0)),
sq 28 (.call 25 [(.t 27)]),
sq 26 (.mv (.t 28)),
sq 29 (.ext (.t 26) 0),
sq 30 (.ext (.t 26) 1),
sq 5 (.mv (.t 29)),
sq 6 (.mv (.t 30))])
 (.seq (.sem (.reg [sq 31 (.mv (.t 4)),
sq 32 (.mv (.t 6)),
sq 33 (.bin .eql (.t 31) (.t 32)),
sq 34 (.mv (.t 33)),
zg 35 34 true (.mv (.t 3)),
zg 36 34 true (.mv (.t 5)),
zg 37 34 true (.call 26 [(.t 35),(.t 36)]),
sq 38 (.pick (.t 34) (.t 37) (kB false)),
sq 39 (.mv (.t 38)),
zg 40 39 true (.call 12 []),
sq 41 (.pick (.t 39) (.t 40) (kB false)),
sq 2 (.mv (.t 41))]))
 .ret)))))⟩
theorem a6_ok:afn Try.prog 6=some a6.er:=by kernel_rfl
theorem F6_ok{x0 r}(h:F6 x0=some r):CallD Try.prog 6 [.c (dS x0)] [] (tupV [.c (dB r)]) []:=by
 refine callS a6_ok (by simp[a6]) ?_
 rw[F6]at h
 simp only[a6,VW.down,Nat.reduceEqDiff,reduceCtorEq,Nat.reduceAdd,Nat.reduceLeDiff,Nat.reduceLT,Nat.reduceBEq,Nat.reduceSub,EE.down]
 obtain⟨o1,ho,h⟩:=bi h
 refine cutS (fun s=>s=⟨[(0,.one (.c (dS x0))),(19,.one (.c (dB o1)))],[]⟩) ?_ ?_
 ·have h:=ho
  clear ho
  refine ww ?_
  refine guardSh h (fun g2 h=>?_) (fun g2 h=>?_)
  ·refine ww ?_
   refine guardSh h (fun g3 h=>?_) (fun g3 h=>?_)
   ·refine ww ?_
    cases h
    exact eM [] rfl
   refine ww ?_
   cases h
   exact eM [] rfl
  refine ww ?_
  cases h
  exact eM [] rfl
 rintro _ rfl
 clear ho
 refine ww ?_
 refine condBh h (fun c4 h=>?_) (fun c4 h=>?_)
 ·refine ww ?_
  obtain⟨t5,ht5,h⟩:=bi h
  refine cN [] (F12_ok ht5) trivial (ww ?_)
  cases h
  exact eF []
 refine ww ?_
 obtain⟨t6,ht6,h⟩:=bi h
 refine cN [] (F24_ok ht6) trivial (ww ?_)
 obtain⟨t7,ht7,h⟩:=bi h
 refine cN [] (F25_ok ht7) trivial (ww ?_)
 obtain⟨o8,ho,h⟩:=bi h
 refine cutS (fun s=>s=⟨[(2,.one (.c (dB o8)))],[]⟩) ?_ ?_
 ·have h:=ho
  clear ho
  refine ww ?_
  refine guardSh h (fun g9 h=>?_) (fun g9 h=>?_)
  ·refine ww ?_
   obtain⟨t10,ht10,h⟩:=bi h
   refine callX_bor (F26_ok ht10) (by simp only[borAs,bors,hp,List.getElem?_cons_zero,List.getElem?_cons_succ,Option.join_some,List.drop_zero,bor_full',true_and,Nat.zero_add,List.length_map,Nat.le_refl,nrm,List.length_cons,List.length_nil,Nat.reduceAdd,Nat.reduceLeDiff,List.take_succ_cons,List.take_zero,List.take_nil,List.map_cons,List.map_nil,List.length_set,EE.down]) rfl ?_
   refine ww ?_
   refine guardSBh h (fun g11 h=>?_) (fun g11 h=>?_)
   ·refine ww ?_
    obtain⟨t12,ht12,h⟩:=bi h
    refine cN [] (F12_ok ht12) trivial (ww ?_)
    cases h
    exact eM [] rfl
   refine ww ?_
   cases h
   exact eM [] rfl
  refine ww ?_
  cases h
  exact eM [] rfl
 rintro _ rfl
 clear ho
 refine ww ?_
 cases h
 exact eF []
end Go.Proofs.Ytadhmlfnfgpjjaa
