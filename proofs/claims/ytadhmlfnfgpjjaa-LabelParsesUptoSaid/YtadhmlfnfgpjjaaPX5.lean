/- Each Go function as a function over typed data, and its walk. -/
import Derived.Test.YtadhmlfnfgpjjaaPX
namespace Go.Proofs.Ytadhmlfnfgpjjaa
open Go Go.Fw Go.Shelf
set_option maxRecDepth 100000
set_option maxHeartbeats 4000000
set_option linter.unusedSimpArgs false
set_option linter.unusedVariables false
noncomputable def fn55:Func:=(Try.prog.funcs[55]?).getD default
theorem fn55_ok:Try.prog.funcs[55]? =some fn55:=by kernel_rfl
theorem ov55(e0 e1 o0 o1 l0 l1:Nat)(c0 c1:Option Nat)(r0 r1:List (List D)):
 CallD Try.prog 55 [.c (.own 0 e0 o0 l0 c0),.c (.own 1 e1 o1 l1 c1)] [some (.arr e0 2 r0),some (.arr e1 2 r1)] (.one (aB false)) [some (.arr e0 2 r0),some (.arr e1 2 r1)]:=
 ovl_callD (tS:=22) (tT:=4) (e:=45) (ps:= #[22,22]) (rs:= #[4]) fn55_ok (by kernel_rfl) (by kernel_rfl) (by kernel_rfl) (by kernel_rfl) rfl rfl (by kernel_rfl) (by kernel_rfl) e0 e1 o0 o1 l0 l1 c0 c1 r0 r1
theorem a37_ok:afn Try.prog 37=some (insertA 2 32 [.v (.string ⟨#[]⟩),.v (.string ⟨#[]⟩)] 55 56):=by kernel_rfl
theorem F37_ok{x0 r:List Label}{i:Int}{x:Label}{e0 e1:Nat}(h:insI x0 i x=some r):CallD Try.prog 37 [.c (.own 0 e0 0 x0.length none),aI i,.c (.own 1 e1 0 [x].length none)] [some (.arr e0 2 (x0.map eLabel)),some (.arr e1 2 ([x].map eLabel))] (tupV [.c (.own 0 (e0+1) 0 r.length none)]) [some (.arr (e0+1) 2 (r.map eLabel)),some (.arr e1 2 ([x].map eLabel))]:=L_insert a37_ok ov55 (fun _=>rfl) h
def F20_l2(x1:ByteArray):List Label→Nat→(List Label)→Int→Option ((List Label)×Int)
 |[],o2_2,o2_0,o2_1=>some ((o2_0,o2_1))
 |xo2::xs,o2_2,o2_0,o2_1=>(((if xo2.Key=x1 then some ((o2_0,o2_1))else(((((if o2_1<0 then some (nb (Op.bytesLess xo2.Key.toList x1.toList||decide (xo2.Key=x1)))else some false)).bind fun o7=>(if o7=true then some ((o2_0.length:Int))else some o2_1))).bind fun o6=>(apI o2_0 ([xo2])).bind fun a10=>some ((a10,o6))))).bind fun o4=>F20_l2 x1 xs (o2_2+1) o4.1 o4.2)
def F20(x0:(List Label))(x1:ByteArray)(x2:ByteArray):Option ((List Label)):=(mkI ((⟨(⟨#[]⟩:ByteArray),(⟨#[]⟩:ByteArray)⟩:Label)) 0 ((IntKind.i64.wrap (((x0.length:Int))+1)))).bind fun m1=>(((ck (0≤x0.length∧x0.length≤4294967290)).bind fun u11=>F20_l2 x1 x0 0 m1 ((-1))).bind fun o2=>(((if o2.2<0 then some ((o2.1.length:Int))else some o2.2)).bind fun o12=>(insI o2.1 o12 ((⟨x1,x2⟩:Label))).bind fun t14=>some t14))
def a20:AFn:=⟨51,[(.tmp 6)],
 (.seq (.reg [sq 6 (.mv kN)])
 (.seq (.reg [sq 11 (.mv (.t 0)),
sq 12 (.len (.t 11)),
sq 13 (.bin .add (.t 12) (kI 1)),
sq 14 (.mk 2 32 [.v (.string ⟨#[]⟩),.v (.string ⟨#[]⟩)] (kI 0) (.t 13)),
sq 7 (.mv (.t 14))])
 (.seq (.reg [sq 8 (.mv (kI (-1)))])
 (.seq (.seq (.reg [sq 15 (.mv (.t 0)),
sq 16 (.len (.t 15)),
sq 17 (.mv (kI 0))])
 (.sem (.block 0 (.loop (.seq (.reg [sq 18 (.bin .lss (.t 17) (.t 16))])
 (.seq (.cond (.t 18)
 .skip
 (.exit 0))
 (.seq (.sem (.block 1 (.seq (.reg [sq 19 (.indexA 2 (.t 15) (.t 17)),
sq 20 (.load (some 2) (.t 19)),
sq 10 (.zbox [dS ⟨#[]⟩,dS ⟨#[]⟩]),
su (.store 2 (.t 10) (.t 20))])
 (.seq (.seq (.reg [sq 21 (.fieldA 0 (.t 10)),
sq 22 (.load none (.t 21)),
sq 23 (.mv (.t 1)),
sq 24 (.bin .eql (.t 22) (.t 23))])
 (.cond (.t 24)
 (.exit 1)
 .skip))
 (.seq (.sem (.seq (.sem (.reg [sq 25 (.mv (.t 8)),
sq 26 (.bin .lss (.t 25) (kI 0)),
sq 27 (.mv (.t 26)),
zg 28 27 true (.fieldA 0 (.t 10)),
zg 29 27 true (.load none (.t 28)),
zg 30 27 true (.mv (.t 1)),
zg 31 27 true (.bin .gtr (.t 29) (.t 30)),
zl 32 (.pick (.t 27) (.t 31) (kB false)) [] [10,28]]))
 (.cond (.t 32)
 (.reg [sq 33 (.mv (.t 7)),
sq 34 (.len (.t 33)),
sq 8 (.mv (.t 34))])
 .skip)))
 (.reg [sq 35 (.mv (.t 7)),
sq 36 (.load (some 2) (.t 10)),
sq 37 (.bslice 2 [(.t 36)]),
sq 38 (.app 2 32 (.t 35) (.t 37)),
sq 7 (.mv (.t 38))]))))))
 (.reg [sq 39 (.bin .add (.t 17) (kI 1)),
sq 17 (.mv (.t 39))]))))))))
 (.seq (.sem (.seq (.reg [sq 40 (.mv (.t 8)),
sq 41 (.bin .lss (.t 40) (kI 0))])
 (.cond (.t 41)
 (.reg [sq 42 (.mv (.t 7)),
sq 43 (.len (.t 42)),
sq 8 (.mv (.t 43))])
 .skip)))
 (.seq (.reg [sq 44 (.mv (.t 7)),
sq 45 (.mv (.t 8)),
sq 46 (.mv (.t 1)),
sq 47 (.mv (.t 2)),
sq 48 (.build [dS ⟨#[]⟩,dS ⟨#[]⟩] [(0,1,(.t 46)),(1,1,(.t 47))]),
sq 49 (.bslice 2 [(.t 48)]),
sq 50 (.call 37 [(.t 44),(.t 45),(.t 49)]),
sq 6 (.mv (.t 50))])
 .ret))))))⟩
theorem a20_ok:afn Try.prog 20=some a20.er:=by kernel_rfl
theorem F20_ok{x0 x1 x2 r}(h:F20 x0 x1 x2=some r):CallD Try.prog 20 [.c (dM (x0.map eLabel)),.c (dS x1),.c (dS x2)] [] (tupV [.c (.own 0 0 0 (r.length) none)]) [some (.arr 0 2 (r.map eLabel))]:=by
 refine callS a20_ok (by simp[a20]) ?_
 rw[F20]at h
 simp only[a20,VW.down,Nat.reduceEqDiff,reduceCtorEq,Nat.reduceAdd,Nat.reduceLeDiff,Nat.reduceLT,Nat.reduceBEq,Nat.reduceSub,EE.down]
 obtain⟨m1,hm1,h⟩:=bi h
 refine t_mk (enc:=eLabel) (z:=(⟨(⟨#[]⟩:ByteArray),(⟨#[]⟩:ByteArray)⟩:Label)) rfl rfl rfl hm1 (ww ?_)
 obtain⟨o2,ho,h⟩:=bi h
 refine cutS (fun s=>s=⟨[(1,.one (.c (dS x1))),(2,.one (.c (dS x2))),(7,.one (.c (.own 0 0 0 (o2.1.length) none))),(8,.one (.c (dI o2.2)))],[some (.arr 0 2 (o2.1.map eLabel))]⟩) ?_ ?_
 ·have h:=ho
  clear ho
  obtain⟨_,hk,h⟩:=bi h
  have hk:=ck_some hk
  refine ww ?_
  refine bL (fun j s=>∃(o2_2:Nat) (o2_0:List Label) (o2_1:Int),(o2_2≤x0.length∧j=x0.length-o2_2)∧s=⟨[(1,.one (.c (dS x1))),(2,.one (.c (dS x2))),(7,.one (.c (.own 0 0 0 (o2_0.length) none))),(8,.one (.c (dI o2_1))),(15,.one (.c (dM (x0.map eLabel)))),(16,.one (.c (dI ((x0.length:Int))))),(17,.one (.c (dI ((o2_2:Int)))))],[some (.arr 0 2 (o2_0.map eLabel))]⟩∧F20_l2 x1 (x0.drop o2_2) o2_2 o2_0 o2_1=some o2) (x0.length-0) [some 0] ⟨0,m1,(-1),⟨hk.1,rfl⟩,rfl,h⟩ ?_
  rintro _ _ ⟨o2_2,o2_0,o2_1,⟨hi,rfl⟩,rfl,h⟩
  refine ww ?_
  refine condS (fun c3=>?_) (fun c3=>?_)
  ·obtain⟨xo2,hxo2,hd⟩:=countY (show(o2_2:Int)<(x0.length:Int)from c3)
   rw[hd,F20_l2]at h
   refine ww ?_
   obtain⟨o4,ho,h⟩:=bi h
   refine cutS (fun s=>s=⟨[(1,.one (.c (dS x1))),(2,.one (.c (dS x2))),(7,.one (.c (.own 0 0 0 (o4.1.length) none))),(8,.one (.c (dI o4.2))),(15,.one (.c (dM (x0.map eLabel)))),(16,.one (.c (dI ((x0.length:Int))))),(17,.one (.c (dI ((o2_2:Int)))))],[some (.arr 0 2 (o4.1.map eLabel))]⟩) ?_ ?_
   ·have h:=ho
    clear ho
    refine ww ?_
    refine t_idxF (enc:=eLabel) (xs:=x0) rfl rfl hxo2 rfl (ww ?_)
    refine condSh h (fun c5 h=>?_) (fun c5 h=>?_)
    ·refine ww ?_
     cases h
     exact eM [some 0] rfl
    refine ww ?_
    obtain⟨o6,ho,h⟩:=bi h
    refine cutS (fun s=>s=⟨[(1,.one (.c (dS x1))),(2,.one (.c (dS x2))),(7,.one (.c (.own 0 0 0 (o2_0.length) none))),(8,.one (.c (dI o6))),(10,.one (.c (.pt 1 0))),(15,.one (.c (dM (x0.map eLabel)))),(16,.one (.c (dI ((x0.length:Int))))),(17,.one (.c (dI ((o2_2:Int)))))],[some (.arr 0 2 (o2_0.map eLabel)),some (.box [dS xo2.Key,dS xo2.Value])]⟩) ?_ ?_
    ·have h:=ho
     clear ho
     refine ww ?_
     obtain⟨o7,ho,h⟩:=bi h
     refine cutS (fun s=>s=⟨[(1,.one (.c (dS x1))),(2,.one (.c (dS x2))),(7,.one (.c (.own 0 0 0 (o2_0.length) none))),(8,.one (.c (dI o2_1))),(10,.one (.c (.pt 1 0))),(15,.one (.c (dM (x0.map eLabel)))),(16,.one (.c (dI ((x0.length:Int))))),(17,.one (.c (dI ((o2_2:Int))))),(32,.one (.c (dB o7)))],[some (.arr 0 2 (o2_0.map eLabel)),some (.box [dS xo2.Key,dS xo2.Value])]⟩) ?_ ?_
     ·have h:=ho
      clear ho
      refine ww ?_
      refine guardSh h (fun g8 h=>?_) (fun g8 h=>?_)
      ·refine ww ?_
       cases h
       exact eM [some 0,some 1] rfl
      refine ww ?_
      cases h
      exact eM [some 0,some 1] rfl
     rintro _ rfl
     clear ho
     refine ww ?_
     refine condBh h (fun c9 h=>?_) (fun c9 h=>?_)
     ·refine ww ?_
      cases h
      exact eM [some 0,some 1] rfl
     refine ww ?_
     cases h
     exact eM [some 0,some 1] rfl
    rintro _ rfl
    clear ho
    refine ww ?_
    refine t_bslice (enc:=eLabel) (ys:=[xo2]) rfl rfl (by simp[A1.cells]) (by first|rfl|(simp only[List.drop_zero,take_mapL];rfl)|(simp only[lit,List.map_cons,List.map_nil,List.drop_zero,take_mapL,EE.down];done)|(simp only[lit,List.map_cons,List.map_nil,List.drop_zero,take_mapL,EE.down];rfl)) (ww ?_)
    obtain⟨a10,ha10,h⟩:=bi h
    refine t_app (enc:=eLabel) (xs:=o2_0) rfl rfl (by first|rfl|simp only[List.length_set]|exact(clrL_len (slI_len (by assumption))).symm) rfl (rows_full (enc:=eLabel) (by first|rfl|simp only[List.length_set]|exact(clrL_len (slI_len (by assumption))).symm) rfl) ha10 (ww ?_)
    cases h
    exact eM [some 0] rfl
   rintro _ rfl
   clear ho
   refine ww ?_
   rw[wrapN (by omega)]
   exact eL' (x0.length-(o2_2+1)) [some 0] ⟨o2_2+1,o4.1,o4.2,⟨by omega,rfl⟩,rfl,h⟩ (by omega)
  rw[countN (show¬((o2_2:Int)<(x0.length:Int))from c3),F20_l2]at h
  refine ww ?_
  cases h
  exact eM [some 0] rfl
 rintro _ rfl
 clear ho
 refine ww ?_
 obtain⟨o12,ho,h⟩:=bi h
 refine cutS (fun s=>s=⟨[(1,.one (.c (dS x1))),(2,.one (.c (dS x2))),(7,.one (.c (.own 0 0 0 (o2.1.length) none))),(8,.one (.c (dI o12)))],[some (.arr 0 2 (o2.1.map eLabel))]⟩) ?_ ?_
 ·have h:=ho
  clear ho
  refine ww ?_
  refine condSh h (fun c13 h=>?_) (fun c13 h=>?_)
  ·refine ww ?_
   cases h
   exact eM [some 0] rfl
  refine ww ?_
  cases h
  exact eM [some 0] rfl
 rintro _ rfl
 clear ho
 refine ww ?_
 refine t_bslice (enc:=eLabel) (ys:=[(⟨x1,x2⟩:Label)]) rfl rfl (by simp[A1.cells]) (by first|rfl|(simp only[List.drop_zero,take_mapL];rfl)|(simp only[lit,List.map_cons,List.map_nil,List.drop_zero,take_mapL,EE.down];done)|(simp only[lit,List.map_cons,List.map_nil,List.drop_zero,take_mapL,EE.down];rfl)) (ww ?_)
 obtain⟨t14,ht14,h⟩:=bi h
 refine cN [0,1] (F37_ok (e0:=0) (e1:=0) ht14) ⟨⟨rfl,trivial⟩,⟨⟨rfl,trivial⟩,trivial⟩⟩ ?_
 refine ww ?_
 cases h
 exact eF [some 0]
def F47_l2(x1:(List ByteArray)):List ByteArray→Nat→Option ((Bool) ⊕ (Unit))
 |[],o2_0=>some (Sum.inr (()))
 |xo2::xs,o2_0=>(rdI x1 ((o2_0:Int))).bind fun y4=>(if¬(xo2=y4)then(some false).map Sum.inl else F47_l2 x1 xs (o2_0+1))
def F47(x0:(List ByteArray))(x1:(List ByteArray)):Option (Bool):=(if¬((x0.length:Int)=(x1.length:Int))then some false else(((ck (0≤x0.length∧x0.length≤4294967290)).bind fun u6=>F47_l2 x1 x0 0:Option ((Bool) ⊕ (Unit))).bind fun o2=>match o2 with|Sum.inl f=>some f|Sum.inr po2=>some true))
def a47:AFn:=⟨26,[(.tmp 4)],
 (.seq (.reg [sq 4 (.mv (kB false))])
 (.seq (.seq (.reg [sq 6 (.mv (.t 0)),
sq 7 (.len (.t 6)),
sq 8 (.mv (.t 1)),
sq 9 (.len (.t 8)),
sq 10 (.bin .neq (.t 7) (.t 9))])
 (.cond (.t 10)
 (.seq (.reg [sq 4 (.mv (kB false))])
 .ret)
 .skip))
 (.seq (.seq (.reg [sq 5 (.mv (kI 0))])
 (.sem (.block 0 (.loop (.seq (.seq (.reg [sq 11 (.mv (.t 5)),
sq 12 (.mv (.t 0)),
sq 13 (.len (.t 12)),
sq 14 (.bin .lss (.t 11) (.t 13))])
 (.cond (.t 14)
 .skip
 (.exit 0)))
 (.seq (.block 1 (.seq (.regd [sq 17 (.mv (.t 0)),
sq 18 (.mv (.t 5)),
sd 19 (.indexA 1 (.t 17) (.t 18)) [0,1],
sd 20 (.load none (.t 19)) [0,1,2],
sq 21 (.mv (.t 1)),
sq 22 (.mv (.t 5)),
sd 23 (.indexA 1 (.t 21) (.t 22)) [4,5],
sd 24 (.load none (.t 23)) [4,5,6],
sd 25 (.bin .neq (.t 20) (.t 24)) [0,1,2,3,4,5,6,7]])
 (.cond (.t 25)
 (.seq (.reg [sq 4 (.mv (kB false))])
 .ret)
 .skip)))
 (.reg [sq 15 (.mv (.t 5)),
sq 16 (.bin .add (.t 15) (kI 1)),
sq 5 (.mv (.t 16))])))))))
 (.seq (.reg [sq 4 (.mv (kB true))])
 .ret))))⟩
theorem a47_ok:afn Try.prog 47=some a47.er:=by kernel_rfl
theorem F47_ok{x0 x1 r}(h:F47 x0 x1=some r):CallD Try.prog 47 [.c (dM (x0.map eS)),.c (dM (x1.map eS))] [] (tupV [.c (dB r)]) []:=by
 refine callS a47_ok (by simp[a47]) ?_
 rw[F47]at h
 simp only[a47,VW.down,Nat.reduceEqDiff,reduceCtorEq,Nat.reduceAdd,Nat.reduceLeDiff,Nat.reduceLT,Nat.reduceBEq,Nat.reduceSub,EE.down]
 refine condSh h (fun c1 h=>?_) (fun c1 h=>?_)
 ·refine ww ?_
  cases h
  exact eF []
 refine ww ?_
 obtain⟨o2,ho,h⟩:=bi h
 refine cutS (fun s=>∃po2,o2=Sum.inr po2∧s=⟨[],[]⟩) ?_ ?_
 ·have h0o2:=h
  have h:=ho
  clear ho
  obtain⟨_,hk,h⟩:=bi h
  have hk:=ck_some hk
  refine ww ?_
  refine bL (fun j s=>∃(o2_0:Nat),(o2_0≤x0.length∧j=x0.length-o2_0)∧s=⟨[(0,.one (.c (dM (x0.map eS)))),(1,.one (.c (dM (x1.map eS)))),(5,.one (.c (dI ((o2_0:Int)))))],[]⟩∧F47_l2 x1 (x0.drop o2_0) o2_0=some o2) (x0.length-0) [] ⟨0,⟨hk.1,rfl⟩,rfl,h⟩ ?_
  rintro _ _ ⟨o2_0,⟨hi,rfl⟩,rfl,h⟩
  refine ww ?_
  refine condS (fun c3=>?_) (fun c3=>?_)
  ·obtain⟨xo2,hxo2,hd⟩:=countY (show(o2_0:Int)<(x0.length:Int)from c3)
   rw[hd,F47_l2]at h
   refine ww ?_
   refine t_idxF (enc:=eS) (xs:=x0) rfl rfl hxo2 rfl (ww ?_)
   obtain⟨y4,hy4,h⟩:=bi h
   refine t_idxF (enc:=eS) (xs:=x1) rfl rfl hy4 rfl (ww ?_)
   refine condSh h (fun c5 h=>?_) (fun c5 h=>?_)
   ·refine ww ?_
    obtain⟨fh0o2,hfh0o2,rfl⟩:=Option.map_eq_some_iff.1 h
    have h:=hfh0o2.trans h0o2
    cases h
    exact eF []
   refine ww ?_
   rw[wrapN (by omega)]
   exact eL' (x0.length-(o2_0+1)) [] ⟨o2_0+1,⟨by omega,rfl⟩,rfl,h⟩ (by omega)
  rw[countN (show¬((o2_0:Int)<(x0.length:Int))from c3),F47_l2]at h
  refine ww ?_
  cases h
  exact eM [] ⟨_,rfl,rfl⟩
 rintro _ ⟨po2,rfl,rfl⟩
 clear ho
 dsimp only at h
 refine ww ?_
 cases h
 exact eF []
def F26_l2(x1:(List Requirement)):List Requirement→Nat→Option ((Bool) ⊕ (Unit))
 |[],o2_0=>some (Sum.inr (()))
 |xo2::xs,o2_0=>(((rdI x1 ((o2_0:Int))).bind fun y5=>(if¬(xo2.Key=y5.Key)then some true else(if¬(xo2.Op=y5.Op)then some true else(F47 xo2.Values y5.Values).bind fun t8=>some (nb t8)))).bind fun o4=>(if o4=true then(some false).map Sum.inl else F26_l2 x1 xs (o2_0+1)))
def F26(x0:(List Requirement))(x1:(List Requirement)):Option (Bool):=(if¬((x0.length:Int)=(x1.length:Int))then some false else(((ck (0≤x0.length∧x0.length≤4294967290)).bind fun u10=>F26_l2 x1 x0 0:Option ((Bool) ⊕ (Unit))).bind fun o2=>match o2 with|Sum.inl f=>some f|Sum.inr po2=>some true))
def a26:AFn:=⟨55,[(.tmp 4)],
 (.seq (.reg [sq 4 (.mv (kB false))])
 (.seq (.seq (.reg [sq 6 (.mv (.t 0)),
sq 7 (.len (.t 6)),
sq 8 (.mv (.t 1)),
sq 9 (.len (.t 8)),
sq 10 (.bin .neq (.t 7) (.t 9))])
 (.cond (.t 10)
 (.seq (.reg [sq 4 (.mv (kB false))])
 .ret)
 .skip))
 (.seq (.seq (.reg [sq 5 (.mv (kI 0))])
 (.sem (.block 0 (.loop (.seq (.seq (.reg [sq 11 (.mv (.t 5)),
sq 12 (.mv (.t 0)),
sq 13 (.len (.t 12)),
sq 14 (.bin .lss (.t 11) (.t 13))])
 (.cond (.t 14)
 .skip
 (.exit 0)))
 (.seq (.block 1 (.seq (.sem (.regd [sq 17 (.mv (.t 0)),
sq 18 (.mv (.t 5)),
sd 19 (.indexA 3 (.t 17) (.t 18)) [0,1],
sd 20 (.fieldA 0 (.t 19)) [0,1,2],
sd 21 (.load none (.t 20)) [0,1,2,3],
sq 22 (.mv (.t 1)),
sq 23 (.mv (.t 5)),
sd 24 (.indexA 3 (.t 22) (.t 23)) [5,6],
sd 25 (.fieldA 0 (.t 24)) [5,6,7],
sd 26 (.load none (.t 25)) [5,6,7,8],
sd 27 (.bin .neq (.t 21) (.t 26)) [0,1,2,3,4,5,6,7,8,9],
sd 28 (.mv (.t 27)) [0,1,2,3,4,5,6,7,8,9,10],
⟨(some 29),(some (28,false)),.mv (.t 0),[0,1,2,3,4,5,6,7,8,9,10,11],(.new [])⟩,
⟨(some 30),(some (28,false)),.mv (.t 5),[0,1,2,3,4,5,6,7,8,9,10,11],(.new [])⟩,
⟨(some 31),(some (28,false)),.indexA 3 (.t 29) (.t 30),[0,1,2,3,4,5,6,7,8,9,10,11,12,13],(.new [])⟩,
⟨(some 32),(some (28,false)),.fieldA 1 (.t 31),[0,1,2,3,4,5,6,7,8,9,10,11,12,13,14],(.new [])⟩,
⟨(some 33),(some (28,false)),.load none (.t 32),[0,1,2,3,4,5,6,7,8,9,10,11,12,13,14,15],(.new [])⟩,
⟨(some 34),(some (28,false)),.mv (.t 1),[0,1,2,3,4,5,6,7,8,9,10,11],(.new [])⟩,
⟨(some 35),(some (28,false)),.mv (.t 5),[0,1,2,3,4,5,6,7,8,9,10,11],(.new [])⟩,
⟨(some 36),(some (28,false)),.indexA 3 (.t 34) (.t 35),[0,1,2,3,4,5,6,7,8,9,10,11,17,18],(.new [])⟩,
⟨(some 37),(some (28,false)),.fieldA 1 (.t 36),[0,1,2,3,4,5,6,7,8,9,10,11,17,18,19],(.new [])⟩,
⟨(some 38),(some (28,false)),.load none (.t 37),[0,1,2,3,4,5,6,7,8,9,10,11,17,18,19,20],(.new [])⟩,
⟨(some 39),(some (28,false)),.bin .neq (.t 33) (.t 38),[0,1,2,3,4,5,6,7,8,9,10,11,12,13,14,15,16,17,18,19,20,21],(.new [])⟩,
zl 40 (.pick (.t 28) (kB true) (.t 39)) [0,1,2,3,4,5,6,7,8,9,10,11,12,13,14,15,16,17,18,19,20,21,22] [],
sd 41 (.mv (.t 40)) [0,1,2,3,4,5,6,7,8,9,10,11,12,13,14,15,16,17,18,19,20,21,22,23],
⟨(some 42),(some (41,false)),.mv (.t 0),[0,1,2,3,4,5,6,7,8,9,10,11,12,13,14,15,16,17,18,19,20,21,22,23,24],(.new [])⟩,
⟨(some 43),(some (41,false)),.mv (.t 5),[0,1,2,3,4,5,6,7,8,9,10,11,12,13,14,15,16,17,18,19,20,21,22,23,24],(.new [])⟩,
⟨(some 44),(some (41,false)),.indexA 3 (.t 42) (.t 43),[0,1,2,3,4,5,6,7,8,9,10,11,12,13,14,15,16,17,18,19,20,21,22,23,24,25,26],(.new [])⟩,
⟨(some 45),(some (41,false)),.fieldA 2 (.t 44),[0,1,2,3,4,5,6,7,8,9,10,11,12,13,14,15,16,17,18,19,20,21,22,23,24,25,26,27],(.new [])⟩,
⟨(some 46),(some (41,false)),.load none (.t 45),[0,1,2,3,4,5,6,7,8,9,10,11,12,13,14,15,16,17,18,19,20,21,22,23,24,25,26,27,28],(.new [])⟩,
⟨(some 47),(some (41,false)),.mv (.t 1),[0,1,2,3,4,5,6,7,8,9,10,11,12,13,14,15,16,17,18,19,20,21,22,23,24],(.new [])⟩,
⟨(some 48),(some (41,false)),.mv (.t 5),[0,1,2,3,4,5,6,7,8,9,10,11,12,13,14,15,16,17,18,19,20,21,22,23,24],(.new [])⟩,
⟨(some 49),(some (41,false)),.indexA 3 (.t 47) (.t 48),[0,1,2,3,4,5,6,7,8,9,10,11,12,13,14,15,16,17,18,19,20,21,22,23,24,30,31],(.new [])⟩,
⟨(some 50),(some (41,false)),.fieldA 2 (.t 49),[0,1,2,3,4,5,6,7,8,9,10,11,12,13,14,15,16,17,18,19,20,21,22,23,24,30,31,32],(.new [])⟩,
⟨(some 51),(some (41,false)),.load none (.t 50),[0,1,2,3,4,5,6,7,8,9,10,11,12,13,14,15,16,17,18,19,20,21,22,23,24,30,31,32,33],(.new [])⟩,
⟨(some 52),(some (41,false)),.call 47 [(.t 46),(.t 51)],[0,1,2,3,4,5,6,7,8,9,10,11,12,13,14,15,16,17,18,19,20,21,22,23,24,25,26,27,28,29,30,31,32,33,34],(.lone [])⟩,
⟨(some 53),(some (41,false)),.not (.t 52),[0,1,2,3,4,5,6,7,8,9,10,11,12,13,14,15,16,17,18,19,20,21,22,23,24,25,26,27,28,29,30,31,32,33,34,35],(.new [])⟩,
zl 54 (.pick (.t 41) (kB true) (.t 53)) [0,1,2,3,4,5,6,7,8,9,10,11,12,13,14,15,16,17,18,19,20,21,22,23,24,25,26,27,28,29,30,31,32,33,34,35,36] []]))
 (.cond (.t 54)
 (.seq (.reg [sq 4 (.mv (kB false))])
 .ret)
 .skip)))
 (.reg [sq 15 (.mv (.t 5)),
sq 16 (.bin .add (.t 15) (kI 1)),
sq 5 (.mv (.t 16))])))))))
 (.seq (.reg [sq 4 (.mv (kB true))])
 .ret))))⟩
theorem a26_ok:afn Try.prog 26=some a26.er:=by kernel_rfl
theorem F26_ok{x0 x1 r}(h:F26 x0 x1=some r):CallD Try.prog 26 [.c (dM (x0.map eRequirement)),.c (dM (x1.map eRequirement))] [] (tupV [.c (dB r)]) []:=by
 refine callS a26_ok (by simp[a26]) ?_
 rw[F26]at h
 simp only[a26,VW.down,Nat.reduceEqDiff,reduceCtorEq,Nat.reduceAdd,Nat.reduceLeDiff,Nat.reduceLT,Nat.reduceBEq,Nat.reduceSub,EE.down]
 refine condSh h (fun c1 h=>?_) (fun c1 h=>?_)
 ·refine ww ?_
  cases h
  exact eF []
 refine ww ?_
 obtain⟨o2,ho,h⟩:=bi h
 refine cutS (fun s=>∃po2,o2=Sum.inr po2∧s=⟨[],[]⟩) ?_ ?_
 ·have h0o2:=h
  have h:=ho
  clear ho
  obtain⟨_,hk,h⟩:=bi h
  have hk:=ck_some hk
  refine ww ?_
  refine bL (fun j s=>∃(o2_0:Nat),(o2_0≤x0.length∧j=x0.length-o2_0)∧s=⟨[(0,.one (.c (dM (x0.map eRequirement)))),(1,.one (.c (dM (x1.map eRequirement)))),(5,.one (.c (dI ((o2_0:Int)))))],[]⟩∧F26_l2 x1 (x0.drop o2_0) o2_0=some o2) (x0.length-0) [] ⟨0,⟨hk.1,rfl⟩,rfl,h⟩ ?_
  rintro _ _ ⟨o2_0,⟨hi,rfl⟩,rfl,h⟩
  refine ww ?_
  refine condS (fun c3=>?_) (fun c3=>?_)
  ·obtain⟨xo2,hxo2,hd⟩:=countY (show(o2_0:Int)<(x0.length:Int)from c3)
   rw[hd,F26_l2]at h
   refine ww ?_
   obtain⟨o4,ho,h⟩:=bi h
   refine cutS (fun s=>s=⟨[(0,.one (.c (dM (x0.map eRequirement)))),(1,.one (.c (dM (x1.map eRequirement)))),(5,.one (.c (dI ((o2_0:Int))))),(54,.one (.c (dB o4)))],[]⟩) ?_ ?_
   ·have h:=ho
    clear ho
    refine ww ?_
    refine t_idxF (enc:=eRequirement) (xs:=x0) rfl rfl hxo2 rfl (ww ?_)
    obtain⟨y5,hy5,h⟩:=bi h
    refine t_idxF (enc:=eRequirement) (xs:=x1) rfl rfl hy5 rfl (ww ?_)
    refine guardDh h (fun g6 h=>?_) (fun g6 h=>?_)
    ·refine ww ?_
     cases h
     exact eM [] rfl
    refine ww ?_
    refine t_idxF (enc:=eRequirement) (xs:=x0) rfl rfl hxo2 rfl (ww ?_)
    refine t_idxF (enc:=eRequirement) (xs:=x1) rfl rfl hy5 rfl (ww ?_)
    refine guardDh h (fun g7 h=>?_) (fun g7 h=>?_)
    ·refine ww ?_
     cases h
     exact eM [] rfl
    refine ww ?_
    refine t_idxF (enc:=eRequirement) (xs:=x0) rfl rfl hxo2 rfl (ww ?_)
    refine t_idxF (enc:=eRequirement) (xs:=x1) rfl rfl hy5 rfl (ww ?_)
    obtain⟨t8,ht8,h⟩:=bi h
    refine cN [] (F47_ok ht8) trivial (ww ?_)
    cases h
    exact eM [] rfl
   rintro _ rfl
   clear ho
   refine ww ?_
   refine condBh h (fun c9 h=>?_) (fun c9 h=>?_)
   ·refine ww ?_
    obtain⟨fh0o2,hfh0o2,rfl⟩:=Option.map_eq_some_iff.1 h
    have h:=hfh0o2.trans h0o2
    cases h
    exact eF []
   refine ww ?_
   rw[wrapN (by omega)]
   exact eL' (x0.length-(o2_0+1)) [] ⟨o2_0+1,⟨by omega,rfl⟩,rfl,h⟩ (by omega)
  rw[countN (show¬((o2_0:Int)<(x0.length:Int))from c3),F26_l2]at h
  refine ww ?_
  cases h
  exact eM [] ⟨_,rfl,rfl⟩
 rintro _ ⟨po2,rfl,rfl⟩
 clear ho
 dsimp only at h
 refine ww ?_
 cases h
 exact eF []
end Go.Proofs.Ytadhmlfnfgpjjaa
