/- Each Go function as a function over typed data, and its walk. -/
import Derived.Test.YtondgcmdhkhkkaaGreatW0
namespace Go.Proofs.YtondgcmdhkhkkaaGreat
open Go Go.Fw Go.Shelf
set_option maxRecDepth 100000
set_option maxHeartbeats 4000000
set_option linter.unusedSimpArgs false
set_option linter.unusedVariables false
def F9_l2:List Requirement→Nat→Option ((Bool) ⊕ (Unit))
 |[],o2_0=>some (Sum.inr (()))
 |xo2::xs,o2_0=>(if 70<(xo2.Values.length:Int)then(some false).map Sum.inl else F9_l2 xs (o2_0+1))
def F9(x0:Filter):Option (Bool):=(if 20<(x0.Selector.length:Int)then some false else(((ck (0≤x0.Selector.length∧x0.Selector.length≤4294967290)).bind fun u5=>F9_l2 x0.Selector 0:Option ((Bool) ⊕ (Unit))).bind fun o2=>match o2 with|Sum.inl f=>some f|Sum.inr po2=>some true))
def a9:AFn:=⟨23,[(.tmp 2)],
 (.seq (.reg [sq 1 (.box (.t 0)),
sq 2 (.mv (kB false))])
 (.seq (.seq (.reg [sq 4 (.fieldA 2 (.t 1)),
sq 5 (.load none (.t 4)),
sq 6 (.len (.t 5)),
sq 7 (.bin .gtr (.t 6) (kI 20))])
 (.cond (.t 7)
 (.seq (.reg [sq 2 (.mv (kB false))])
 .ret)
 .skip))
 (.seq (.seq (.reg [sq 3 (.mv (kI 0))])
 (.sem (.block 0 (.loop (.seq (.seq (.reg [sq 8 (.mv (.t 3)),
sq 9 (.fieldA 2 (.t 1)),
sq 10 (.load none (.t 9)),
sq 11 (.len (.t 10)),
sq 12 (.bin .lss (.t 8) (.t 11))])
 (.cond (.t 12)
 .skip
 (.exit 0)))
 (.seq (.block 1 (.seq (.reg [sq 15 (.fieldA 2 (.t 1)),
sq 16 (.load none (.t 15)),
sq 17 (.mv (.t 3)),
sq 18 (.indexA 3 (.t 16) (.t 17)),
sq 19 (.fieldA 2 (.t 18)),
sq 20 (.load none (.t 19)),
sq 21 (.len (.t 20)),
sq 22 (.bin .gtr (.t 21) (kI 70))])
 (.cond (.t 22)
 (.seq (.reg [sq 2 (.mv (kB false))])
 .ret)
 .skip)))
 (.reg [sq 13 (.mv (.t 3)),
sq 14 (.bin .add (.t 13) (kI 1)),
sq 3 (.mv (.t 14))])))))))
 (.seq (.reg [sq 2 (.mv (kB true))])
 .ret))))⟩
theorem a9_ok:afn Tryz.prog 9=some a9.er:=by kernel_rfl
theorem F9_ok{x0 r}(h:F9 x0=some r):CallD Tryz.prog 9 [.agg [dS x0.Kind,dS x0.Namespace,dM (x0.Selector.map eRequirement)]] [] (tupV [.c (dB r)]) []:=by
 refine callS a9_ok (by simp[a9]) ?_
 rw[F9]at h
 simp only[a9,VW.down,Nat.reduceEqDiff,reduceCtorEq,Nat.reduceAdd,Nat.reduceLeDiff,Nat.reduceLT,Nat.reduceBEq,Nat.reduceSub,EE.down]
 refine condSh h (fun c1 h=>?_) (fun c1 h=>?_)
 ·refine ww ?_
  cases h
  exact eF []
 refine ww ?_
 obtain⟨o2,ho,h⟩:=bi h
 refine cutS (fun s=>∃po2,o2=Sum.inr po2∧s=⟨[],[]⟩) ?_ ?_
 ·have h0o2:=h
  have h:=ho
  clear ho
  obtain⟨_,hk,h⟩:=bi h
  have hk:=ck_some hk
  refine ww ?_
  refine bL (fun j s=>∃(o2_0:Nat),(o2_0≤x0.Selector.length∧j=x0.Selector.length-o2_0)∧s=⟨[(1,.one (.c (.pt 0 0))),(3,.one (.c (dI ((o2_0:Int)))))],[some (.box [dS x0.Kind,dS x0.Namespace,dM (x0.Selector.map eRequirement)])]⟩∧F9_l2 (x0.Selector.drop o2_0) o2_0=some o2) (x0.Selector.length-0) [some 0] ⟨0,⟨hk.1,rfl⟩,rfl,h⟩ ?_
  rintro _ _ ⟨o2_0,⟨hi,rfl⟩,rfl,h⟩
  refine ww ?_
  refine condS (fun c3=>?_) (fun c3=>?_)
  ·obtain⟨xo2,hxo2,hd⟩:=countY (show(o2_0:Int)<(x0.Selector.length:Int)from c3)
   rw[hd,F9_l2]at h
   refine ww ?_
   refine t_idxF (enc:=eRequirement) (xs:=x0.Selector) rfl rfl hxo2 rfl (ww ?_)
   refine condSh h (fun c4 h=>?_) (fun c4 h=>?_)
   ·refine ww ?_
    obtain⟨fh0o2,hfh0o2,rfl⟩:=Option.map_eq_some_iff.1 h
    have h:=hfh0o2.trans h0o2
    cases h
    exact eF []
   refine ww ?_
   rw[wrapN (by omega)]
   exact eL' (x0.Selector.length-(o2_0+1)) [some 0] ⟨o2_0+1,⟨by omega,rfl⟩,rfl,h⟩ (by omega)
  rw[countN (show¬((o2_0:Int)<(x0.Selector.length:Int))from c3),F9_l2]at h
  refine ww ?_
  cases h
  exact eM [] ⟨_,rfl,rfl⟩
 rintro _ ⟨po2,rfl,rfl⟩
 clear ho
 dsimp only at h
 refine ww ?_
 cases h
 exact eF []
def F64(x0:ByteArray)(x1:ByteArray):Option (Unit):=some (())
def a64:AFn:=⟨11,[(.cell 4 (some 23))],
 (.seq (.reg [zl 4 (.zbox [dS ⟨#[]⟩,dS ⟨#[]⟩,dS ⟨#[]⟩,dI 0,dI 0,dI 0,dI 0,dB false,dI 0,dN,dN,dN,dN,dI 0,dI 0,dS ⟨#[]⟩,dN,dN,dI 0,dI 0,dS ⟨#[]⟩,dN,dN]) [] []])
 (.seq (.reg [sq 5 (.mv (.t 0)),
sq 6 (.mv (.t 1)),
sq 7 (.build [dS ⟨#[]⟩,dS ⟨#[]⟩] [(0,1,(kS ⟨#[97,112,112]⟩)),(1,1,(.t 6))]),
sq 8 (.bslice 2 [(.t 7)]),
sq 9 (.build [dS ⟨#[]⟩,dS ⟨#[]⟩,dS ⟨#[]⟩,dI 0,dI 0,dI 0,dI 0,dB false,dI 0,dN,dN,dN,dN] [(0,1,(kS ⟨#[80,111,100]⟩)),(1,1,(kS ⟨#[110]⟩)),(2,1,(.t 5)),(9,1,(.t 8))]),
sq 10 (.build [dS ⟨#[]⟩,dS ⟨#[]⟩,dS ⟨#[]⟩,dI 0,dI 0,dI 0,dI 0,dB false,dI 0,dN,dN,dN,dN,dI 0,dI 0,dS ⟨#[]⟩,dN,dN,dI 0,dI 0,dS ⟨#[]⟩,dN,dN] [(0,13,(.t 9))]),
su (.store 23 (.t 4) (.t 10))])
 .ret))⟩
theorem a64_ok:afn Tryz.prog 64=some a64.er:=by kernel_rfl
theorem F64_ok{x0 x1 r}(h:F64 x0 x1=some r):CallD Tryz.prog 64 [.c (dS x0),.c (dS x1)] [] (tupV [.agg [dS ((⟨#[80,111,100]⟩:ByteArray)),dS ((⟨#[110]⟩:ByteArray)),dS x0,dI 0,dI 0,dI 0,dI 0,dB false,dI 0,.own 0 0 0 (([(⟨(⟨#[97,112,112]⟩:ByteArray),x1⟩:Label)]).length) none,dM (([]:List Owner).map eOwner),dM (([]:List ByteArray).map eS),dM (([]:List Manager).map eManager),dI 0,dI 0,dS ((⟨#[]⟩:ByteArray)),dM (([]:List TValue).map eTValue),dM (([]:List TField).map eTField),dI 0,dI 0,dS ((⟨#[]⟩:ByteArray)),dM (([]:List TValue).map eTValue),dM (([]:List TField).map eTField)]]) [some (.arr 0 2 (([(⟨(⟨#[97,112,112]⟩:ByteArray),x1⟩:Label)]).map eLabel))]:=by
 refine callS a64_ok (by simp[a64]) ?_
 rw[F64]at h
 simp only[a64,VW.down,Nat.reduceEqDiff,reduceCtorEq,Nat.reduceAdd,Nat.reduceLeDiff,Nat.reduceLT,Nat.reduceBEq,Nat.reduceSub,EE.down]
 refine t_bslice (enc:=eLabel) (ys:=[(⟨(⟨#[97,112,112]⟩:ByteArray),x1⟩:Label)]) rfl rfl (by simp[A1.cells]) (by first|rfl|(simp only[List.drop_zero,take_mapL];rfl)|(simp only[lit,List.map_cons,List.map_nil,List.drop_zero,take_mapL,EE.down];done)|(simp only[lit,List.map_cons,List.map_nil,List.drop_zero,take_mapL,EE.down];rfl)) (ww ?_)
 cases h
 exact eF [some 1]
def F144_l1(x0:ByteArray):Nat→Int→Option ((Bool) ⊕ (Unit))
 |0,_=>none
 |k+1,o1_0=>(if o1_0<(x0.size:Int)then(byI x0 o1_0).bind fun y3=>(((if 97≤y3 then(if y3≤122 then some false else(if 65≤y3 then(if y3≤90 then some false else(if 48≤y3 then(if y3≤57 then some false else(if y3=45 then some false else(if y3=95 then some false else some (decide (¬(y3=47))))))else(if y3=45 then some false else(if y3=95 then some false else some (decide (¬(y3=47)))))))else(if 48≤y3 then(if y3≤57 then some false else(if y3=45 then some false else(if y3=95 then some false else some (decide (¬(y3=47))))))else(if y3=45 then some false else(if y3=95 then some false else some (decide (¬(y3=47))))))))else(if 65≤y3 then(if y3≤90 then some false else(if 48≤y3 then(if y3≤57 then some false else(if y3=45 then some false else(if y3=95 then some false else some (decide (¬(y3=47))))))else(if y3=45 then some false else(if y3=95 then some false else some (decide (¬(y3=47)))))))else(if 48≤y3 then(if y3≤57 then some false else(if y3=45 then some false else(if y3=95 then some false else some (decide (¬(y3=47))))))else(if y3=45 then some false else(if y3=95 then some false else some (decide (¬(y3=47))))))))).bind fun o4=>(if o4=true then(some false).map Sum.inl else F144_l1 x0 k ((IntKind.i64.wrap (o1_0+1)))))else some (Sum.inr (())))
def F144(x0:ByteArray):Option (Bool):=((F144_l1 x0 1099511627776 0:Option ((Bool) ⊕ (Unit))).bind fun o1=>match o1 with|Sum.inl f=>some f|Sum.inr po1=>(((if 1≤(x0.size:Int)then some (decide ((x0.size:Int)≤40))else some false)).bind fun o36=>some o36))
def a144:AFn:=⟨57,[(.tmp 2)],
 (.seq (.reg [sq 2 (.mv (kB false))])
 (.seq (.seq (.reg [sq 5 (.mv (.t 0)),
sq 6 (.slen (.t 5)),
sq 7 (.mv (kI 0))])
 (.sem (.block 0 (.loop (.seq (.reg [sq 8 (.bin .lss (.t 7) (.t 6))])
 (.seq (.cond (.t 8)
 .skip
 (.exit 0))
 (.seq (.block 1 (.seq (.reg [sq 9 (.mv (.t 7)),
sq 3 (.mv (.t 9))])
 (.seq (.reg [sq 10 (.mv (.t 0)),
sq 11 (.mv (.t 3)),
sq 12 (.sidx (.t 10) (.t 11)),
sq 4 (.mv (.t 12))])
 (.seq (.sem (.reg [sq 13 (.mv (.t 4)),
sq 14 (.bin .geq (.t 13) (.k (.c (.d (.v (.int .u8 97)))))),
sq 15 (.mv (.t 14)),
zg 16 15 true (.mv (.t 4)),
zg 17 15 true (.bin .leq (.t 16) (.k (.c (.d (.v (.int .u8 122)))))),
sq 18 (.pick (.t 15) (.t 17) (kB false)),
sq 19 (.mv (.t 18)),
zg 20 19 false (.mv (.t 4)),
zg 21 19 false (.bin .geq (.t 20) (.k (.c (.d (.v (.int .u8 65)))))),
zg 22 19 false (.mv (.t 21)),
zg 23 22 true (.mv (.t 4)),
zg 24 22 true (.bin .leq (.t 23) (.k (.c (.d (.v (.int .u8 90)))))),
zg 25 19 false (.pick (.t 22) (.t 24) (kB false)),
sq 26 (.pick (.t 19) (kB true) (.t 25)),
sq 27 (.mv (.t 26)),
zg 28 27 false (.mv (.t 4)),
zg 29 27 false (.bin .geq (.t 28) (.k (.c (.d (.v (.int .u8 48)))))),
zg 30 27 false (.mv (.t 29)),
zg 31 30 true (.mv (.t 4)),
zg 32 30 true (.bin .leq (.t 31) (.k (.c (.d (.v (.int .u8 57)))))),
zg 33 27 false (.pick (.t 30) (.t 32) (kB false)),
sq 34 (.pick (.t 27) (kB true) (.t 33)),
sq 35 (.mv (.t 34)),
zg 36 35 false (.mv (.t 4)),
zg 37 35 false (.bin .eql (.t 36) (.k (.c (.d (.v (.int .u8 45)))))),
sq 38 (.pick (.t 35) (kB true) (.t 37)),
sq 39 (.mv (.t 38)),
zg 40 39 false (.mv (.t 4)),
zg 41 39 false (.bin .eql (.t 40) (.k (.c (.d (.v (.int .u8 95)))))),
sq 42 (.pick (.t 39) (kB true) (.t 41)),
sq 43 (.mv (.t 42)),
zg 44 43 false (.mv (.t 4)),
zg 45 43 false (.bin .eql (.t 44) (.k (.c (.d (.v (.int .u8 47)))))),
sq 46 (.pick (.t 43) (kB true) (.t 45)),
sq 47 (.not (.t 46))]))
 (.cond (.t 47)
 (.seq (.reg [sq 2 (.mv (kB false))])
 .ret)
 .skip)))))
 (.reg [sq 48 (.bin .add (.t 7) (kI 1)),
sq 7 (.mv (.t 48))]))))))))
 (.seq (.sem (.reg [sq 49 (.mv (.t 0)),
sq 50 (.slen (.t 49)),
sq 51 (.bin .geq (.t 50) (kI 1)),
sq 52 (.mv (.t 51)),
zg 53 52 true (.mv (.t 0)),
zg 54 52 true (.slen (.t 53)),
zg 55 52 true (.bin .leq (.t 54) (kI 40)),
sq 56 (.pick (.t 52) (.t 55) (kB false)),
sq 2 (.mv (.t 56))]))
 .ret)))⟩
theorem a144_ok:afn Tryz.prog 144=some a144.er:=by kernel_rfl
theorem F144_ok{x0 r}(h:F144 x0=some r):CallD Tryz.prog 144 [.c (dS x0)] [] (tupV [.c (dB r)]) []:=by
 refine callS a144_ok (by simp[a144]) ?_
 rw[F144]at h
 simp only[a144,VW.down,Nat.reduceEqDiff,reduceCtorEq,Nat.reduceAdd,Nat.reduceLeDiff,Nat.reduceLT,Nat.reduceBEq,Nat.reduceSub,EE.down]
 obtain⟨o1,ho,h⟩:=bi h
 refine cutS (fun s=>∃po1,o1=Sum.inr po1∧s=⟨[(0,.one (.c (dS x0)))],[]⟩) ?_ ?_
 ·have h0o1:=h
  have h:=ho
  clear ho
  refine ww ?_
  refine bL (fun j s=>∃(o1_0:Int),s=⟨[(0,.one (.c (dS x0))),(6,.one (.c (dI ((x0.size:Int))))),(7,.one (.c (dI o1_0)))],[]⟩∧F144_l1 x0 j o1_0=some o1) 1099511627776 [] ⟨0,rfl,h⟩ ?_
  rintro j _ ⟨o1_0,rfl,h⟩
  cases j with
  |zero=>cases(show(none:Option _)=some _ from h)
  |succ j=>
   rw[F144_l1]at h
   refine ww ?_
   refine condSh h (fun c2 h=>?_) (fun c2 h=>?_)
   ·refine ww ?_
    obtain⟨y3,hy3,h⟩:=bi h
    refine t_sidx rfl rfl hy3 (ww ?_)
    obtain⟨o4,ho,h⟩:=bi h
    refine cutS (fun s=>s=⟨[(0,.one (.c (dS x0))),(6,.one (.c (dI ((x0.size:Int))))),(7,.one (.c (dI o1_0))),(47,.one (.c (dB o4)))],[]⟩) ?_ ?_
    ·have h:=ho
     clear ho
     refine ww ?_
     refine guardSh h (fun g5 h=>?_) (fun g5 h=>?_)
     ·refine ww ?_
      refine guardSh h (fun g6 h=>?_) (fun g6 h=>?_)
      ·refine ww ?_
       cases h
       exact eM [] rfl
      ·refine ww ?_
       refine guardSh h (fun g7 h=>?_) (fun g7 h=>?_)
       ·refine ww ?_
        refine guardSh h (fun g8 h=>?_) (fun g8 h=>?_)
        ·refine ww ?_
         cases h
         exact eM [] rfl
        ·refine ww ?_
         refine guardSh h (fun g9 h=>?_) (fun g9 h=>?_)
         ·refine ww ?_
          refine guardSh h (fun g10 h=>?_) (fun g10 h=>?_)
          ·refine ww ?_
           cases h
           exact eM [] rfl
          ·refine ww ?_
           refine guardSh h (fun g11 h=>?_) (fun g11 h=>?_)
           ·refine ww ?_
            cases h
            exact eM [] rfl
           ·refine ww ?_
            refine guardSh h (fun g12 h=>?_) (fun g12 h=>?_)
            ·refine ww ?_
             cases h
             exact eM [] rfl
            ·refine ww ?_
             cases h
             exact eM [] rfl
         ·refine ww ?_
          refine guardSh h (fun g13 h=>?_) (fun g13 h=>?_)
          ·refine ww ?_
           cases h
           exact eM [] rfl
          ·refine ww ?_
           refine guardSh h (fun g14 h=>?_) (fun g14 h=>?_)
           ·refine ww ?_
            cases h
            exact eM [] rfl
           ·refine ww ?_
            cases h
            exact eM [] rfl
       ·refine ww ?_
        refine guardSh h (fun g15 h=>?_) (fun g15 h=>?_)
        ·refine ww ?_
         refine guardSh h (fun g16 h=>?_) (fun g16 h=>?_)
         ·refine ww ?_
          cases h
          exact eM [] rfl
         ·refine ww ?_
          refine guardSh h (fun g17 h=>?_) (fun g17 h=>?_)
          ·refine ww ?_
           cases h
           exact eM [] rfl
          ·refine ww ?_
           refine guardSh h (fun g18 h=>?_) (fun g18 h=>?_)
           ·refine ww ?_
            cases h
            exact eM [] rfl
           ·refine ww ?_
            cases h
            exact eM [] rfl
        ·refine ww ?_
         refine guardSh h (fun g19 h=>?_) (fun g19 h=>?_)
         ·refine ww ?_
          cases h
          exact eM [] rfl
         ·refine ww ?_
          refine guardSh h (fun g20 h=>?_) (fun g20 h=>?_)
          ·refine ww ?_
           cases h
           exact eM [] rfl
          ·refine ww ?_
           cases h
           exact eM [] rfl
     ·refine ww ?_
      refine guardSh h (fun g21 h=>?_) (fun g21 h=>?_)
      ·refine ww ?_
       refine guardSh h (fun g22 h=>?_) (fun g22 h=>?_)
       ·refine ww ?_
        cases h
        exact eM [] rfl
       ·refine ww ?_
        refine guardSh h (fun g23 h=>?_) (fun g23 h=>?_)
        ·refine ww ?_
         refine guardSh h (fun g24 h=>?_) (fun g24 h=>?_)
         ·refine ww ?_
          cases h
          exact eM [] rfl
         ·refine ww ?_
          refine guardSh h (fun g25 h=>?_) (fun g25 h=>?_)
          ·refine ww ?_
           cases h
           exact eM [] rfl
          ·refine ww ?_
           refine guardSh h (fun g26 h=>?_) (fun g26 h=>?_)
           ·refine ww ?_
            cases h
            exact eM [] rfl
           ·refine ww ?_
            cases h
            exact eM [] rfl
        ·refine ww ?_
         refine guardSh h (fun g27 h=>?_) (fun g27 h=>?_)
         ·refine ww ?_
          cases h
          exact eM [] rfl
         ·refine ww ?_
          refine guardSh h (fun g28 h=>?_) (fun g28 h=>?_)
          ·refine ww ?_
           cases h
           exact eM [] rfl
          ·refine ww ?_
           cases h
           exact eM [] rfl
      ·refine ww ?_
       refine guardSh h (fun g29 h=>?_) (fun g29 h=>?_)
       ·refine ww ?_
        refine guardSh h (fun g30 h=>?_) (fun g30 h=>?_)
        ·refine ww ?_
         cases h
         exact eM [] rfl
        ·refine ww ?_
         refine guardSh h (fun g31 h=>?_) (fun g31 h=>?_)
         ·refine ww ?_
          cases h
          exact eM [] rfl
         ·refine ww ?_
          refine guardSh h (fun g32 h=>?_) (fun g32 h=>?_)
          ·refine ww ?_
           cases h
           exact eM [] rfl
          ·refine ww ?_
           cases h
           exact eM [] rfl
       ·refine ww ?_
        refine guardSh h (fun g33 h=>?_) (fun g33 h=>?_)
        ·refine ww ?_
         cases h
         exact eM [] rfl
        ·refine ww ?_
         refine guardSh h (fun g34 h=>?_) (fun g34 h=>?_)
         ·refine ww ?_
          cases h
          exact eM [] rfl
         ·refine ww ?_
          cases h
          exact eM [] rfl
    ·rintro _ rfl
     clear ho
     refine ww ?_
     refine condBh h (fun c35 h=>?_) (fun c35 h=>?_)
     ·refine ww ?_
      obtain⟨fh0o1,hfh0o1,rfl⟩:=Option.map_eq_some_iff.1 h
      have h:=hfh0o1.trans h0o1
      cases h
      exact eF []
     ·refine ww ?_
      exact eL' j [] ⟨(IntKind.i64.wrap (o1_0+1)),rfl,h⟩ (Nat.lt_succ_self _)
   ·refine ww ?_
    cases h
    exact eM [] ⟨_,rfl,rfl⟩
 rintro _ ⟨po1,rfl,rfl⟩
 clear ho
 dsimp only at h
 refine ww ?_
 obtain⟨o36,ho,h⟩:=bi h
 refine cutS (fun s=>s=⟨[(2,.one (.c (dB o36)))],[]⟩) ?_ ?_
 ·have h:=ho
  clear ho
  refine ww ?_
  refine guardSh h (fun g37 h=>?_) (fun g37 h=>?_)
  ·refine ww ?_
   cases h
   exact eM [] rfl
  refine ww ?_
  cases h
  exact eM [] rfl
 rintro _ rfl
 clear ho
 refine ww ?_
 cases h
 exact eF []
theorem a71_ok:afn Tryz.prog 71=some (cloneA 2 32):=by kernel_rfl
theorem F71_ok{x0 r:List Label}(h:cloneI x0=some r):CallD Tryz.prog 71 [.c (dM (x0.map eLabel))] [] (tupV [.c (.own 0 1 0 r.length none)]) [some (.arr 1 2 (r.map eLabel))]:=L_clone a71_ok (fun _=>rfl) h
theorem a73_ok:afn Tryz.prog 73=some (cloneA 2 40):=by kernel_rfl
theorem F73_ok{x0 r:List Manager}(h:cloneI x0=some r):CallD Tryz.prog 73 [.c (dM (x0.map eManager))] [] (tupV [.c (.own 0 1 0 r.length none)]) [some (.arr 1 2 (r.map eManager))]:=L_clone a73_ok (fun _=>rfl) h
def F126(x0:Int):Option (Unit):=some (())
def a126:AFn:=⟨6,[(.tmp 2)],
 (.seq (.reg [sq 2 (.mv (kB false))])
 (.seq (.reg [sq 3 (.mv (.t 0)),
sq 4 (.mv (.t 0)),
sq 5 (.bin .neq (.t 3) (.t 4)),
sq 2 (.mv (.t 5))])
 .ret))⟩
theorem a126_ok:afn Tryz.prog 126=some a126.er:=by kernel_rfl
theorem F126_ok{x0 r}(h:F126 x0=some r):CallD Tryz.prog 126 [.c (dI x0)] [] (tupV [.c (dB (decide (¬(True))))]) []:=by
 refine callS a126_ok (by simp[a126]) ?_
 rw[F126]at h
 simp only[a126,VW.down,Nat.reduceEqDiff,reduceCtorEq,Nat.reduceAdd,Nat.reduceLeDiff,Nat.reduceLT,Nat.reduceBEq,Nat.reduceSub,EE.down]
 cases h
 exact eF []
def F107_l1(rc50:TValue→TValue→Option (Int))(x1:(List TValue)):List TValue→Nat→Option ((Int) ⊕ (Unit))
 |[],o1_0=>some (Sum.inr (()))
 |xo1::xs,o1_0=>(if(x1.length:Int)≤(o1_0:Int)then(some 1).map Sum.inl else(rdI x1 ((o1_0:Int))).bind fun y4=>(rc50 xo1 y4).bind fun t5=>(if¬(t5=0)then(some t5).map Sum.inl else F107_l1 rc50 x1 xs (o1_0+1)))
def F107(rc50:TValue→TValue→Option (Int))(x0:(List TValue))(x1:(List TValue)):Option (Int):=(((ck (0≤x0.length∧x0.length≤4294967290)).bind fun u7=>F107_l1 rc50 x1 x0 0:Option ((Int) ⊕ (Unit))).bind fun o1=>match o1 with|Sum.inl f=>some f|Sum.inr po1=>(if(x0.length:Int)<(x1.length:Int)then some ((-1))else some 0))
def a107:AFn:=⟨39,[(.tmp 6)],
 (.seq (.reg [sq 6 (.mv (kI 0))])
 (.seq (.seq (.reg [sq 11 (.mv (.t 0)),
sq 12 (.len (.t 11)),
sq 13 (.mv (kI 0))])
 (.sem (.block 0 (.loop (.seq (.reg [sq 14 (.bin .lss (.t 13) (.t 12))])
 (.seq (.cond (.t 14)
 .skip
 (.exit 0))
 (.seq (.block 1 (.seq (.reg [sq 15 (.mv (.t 13)),
sq 16 (.indexA 5 (.t 11) (.t 13)),
sq 17 (.load (some 5) (.t 16)),
sq 8 (.zbox [dI 0,dI 0,dS ⟨#[]⟩,dN,dN]),
sq 7 (.mv (.t 15)),
su (.store 5 (.t 8) (.t 17))])
 (.seq (.seq (.reg [sq 18 (.mv (.t 7)),
sq 19 (.mv (.t 1)),
sq 20 (.len (.t 19)),
sq 21 (.bin .geq (.t 18) (.t 20))])
 (.cond (.t 21)
 (.seq (.reg [sq 6 (.mv (kI 1))])
 .ret)
 .skip))
 (.seq (.reg [sq 22 (.mv (.t 1)),
sq 23 (.mv (.t 7)),
sq 24 (.indexA 5 (.t 22) (.t 23)),
sq 25 (.load (some 5) (.t 24)),
sq 9 (.zbox [dI 0,dI 0,dS ⟨#[]⟩,dN,dN]),
su (.store 5 (.t 9) (.t 25))])
 (.seq (.reg [sq 26 (.mv (.t 2)),
sq 27 (.load (some 5) (.t 8)),
sq 28 (.load (some 5) (.t 9)),
sq 29 (.callv (.t 26) [(.t 27),(.t 28)]),
sq 10 (.mv (.t 29))])
 (.seq (.reg [sq 30 (.mv (.t 10)),
sq 31 (.bin .neq (.t 30) (kI 0))])
 (.cond (.t 31)
 (.seq (.reg [sq 32 (.mv (.t 10)),
sq 6 (.mv (.t 32))])
 .ret)
 .skip)))))))
 (.reg [sq 33 (.bin .add (.t 13) (kI 1)),
sq 13 (.mv (.t 33))]))))))))
 (.seq (.seq (.reg [sq 34 (.mv (.t 0)),
sq 35 (.len (.t 34)),
sq 36 (.mv (.t 1)),
sq 37 (.len (.t 36)),
sq 38 (.bin .lss (.t 35) (.t 37))])
 (.cond (.t 38)
 (.seq (.reg [sq 6 (.mv (kI (-1)))])
 .ret)
 .skip))
 (.seq (.reg [sq 6 (.mv (kI 0))])
 .ret))))⟩
theorem a107_ok:afn Tryz.prog 107=some a107.er:=by kernel_rfl
theorem F107_ok{rc50:TValue→TValue→Option (Int)}(ih50:∀{x0:TValue} {x1:TValue} {r:Int} (h:rc50 x0 x1=some r),CallD Tryz.prog 82 [.agg [dI x0.Kind,dI x0.N,dS x0.S,dM (x0.List_.map eTValue),dM (x0.Fields.map eTField)],.agg [dI x1.Kind,dI x1.N,dS x1.S,dM (x1.List_.map eTValue),dM (x1.Fields.map eTField)]] [] (tupV [.c (dI r)]) []){x0:(List TValue)}{x1:(List TValue)}{r:Int}(h:F107 rc50 x0 x1=some r):CallD Tryz.prog 107 [.c (dM (x0.map eTValue)),.c (dM (x1.map eTValue)),.c (.fn 82 [])] [] (tupV [.c (dI r)]) []:=by
 refine callS a107_ok (by simp[a107]) ?_
 rw[F107]at h
 simp only[a107,VW.down,Nat.reduceEqDiff,reduceCtorEq,Nat.reduceAdd,Nat.reduceLeDiff,Nat.reduceLT,Nat.reduceBEq,Nat.reduceSub,EE.down]
 obtain⟨o1,ho,h⟩:=bi h
 refine cutS (fun s=>∃po1,o1=Sum.inr po1∧s=⟨[(0,.one (.c (dM (x0.map eTValue)))),(1,.one (.c (dM (x1.map eTValue))))],[]⟩) ?_ ?_
 ·have h0o1:=h
  have h:=ho
  clear ho
  obtain⟨_,hk,h⟩:=bi h
  have hk:=ck_some hk
  refine ww ?_
  refine bL (fun j s=>∃(o1_0:Nat),(o1_0≤x0.length∧j=x0.length-o1_0)∧s=⟨[(0,.one (.c (dM (x0.map eTValue)))),(1,.one (.c (dM (x1.map eTValue)))),(2,.one (.c (.fn 82 []))),(11,.one (.c (dM (x0.map eTValue)))),(12,.one (.c (dI ((x0.length:Int))))),(13,.one (.c (dI ((o1_0:Int)))))],[]⟩∧F107_l1 rc50 x1 (x0.drop o1_0) o1_0=some o1) (x0.length-0) [] ⟨0,⟨hk.1,rfl⟩,rfl,h⟩ ?_
  rintro _ _ ⟨o1_0,⟨hi,rfl⟩,rfl,h⟩
  refine ww ?_
  refine condS (fun c2=>?_) (fun c2=>?_)
  ·obtain⟨xo1,hxo1,hd⟩:=countY (show(o1_0:Int)<(x0.length:Int)from c2)
   rw[hd,F107_l1]at h
   refine ww ?_
   refine t_idxF (enc:=eTValue) (xs:=x0) rfl rfl hxo1 (by rw[eTValue_u];rfl) (ww ?_)
   refine condSh h (fun c3 h=>?_) (fun c3 h=>?_)
   ·refine ww ?_
    obtain⟨fh0o1,hfh0o1,rfl⟩:=Option.map_eq_some_iff.1 h
    have h:=hfh0o1.trans h0o1
    cases h
    exact eF []
   refine ww ?_
   obtain⟨y4,hy4,h⟩:=bi h
   refine t_idxF (enc:=eTValue) (xs:=x1) rfl rfl hy4 (by rw[eTValue_u];rfl) (ww ?_)
   obtain⟨t5,ht5,h⟩:=bi h
   refine cN [] (ih50 ht5) trivial (ww ?_)
   refine condSh h (fun c6 h=>?_) (fun c6 h=>?_)
   ·refine ww ?_
    obtain⟨fh0o1,hfh0o1,rfl⟩:=Option.map_eq_some_iff.1 h
    have h:=hfh0o1.trans h0o1
    cases h
    exact eF []
   refine ww ?_
   rw[wrapN (by omega)]
   exact eL' (x0.length-(o1_0+1)) [] ⟨o1_0+1,⟨by omega,rfl⟩,rfl,h⟩ (by omega)
  rw[countN (show¬((o1_0:Int)<(x0.length:Int))from c2),F107_l1]at h
  refine ww ?_
  cases h
  exact eM [] ⟨_,rfl,rfl⟩
 rintro _ ⟨po1,rfl,rfl⟩
 clear ho
 dsimp only at h
 refine ww ?_
 refine condSh h (fun c8 h=>?_) (fun c8 h=>?_)
 ·refine ww ?_
  cases h
  exact eF []
 refine ww ?_
 cases h
 exact eF []
def F46(x0:Meta):Option (Unit):=some (())
def a46:AFn:=⟨10,[(.cell 2 (some 3))],
 (.seq (.reg [sq 1 (.box (.t 0)),
sq 2 (.zbox [dS ⟨#[]⟩,dS ⟨#[]⟩,dS ⟨#[]⟩])])
 (.seq (.reg [sq 3 (.fieldA 0 (.t 1)),
sq 4 (.load none (.t 3)),
sq 5 (.fieldA 1 (.t 1)),
sq 6 (.load none (.t 5)),
sq 7 (.fieldA 2 (.t 1)),
sq 8 (.load none (.t 7)),
sq 9 (.build [dS ⟨#[]⟩,dS ⟨#[]⟩,dS ⟨#[]⟩] [(0,1,(.t 4)),(1,1,(.t 6)),(2,1,(.t 8))]),
su (.store 3 (.t 2) (.t 9))])
 .ret))⟩
theorem a46_ok:afn Tryz.prog 46=some a46.er:=by kernel_rfl
theorem F46_ok{x0 r}(h:F46 x0=some r):CallD Tryz.prog 46 [.agg [dS x0.Kind,dS x0.Namespace,dS x0.Name,dI x0.Uid,dI x0.Version,dI x0.Generation,dI x0.Created,dB x0.Deleting,dI x0.DeleteAt,dM (x0.Labels.map eLabel),dM (x0.Owners.map eOwner),dM (x0.Finalizers.map eS),dM (x0.Managers.map eManager)]] [] (tupV [.agg [dS x0.Kind,dS x0.Namespace,dS x0.Name]]) []:=by
 refine callS a46_ok (by simp[a46]) ?_
 rw[F46]at h
 simp only[a46,VW.down,Nat.reduceEqDiff,reduceCtorEq,Nat.reduceAdd,Nat.reduceLeDiff,Nat.reduceLT,Nat.reduceBEq,Nat.reduceSub,EE.down]
 cases h
 exact eF []
def F48_l2(x1:(List Owner)):List Owner→Nat→Option ((Bool) ⊕ (Unit))
 |[],o2_0=>some (Sum.inr (()))
 |xo2::xs,o2_0=>(rdI x1 ((o2_0:Int))).bind fun y4=>(if(nb ((decide (xo2.Kind=y4.Kind)&&(decide (xo2.Name=y4.Name)&&(decide (xo2.Uid=y4.Uid)&&((xo2.Controller==y4.Controller)&&(xo2.Block==y4.Block)))))))=true then(some false).map Sum.inl else F48_l2 x1 xs (o2_0+1))
def F48(x0:(List Owner))(x1:(List Owner)):Option (Bool):=(if¬((x0.length:Int)=(x1.length:Int))then some false else(((ck (0≤x0.length∧x0.length≤4294967290)).bind fun u6=>F48_l2 x1 x0 0:Option ((Bool) ⊕ (Unit))).bind fun o2=>match o2 with|Sum.inl f=>some f|Sum.inr po2=>some true))
def a48:AFn:=⟨26,[(.tmp 4)],
 (.seq (.reg [sq 4 (.mv (kB false))])
 (.seq (.seq (.reg [sq 6 (.mv (.t 0)),
sq 7 (.len (.t 6)),
sq 8 (.mv (.t 1)),
sq 9 (.len (.t 8)),
sq 10 (.bin .neq (.t 7) (.t 9))])
 (.cond (.t 10)
 (.seq (.reg [sq 4 (.mv (kB false))])
 .ret)
 .skip))
 (.seq (.seq (.reg [sq 11 (.mv (.t 0)),
sq 12 (.len (.t 11)),
sq 13 (.mv (kI 0))])
 (.sem (.block 0 (.loop (.seq (.reg [sq 14 (.bin .lss (.t 13) (.t 12))])
 (.seq (.cond (.t 14)
 .skip
 (.exit 0))
 (.seq (.block 1 (.seq (.reg [sq 15 (.mv (.t 13)),
sq 5 (.mv (.t 15))])
 (.seq (.regd [sq 16 (.mv (.t 0)),
sq 17 (.mv (.t 5)),
sd 18 (.indexA 5 (.t 16) (.t 17)) [0,1],
sd 19 (.load (some 5) (.t 18)) [0,1,2],
sq 20 (.mv (.t 1)),
sq 21 (.mv (.t 5)),
sd 22 (.indexA 5 (.t 20) (.t 21)) [4,5],
sd 23 (.load (some 5) (.t 22)) [4,5,6],
zl 24 (.eqs true [(0,2),(1,2),(2,0),(3,1),(4,1)] (.t 19) (.t 23)) [0,1,2,3,4,5,6,7] []])
 (.cond (.t 24)
 (.seq (.reg [sq 4 (.mv (kB false))])
 .ret)
 .skip))))
 (.reg [sq 25 (.bin .add (.t 13) (kI 1)),
sq 13 (.mv (.t 25))]))))))))
 (.seq (.reg [sq 4 (.mv (kB true))])
 .ret))))⟩
theorem a48_ok:afn Tryz.prog 48=some a48.er:=by kernel_rfl
theorem F48_ok{x0 x1 r}(h:F48 x0 x1=some r):CallD Tryz.prog 48 [.c (dM (x0.map eOwner)),.c (dM (x1.map eOwner))] [] (tupV [.c (dB r)]) []:=by
 refine callS a48_ok (by simp[a48]) ?_
 rw[F48]at h
 simp only[a48,VW.down,Nat.reduceEqDiff,reduceCtorEq,Nat.reduceAdd,Nat.reduceLeDiff,Nat.reduceLT,Nat.reduceBEq,Nat.reduceSub,EE.down]
 refine condSh h (fun c1 h=>?_) (fun c1 h=>?_)
 ·refine ww ?_
  cases h
  exact eF []
 refine ww ?_
 obtain⟨o2,ho,h⟩:=bi h
 refine cutS (fun s=>∃po2,o2=Sum.inr po2∧s=⟨[],[]⟩) ?_ ?_
 ·have h0o2:=h
  have h:=ho
  clear ho
  obtain⟨_,hk,h⟩:=bi h
  have hk:=ck_some hk
  refine ww ?_
  refine bL (fun j s=>∃(o2_0:Nat),(o2_0≤x0.length∧j=x0.length-o2_0)∧s=⟨[(0,.one (.c (dM (x0.map eOwner)))),(1,.one (.c (dM (x1.map eOwner)))),(12,.one (.c (dI ((x0.length:Int))))),(13,.one (.c (dI ((o2_0:Int)))))],[]⟩∧F48_l2 x1 (x0.drop o2_0) o2_0=some o2) (x0.length-0) [] ⟨0,⟨hk.1,rfl⟩,rfl,h⟩ ?_
  rintro _ _ ⟨o2_0,⟨hi,rfl⟩,rfl,h⟩
  refine ww ?_
  refine condS (fun c3=>?_) (fun c3=>?_)
  ·obtain⟨xo2,hxo2,hd⟩:=countY (show(o2_0:Int)<(x0.length:Int)from c3)
   rw[hd,F48_l2]at h
   refine ww ?_
   refine t_idxF (enc:=eOwner) (xs:=x0) rfl rfl hxo2 rfl (ww ?_)
   obtain⟨y4,hy4,h⟩:=bi h
   refine t_idxF (enc:=eOwner) (xs:=x1) rfl rfl hy4 rfl (ww ?_)
   refine condBh h (fun c5 h=>?_) (fun c5 h=>?_)
   ·refine ww ?_
    obtain⟨fh0o2,hfh0o2,rfl⟩:=Option.map_eq_some_iff.1 h
    have h:=hfh0o2.trans h0o2
    cases h
    exact eF []
   refine ww ?_
   rw[wrapN (by omega)]
   exact eL' (x0.length-(o2_0+1)) [] ⟨o2_0+1,⟨by omega,rfl⟩,rfl,h⟩ (by omega)
  rw[countN (show¬((o2_0:Int)<(x0.length:Int))from c3),F48_l2]at h
  refine ww ?_
  cases h
  exact eM [] ⟨_,rfl,rfl⟩
 rintro _ ⟨po2,rfl,rfl⟩
 clear ho
 dsimp only at h
 refine ww ?_
 cases h
 exact eF []
def F31(x0:ByteArray):Option (Unit):=some (())
def a31:AFn:=⟨8,[(.cell 2 (some 3))],
 (.seq (.reg [zl 2 (.zbox [dS ⟨#[]⟩,dS ⟨#[]⟩,dN]) [] []])
 (.seq (.reg [sq 3 (.mv (.t 0)),
sq 4 (.bslice 1 [(.t 3)]),
sq 5 (.build [dS ⟨#[]⟩,dI 0,dN] [(0,1,(kS ⟨#[97,112,112]⟩)),(1,1,(kI 1)),(2,1,(.t 4))]),
sq 6 (.bslice 3 [(.t 5)]),
sq 7 (.build [dS ⟨#[]⟩,dS ⟨#[]⟩,dN] [(2,1,(.t 6))]),
su (.store 3 (.t 2) (.t 7))])
 .ret))⟩
theorem a31_ok:afn Tryz.prog 31=some a31.er:=by kernel_rfl
theorem F31_ok{x0 r}(h:F31 x0=some r):CallD Tryz.prog 31 [.c (dS x0)] [] (tupV [.agg [dS ((⟨#[]⟩:ByteArray)),dS ((⟨#[]⟩:ByteArray)),.own 0 0 0 (([(⟨(⟨#[97,112,112]⟩:ByteArray),1,[x0]⟩:Requirement)]).length) none]]) [some (.arr 0 3 (([(⟨(⟨#[97,112,112]⟩:ByteArray),1,[x0]⟩:Requirement)]).map eRequirement))]:=by
 refine callS a31_ok (by simp[a31]) ?_
 rw[F31]at h
 simp only[a31,VW.down,Nat.reduceEqDiff,reduceCtorEq,Nat.reduceAdd,Nat.reduceLeDiff,Nat.reduceLT,Nat.reduceBEq,Nat.reduceSub,EE.down]
 refine t_bslice (enc:=eS) (ys:=[x0]) rfl rfl (by simp[A1.cells]) (by first|rfl|(simp only[List.drop_zero,take_mapL];rfl)|(simp only[lit,List.map_cons,List.map_nil,List.drop_zero,take_mapL,EE.down];done)|(simp only[lit,List.map_cons,List.map_nil,List.drop_zero,take_mapL,EE.down];rfl)) (ww ?_)
 refine t_bslice (enc:=eRequirement) (ys:=[(⟨(⟨#[97,112,112]⟩:ByteArray),1,[x0]⟩:Requirement)]) rfl rfl (by simp[A1.cells]) (by first|rfl|(simp only[List.drop_zero,take_mapL];rfl)|(simp only[lit,List.map_cons,List.map_nil,List.drop_zero,take_mapL,EE.down];done)|(simp only[lit,List.map_cons,List.map_nil,List.drop_zero,take_mapL,EE.down];rfl)) (ww ?_)
 cases h
 exact eF [some 2]
theorem a68_ok:afn Tryz.prog 68=some (cloneA 3 48):=by kernel_rfl
theorem F68_ok{x0 r:List Requirement}(h:cloneI x0=some r):CallD Tryz.prog 68 [.c (dM (x0.map eRequirement))] [] (tupV [.c (.own 0 1 0 r.length none)]) [some (.arr 1 3 (r.map eRequirement))]:=L_clone a68_ok (fun _=>rfl) h
end Go.Proofs.YtondgcmdhkhkkaaGreat
