/- Each Go function as a function over typed data, and its walk. -/
import Derived.Test.YtbopaemngpbdgaaGreatW0
import Derived.Test.YtbopaemngpbdgaaGreatW1
import Derived.Test.YtbopaemngpbdgaaGreatW2
namespace Go.Proofs.YtbopaemngpbdgaaGreat
open Go Go.Fw Go.Shelf
set_option maxRecDepth 100000
set_option maxHeartbeats 4000000
set_option linter.unusedSimpArgs false
set_option linter.unusedVariables false
def F37(x0:Meta):Option (ByteArray):=(F78 x0.Kind x0.Namespace x0.Name).bind fun t1=>some t1
def a37:AFn:=⟨10,[(.tmp 2)],
 (.seq (.reg [sq 1 (.box (.t 0)),
sq 2 (.mv (kS ⟨#[]⟩))])
 (.seq (.reg [sq 3 (.fieldA 0 (.t 1)),
sq 4 (.load none (.t 3)),
sq 5 (.fieldA 1 (.t 1)),
sq 6 (.load none (.t 5)),
sq 7 (.fieldA 2 (.t 1)),
sq 8 (.load none (.t 7)),
sq 9 (.call 78 [(.t 4),(.t 6),(.t 8)]),
sq 2 (.mv (.t 9))])
 .ret))⟩
theorem F37_ok{x0 r}(h:F37 x0=some r):CallD Tryz.prog 37 [.agg [dS x0.Kind,dS x0.Namespace,dS x0.Name,dI x0.Uid,dI x0.Version,dI x0.Generation,dI x0.Created,dB x0.Deleting,dI x0.DeleteAt,dM (x0.Labels.map eLabel),dM (x0.Owners.map eOwner),dM (x0.Finalizers.map eS),dM (x0.Managers.map eManager)]] [] (tupV [.c (dS r)]) []:=by
 rw[F37]at h
 refine zc a37 (by kernel_rfl) rfl (ww ?_)
 obtain⟨t1,ht1,h⟩:=bi h
 refine cN [] (F78_ok ht1) trivial (ww ?_)
 cases h
 exact eF []
def F101(x0:ByteArray)(x1:ByteArray):Option (Int):=(cmpS x0 x1).bind fun t1=>some t1
def a101:AFn:=⟨8,[(.tmp 4)],
 (.seq (.reg [sq 4 (.mv (kI 0))])
 (.seq (.reg [sq 5 (.mv (.t 0)),
sq 6 (.mv (.t 1)),
sq 7 (.call 128 [(.t 5),(.t 6)]),
sq 4 (.mv (.t 7))])
 .ret))⟩
theorem F101_ok{x0 x1 r}(h:F101 x0 x1=some r):CallD Tryz.prog 101 [.c (dS x0),.c (dS x1)] [] (tupV [.c (dI r)]) []:=by
 rw[F101]at h
 refine zc a101 (by kernel_rfl) rfl (ww ?_)
 obtain⟨t1,ht1,h⟩:=bi h
 refine cN [] (F128_ok ht1) trivial (ww ?_)
 cases h
 exact eF []
def F104(x0:ByteArray):Option (Bool):=(((if x0=(⟨#[]⟩:ByteArray)then some true else(F105 x0).bind fun t3=>some t3)).bind fun o1=>some o1)
def a104:AFn:=⟨9,[(.tmp 2)],
 (.seq (.reg [sq 2 (.mv (kB false))])
 (.seq (.sem (.reg [sq 3 (.mv (.t 0)),
sq 4 (.bin .eql (.t 3) (kS ⟨#[]⟩)),
sq 5 (.mv (.t 4)),
zg 6 5 false (.mv (.t 0)),
zg 7 5 false (.call 105 [(.t 6)]),
sq 8 (.pick (.t 5) (kB true) (.t 7)),
sq 2 (.mv (.t 8))]))
 .ret))⟩
theorem F104_ok{x0 r}(h:F104 x0=some r):CallD Tryz.prog 104 [.c (dS x0)] [] (tupV [.c (dB r)]) []:=by
 rw[F104]at h
 refine zc a104 (by kernel_rfl) rfl (ww ?_)
 obtain⟨o1,ho,h⟩:=bi h
 refine cutS (fun s=>s=⟨[(2,.one (.c (dB o1)))],[]⟩) ?_ ?_
 ·have h:=ho
  clear ho
  refine ww ?_
  refine guardSh h (fun g2 h=>?_) (fun g2 h=>?_)
  ·refine ww ?_
   cases h
   exact eM [] rfl
  refine ww ?_
  obtain⟨t3,ht3,h⟩:=bi h
  refine cN [] (F105_ok ht3) trivial (ww ?_)
  cases h
  exact eM [] rfl
 rintro _ rfl
 clear ho
 refine ww ?_
 cases h
 exact eF []
def F109_l1(x0:(List Manager)):List Manager→Nat→Option ((Bool) ⊕ (Unit))
 |[],o1_0=>some (Sum.inr (()))
 |xo1::xs,o1_0=>(((F105 xo1.Name).bind fun t4=>(if(nb t4)=true then some true else(if 0<(o1_0:Int)then(rdI x0 ((IntKind.i64.wrap (((o1_0:Int))-1)))).bind fun y7=>(if(nb (Op.bytesLess y7.Name.toList xo1.Name.toList))=true then some true else(if(xo1.Fields.length:Int)<1 then some true else(if 600<(xo1.Fields.length:Int)then some true else(F132 xo1.Fields).bind fun t11=>some (nb t11))))else(if(xo1.Fields.length:Int)<1 then some true else(if 600<(xo1.Fields.length:Int)then some true else(F132 xo1.Fields).bind fun t14=>some (nb t14)))))).bind fun o3=>(if o3=true then(some false).map Sum.inl else F109_l1 x0 xs (o1_0+1)))
def F109(x0:(List Manager)):Option (Bool):=(((ck (0≤x0.length∧x0.length≤4294967290)).bind fun u16=>F109_l1 x0 x0 0:Option ((Bool) ⊕ (Unit))).bind fun o1=>match o1 with|Sum.inl f=>some f|Sum.inr po1=>some (decide ((x0.length:Int)≤16)))
def a109:AFn:=⟨53,[(.tmp 2)],
 (.seq (.reg [sq 2 (.mv (kB false))])
 (.seq (.seq (.reg [sq 5 (.mv (.t 0)),
sq 6 (.len (.t 5)),
sq 7 (.mv (kI 0))])
 (.sem (.block 0 (.loop (.seq (.reg [sq 8 (.bin .lss (.t 7) (.t 6))])
 (.seq (.cond (.t 8)
 .skip
 (.exit 0))
 (.seq (.block 1 (.seq (.reg [sq 9 (.mv (.t 7)),
sq 10 (.indexA 2 (.t 5) (.t 7)),
sq 11 (.load (some 2) (.t 10)),
sq 4 (.zbox [dS ⟨#[]⟩,dN]),
sq 3 (.mv (.t 9)),
su (.store 2 (.t 4) (.t 11))])
 (.seq (.sem (.regd [sq 12 (.fieldA 0 (.t 4)),
sd 13 (.load none (.t 12)) [0],
zl 14 (.call 105 [(.t 13)]) [0,1] [],
sd 15 (.not (.t 14)) [0,1,2],
sd 16 (.mv (.t 15)) [0,1,2,3],
⟨(some 17),(some (16,false)),.mv (.t 3),[0,1,2,3,4],(.new [])⟩,
⟨(some 18),(some (16,false)),.bin .gtr (.t 17) (kI 0),[0,1,2,3,4,5],(.new [])⟩,
⟨(some 19),(some (16,false)),.mv (.t 18),[0,1,2,3,4,5,6],(.new [])⟩,
⟨(some 20),(some (19,true)),.mv (.t 0),[0,1,2,3,4,5,6,7],(.new [])⟩,
⟨(some 21),(some (19,true)),.mv (.t 3),[0,1,2,3,4,5,6,7],(.new [])⟩,
⟨(some 22),(some (19,true)),.bin .sub (.t 21) (kI 1),[0,1,2,3,4,5,6,7,9],(.new [])⟩,
⟨(some 23),(some (19,true)),.indexA 2 (.t 20) (.t 22),[0,1,2,3,4,5,6,7,8,9,10],(.new [])⟩,
⟨(some 24),(some (19,true)),.fieldA 0 (.t 23),[0,1,2,3,4,5,6,7,8,9,10,11],(.new [])⟩,
⟨(some 25),(some (19,true)),.load none (.t 24),[0,1,2,3,4,5,6,7,8,9,10,11,12],(.new [])⟩,
⟨(some 26),(some (19,true)),.fieldA 0 (.t 4),[0,1,2,3,4,5,6,7],(.new [])⟩,
⟨(some 27),(some (19,true)),.load none (.t 26),[0,1,2,3,4,5,6,7,14],(.new [])⟩,
⟨(some 28),(some (19,true)),.bin .geq (.t 25) (.t 27),[0,1,2,3,4,5,6,7,8,9,10,11,12,13,14,15],(.new [])⟩,
⟨(some 29),(some (16,false)),.pick (.t 19) (.t 28) (kB false),[0,1,2,3,4,5,6,7,8,9,10,11,12,13,14,15,16],(.lone [])⟩,
zl 30 (.pick (.t 16) (kB true) (.t 29)) [0,1,2,3,4,5,6,7,8,9,10,11,12,13,14,15,16,17] [],
sd 31 (.mv (.t 30)) [0,1,2,3,4,5,6,7,8,9,10,11,12,13,14,15,16,17,18],
⟨(some 32),(some (31,false)),.fieldA 1 (.t 4),[0,1,2,3,4,5,6,7,8,9,10,11,12,13,14,15,16,17,18,19],(.new [])⟩,
⟨(some 33),(some (31,false)),.load none (.t 32),[0,1,2,3,4,5,6,7,8,9,10,11,12,13,14,15,16,17,18,19,20],(.new [])⟩,
⟨(some 34),(some (31,false)),.len (.t 33),[0,1,2,3,4,5,6,7,8,9,10,11,12,13,14,15,16,17,18,19,20,21],(.new [])⟩,
⟨(some 35),(some (31,false)),.bin .lss (.t 34) (kI 1),[0,1,2,3,4,5,6,7,8,9,10,11,12,13,14,15,16,17,18,19,20,21,22],(.new [])⟩,
zl 36 (.pick (.t 31) (kB true) (.t 35)) [0,1,2,3,4,5,6,7,8,9,10,11,12,13,14,15,16,17,18,19,20,21,22,23] [],
sd 37 (.mv (.t 36)) [0,1,2,3,4,5,6,7,8,9,10,11,12,13,14,15,16,17,18,19,20,21,22,23,24],
⟨(some 38),(some (37,false)),.fieldA 1 (.t 4),[0,1,2,3,4,5,6,7,8,9,10,11,12,13,14,15,16,17,18,19,20,21,22,23,24,25],(.new [])⟩,
⟨(some 39),(some (37,false)),.load none (.t 38),[0,1,2,3,4,5,6,7,8,9,10,11,12,13,14,15,16,17,18,19,20,21,22,23,24,25,26],(.new [])⟩,
⟨(some 40),(some (37,false)),.len (.t 39),[0,1,2,3,4,5,6,7,8,9,10,11,12,13,14,15,16,17,18,19,20,21,22,23,24,25,26,27],(.new [])⟩,
⟨(some 41),(some (37,false)),.bin .gtr (.t 40) (kI 600),[0,1,2,3,4,5,6,7,8,9,10,11,12,13,14,15,16,17,18,19,20,21,22,23,24,25,26,27,28],(.new [])⟩,
zl 42 (.pick (.t 37) (kB true) (.t 41)) [0,1,2,3,4,5,6,7,8,9,10,11,12,13,14,15,16,17,18,19,20,21,22,23,24,25,26,27,28,29] [],
sd 43 (.mv (.t 42)) [0,1,2,3,4,5,6,7,8,9,10,11,12,13,14,15,16,17,18,19,20,21,22,23,24,25,26,27,28,29,30],
⟨(some 44),(some (43,false)),.fieldA 1 (.t 4),[0,1,2,3,4,5,6,7,8,9,10,11,12,13,14,15,16,17,18,19,20,21,22,23,24,25,26,27,28,29,30,31],(.new [])⟩,
⟨(some 45),(some (43,false)),.load none (.t 44),[0,1,2,3,4,5,6,7,8,9,10,11,12,13,14,15,16,17,18,19,20,21,22,23,24,25,26,27,28,29,30,31,32],(.new [])⟩,
⟨(some 46),(some (43,false)),.call 132 [(.t 45)],[0,1,2,3,4,5,6,7,8,9,10,11,12,13,14,15,16,17,18,19,20,21,22,23,24,25,26,27,28,29,30,31,32,33],(.lone [])⟩,
⟨(some 47),(some (43,false)),.not (.t 46),[0,1,2,3,4,5,6,7,8,9,10,11,12,13,14,15,16,17,18,19,20,21,22,23,24,25,26,27,28,29,30,31,32,33,34],(.new [])⟩,
zl 48 (.pick (.t 43) (kB true) (.t 47)) [0,1,2,3,4,5,6,7,8,9,10,11,12,13,14,15,16,17,18,19,20,21,22,23,24,25,26,27,28,29,30,31,32,33,34,35] []]))
 (.cond (.t 48)
 (.seq (.reg [sq 2 (.mv (kB false))])
 .ret)
 .skip))))
 (.reg [sq 49 (.bin .add (.t 7) (kI 1)),
sq 7 (.mv (.t 49))]))))))))
 (.seq (.reg [sq 50 (.mv (.t 0)),
sq 51 (.len (.t 50)),
sq 52 (.bin .leq (.t 51) (kI 16)),
sq 2 (.mv (.t 52))])
 .ret)))⟩
theorem F109_ok{x0 r}(h:F109 x0=some r):CallD Tryz.prog 109 [.c (dM (x0.map eManager))] [] (tupV [.c (dB r)]) []:=by
 rw[F109]at h
 refine zc a109 (by kernel_rfl) rfl (ww ?_)
 obtain⟨o1,ho,h⟩:=bi h
 refine cutS (fun s=>∃po1,o1=Sum.inr po1∧s=⟨[(0,.one (.c (dM (x0.map eManager))))],[]⟩) ?_ ?_
 ·have h0o1:=h
  have h:=ho
  clear ho
  obtain⟨_,hk,h⟩:=bi h
  have hk:=ck_some hk
  refine ww ?_
  refine bL (fun j s=>∃(o1_0:Nat),(o1_0≤x0.length∧j=x0.length-o1_0)∧s=⟨[(0,.one (.c (dM (x0.map eManager)))),(5,.one (.c (dM (x0.map eManager)))),(6,.one (.c (dI ((x0.length:Int))))),(7,.one (.c (dI ((o1_0:Int)))))],[]⟩∧F109_l1 x0 (x0.drop o1_0) o1_0=some o1) (x0.length-0) [] ⟨0,⟨hk.1,rfl⟩,rfl,h⟩ ?_
  rintro _ _ ⟨o1_0,⟨hi,rfl⟩,rfl,h⟩
  refine ww ?_
  refine condS (fun c2=>?_) (fun c2=>?_)
  ·obtain⟨xo1,hxo1,hd⟩:=countY (show(o1_0:Int)<(x0.length:Int)from c2)
   rw[hd,F109_l1]at h
   refine ww ?_
   refine t_idxF (enc:=eManager) (xs:=x0) rfl rfl hxo1 rfl (ww ?_)
   obtain⟨o3,ho,h⟩:=bi h
   refine cutS (fun s=>s=⟨[(0,.one (.c (dM (x0.map eManager)))),(5,.one (.c (dM (x0.map eManager)))),(6,.one (.c (dI ((x0.length:Int))))),(7,.one (.c (dI ((o1_0:Int))))),(48,.one (.c (dB o3)))],[]⟩) ?_ ?_
   ·have h:=ho
    clear ho
    refine ww ?_
    obtain⟨t4,ht4,h⟩:=bi h
    refine cN [] (F105_ok ht4) trivial (ww ?_)
    refine guardDBh h (fun g5 h=>?_) (fun g5 h=>?_)
    ·refine ww ?_
     cases h
     exact eM [] rfl
    refine ww ?_
    refine guardDh h (fun g6 h=>?_) (fun g6 h=>?_)
    ·refine ww ?_
     obtain⟨y7,hy7,h⟩:=bi h
     refine t_idxF (enc:=eManager) (xs:=x0) rfl rfl hy7 rfl (ww ?_)
     refine guardDBh h (fun g8 h=>?_) (fun g8 h=>?_)
     ·refine ww ?_
      cases h
      exact eM [] rfl
     refine ww ?_
     refine guardDh h (fun g9 h=>?_) (fun g9 h=>?_)
     ·refine ww ?_
      cases h
      exact eM [] rfl
     refine ww ?_
     refine guardDh h (fun g10 h=>?_) (fun g10 h=>?_)
     ·refine ww ?_
      cases h
      exact eM [] rfl
     refine ww ?_
     obtain⟨t11,ht11,h⟩:=bi h
     refine cN [] (F132_ok ht11) trivial (ww ?_)
     cases h
     exact eM [] rfl
    refine ww ?_
    refine guardDh h (fun g12 h=>?_) (fun g12 h=>?_)
    ·refine ww ?_
     cases h
     exact eM [] rfl
    refine ww ?_
    refine guardDh h (fun g13 h=>?_) (fun g13 h=>?_)
    ·refine ww ?_
     cases h
     exact eM [] rfl
    refine ww ?_
    obtain⟨t14,ht14,h⟩:=bi h
    refine cN [] (F132_ok ht14) trivial (ww ?_)
    cases h
    exact eM [] rfl
   rintro _ rfl
   clear ho
   refine ww ?_
   refine condBh h (fun c15 h=>?_) (fun c15 h=>?_)
   ·refine ww ?_
    obtain⟨fh0o1,hfh0o1,rfl⟩:=Option.map_eq_some_iff.1 h
    have h:=hfh0o1.trans h0o1
    cases h
    exact eF []
   refine ww ?_
   rw[wrapN (by omega)]
   exact eL' (x0.length-(o1_0+1)) [] ⟨o1_0+1,⟨by omega,rfl⟩,rfl,h⟩ (by omega)
  rw[countN (show¬((o1_0:Int)<(x0.length:Int))from c2),F109_l1]at h
  refine ww ?_
  cases h
  exact eM [] ⟨_,rfl,rfl⟩
 rintro _ ⟨po1,rfl,rfl⟩
 clear ho
 dsimp only at h
 refine ww ?_
 cases h
 exact eF []
def F133(x0:TValue):Option (Bool):=(if x0.Kind=1 then(((if x0.S=(⟨#[]⟩:ByteArray)then(if x0.N=0 then some true else some (decide (x0.N=1)))else some false)).bind fun o2=>some o2)else(if x0.Kind=2 then(((if x0.S=(⟨#[]⟩:ByteArray)then(if(-1000000000000000)≤x0.N then some (decide (x0.N≤1000000000000000))else some false)else some false)).bind fun o6=>some o6)else(if x0.Kind=3 then(((if x0.N=0 then(F145 x0.S).bind fun t12=>some t12 else some false)).bind fun o10=>some o10)else(((if x0.Kind=0 then some (decide (x0.Kind=0))else(if x0.Kind=4 then some (decide (x0.Kind=4))else some (decide (x0.Kind=5))))).bind fun o13=>(if o13=true then(((if x0.N=0 then some (decide (x0.S=(⟨#[]⟩:ByteArray)))else some false)).bind fun o17=>some o17)else some false)))))
def a133:AFn:=⟨57,[(.tmp 2)],
 (.seq (.reg [sq 1 (.box (.t 0)),
sq 2 (.mv (kB false))])
 (.seq (.seq (.reg [sq 3 (.fieldA 0 (.t 1)),
sq 4 (.load none (.t 3))])
 (.block 0 (.seq (.reg [sq 6 (.bin .eql (.t 4) (kI 1)),
sq 5 (.mv (.t 6))])
 (.cond (.t 5)
 (.seq (.sem (.reg [sq 7 (.fieldA 2 (.t 1)),
sq 8 (.load none (.t 7)),
sq 9 (.bin .eql (.t 8) (kS ⟨#[]⟩)),
sq 10 (.mv (.t 9)),
zg 11 10 true (.fieldA 1 (.t 1)),
zg 12 10 true (.load none (.t 11)),
zg 13 10 true (.bin .eql (.t 12) (kI 0)),
zg 14 10 true (.mv (.t 13)),
zg 15 14 false (.fieldA 1 (.t 1)),
zg 16 14 false (.load none (.t 15)),
zg 17 14 false (.bin .eql (.t 16) (kI 1)),
zg 18 10 true (.pick (.t 14) (kB true) (.t 17)),
sq 19 (.pick (.t 10) (.t 18) (kB false)),
sq 2 (.mv (.t 19))]))
 .ret)
 (.seq (.reg [sq 21 (.bin .eql (.t 4) (kI 2)),
sq 20 (.mv (.t 21))])
 (.cond (.t 20)
 (.seq (.sem (.reg [sq 22 (.fieldA 2 (.t 1)),
sq 23 (.load none (.t 22)),
sq 24 (.bin .eql (.t 23) (kS ⟨#[]⟩)),
sq 25 (.mv (.t 24)),
zg 26 25 true (.fieldA 1 (.t 1)),
zg 27 25 true (.load none (.t 26)),
zg 28 25 true (.bin .geq (.t 27) (kI (-1000000000000000))),
sq 29 (.pick (.t 25) (.t 28) (kB false)),
sq 30 (.mv (.t 29)),
zg 31 30 true (.fieldA 1 (.t 1)),
zg 32 30 true (.load none (.t 31)),
zg 33 30 true (.bin .leq (.t 32) (kI 1000000000000000)),
sq 34 (.pick (.t 30) (.t 33) (kB false)),
sq 2 (.mv (.t 34))]))
 .ret)
 (.seq (.reg [sq 36 (.bin .eql (.t 4) (kI 3)),
sq 35 (.mv (.t 36))])
 (.cond (.t 35)
 (.seq (.sem (.reg [sq 37 (.fieldA 1 (.t 1)),
sq 38 (.load none (.t 37)),
sq 39 (.bin .eql (.t 38) (kI 0)),
sq 40 (.mv (.t 39)),
zg 41 40 true (.fieldA 2 (.t 1)),
zg 42 40 true (.load none (.t 41)),
zg 43 40 true (.call 145 [(.t 42)]),
sq 44 (.pick (.t 40) (.t 43) (kB false)),
sq 2 (.mv (.t 44))]))
 .ret)
 (.seq (.sem (.seq (.reg [sq 46 (.bin .eql (.t 4) (kI 0)),
sq 45 (.mv (.t 46))])
 (.cond (.t 45)
 .skip
 (.seq (.reg [sq 47 (.bin .eql (.t 4) (kI 4)),
sq 45 (.mv (.t 47))])
 (.cond (.t 45)
 .skip
 (.reg [sq 48 (.bin .eql (.t 4) (kI 5)),
sq 45 (.mv (.t 48))]))))))
 (.cond (.t 45)
 (.seq (.sem (.reg [sq 49 (.fieldA 1 (.t 1)),
sq 50 (.load none (.t 49)),
sq 51 (.bin .eql (.t 50) (kI 0)),
sq 52 (.mv (.t 51)),
zg 53 52 true (.fieldA 2 (.t 1)),
zg 54 52 true (.load none (.t 53)),
zg 55 52 true (.bin .eql (.t 54) (kS ⟨#[]⟩)),
sq 56 (.pick (.t 52) (.t 55) (kB false)),
sq 2 (.mv (.t 56))]))
 .ret)
 .skip))))))))))
 (.seq (.reg [sq 2 (.mv (kB false))])
 .ret)))⟩
theorem F133_ok{x0 r}(h:F133 x0=some r):CallD Tryz.prog 133 [.agg [dI x0.Kind,dI x0.N,dS x0.S,dM (x0.List_.map eTValue),dM (x0.Fields.map eTField)]] [] (tupV [.c (dB r)]) []:=by
 rw[F133]at h
 refine zc a133 (by kernel_rfl) rfl (ww ?_)
 refine condSh h (fun c1 h=>?_) (fun c1 h=>?_)
 ·refine ww ?_
  obtain⟨o2,ho,h⟩:=bi h
  refine cutS (fun s=>s=⟨[(2,.one (.c (dB o2)))],[]⟩) ?_ ?_
  ·have h:=ho
   clear ho
   refine ww ?_
   refine guardSh h (fun g3 h=>?_) (fun g3 h=>?_)
   ·refine ww ?_
    refine guardSh h (fun g4 h=>?_) (fun g4 h=>?_)
    ·refine ww ?_
     cases h
     exact eM [] rfl
    refine ww ?_
    cases h
    exact eM [] rfl
   refine ww ?_
   cases h
   exact eM [] rfl
  rintro _ rfl
  clear ho
  refine ww ?_
  cases h
  exact eF []
 refine ww ?_
 refine condSh h (fun c5 h=>?_) (fun c5 h=>?_)
 ·refine ww ?_
  obtain⟨o6,ho,h⟩:=bi h
  refine cutS (fun s=>s=⟨[(2,.one (.c (dB o6)))],[]⟩) ?_ ?_
  ·have h:=ho
   clear ho
   refine ww ?_
   refine guardSh h (fun g7 h=>?_) (fun g7 h=>?_)
   ·refine ww ?_
    refine guardSh h (fun g8 h=>?_) (fun g8 h=>?_)
    ·refine ww ?_
     cases h
     exact eM [] rfl
    refine ww ?_
    cases h
    exact eM [] rfl
   refine ww ?_
   cases h
   exact eM [] rfl
  rintro _ rfl
  clear ho
  refine ww ?_
  cases h
  exact eF []
 refine ww ?_
 refine condSh h (fun c9 h=>?_) (fun c9 h=>?_)
 ·refine ww ?_
  obtain⟨o10,ho,h⟩:=bi h
  refine cutS (fun s=>s=⟨[(2,.one (.c (dB o10)))],[]⟩) ?_ ?_
  ·have h:=ho
   clear ho
   refine ww ?_
   refine guardSh h (fun g11 h=>?_) (fun g11 h=>?_)
   ·refine ww ?_
    obtain⟨t12,ht12,h⟩:=bi h
    refine cN [] (F145_ok ht12) trivial (ww ?_)
    cases h
    exact eM [] rfl
   refine ww ?_
   cases h
   exact eM [] rfl
  rintro _ rfl
  clear ho
  refine ww ?_
  cases h
  exact eF []
 refine ww ?_
 obtain⟨o13,ho,h⟩:=bi h
 refine cutS (fun s=>s=⟨[(1,.one (.c (.pt 0 0))),(45,.one (.c (dB o13)))],[some (.box [dI x0.Kind,dI x0.N,dS x0.S,dM (x0.List_.map eTValue),dM (x0.Fields.map eTField)])]⟩) ?_ ?_
 ·have h:=ho
  clear ho
  refine ww ?_
  refine condSh h (fun c14 h=>?_) (fun c14 h=>?_)
  ·refine ww ?_
   cases h
   exact eM [some 0] rfl
  refine ww ?_
  refine condSh h (fun c15 h=>?_) (fun c15 h=>?_)
  ·refine ww ?_
   cases h
   exact eM [some 0] rfl
  refine ww ?_
  cases h
  exact eM [some 0] rfl
 rintro _ rfl
 clear ho
 refine ww ?_
 refine condBh h (fun c16 h=>?_) (fun c16 h=>?_)
 ·refine ww ?_
  obtain⟨o17,ho,h⟩:=bi h
  refine cutS (fun s=>s=⟨[(2,.one (.c (dB o17)))],[]⟩) ?_ ?_
  ·have h:=ho
   clear ho
   refine ww ?_
   refine guardSh h (fun g18 h=>?_) (fun g18 h=>?_)
   ·refine ww ?_
    cases h
    exact eM [] rfl
   refine ww ?_
   cases h
   exact eM [] rfl
  rintro _ rfl
  clear ho
  refine ww ?_
  cases h
  exact eF []
 refine ww ?_
 cases h
 exact eF []
def F129_l2(rc33:TValue→Option ((List TValue)×(List TField))):List TValue→Nat→(List TValue)→Option ((List TValue))
 |[],o2_1,o2_0=>some o2_0
 |xo2::xs,o2_1,o2_0=>(rdI o2_0 ((o2_1:Int))).bind fun y4=>(rc33 y4).bind fun t5=>(rdI o2_0 ((o2_1:Int))).bind fun y6=>F129_l2 rc33 xs (o2_1+1) ((o2_0.set ((o2_1:Int)).toNat ((⟨y4.Kind,y4.N,y4.S,t5.1,t5.2⟩:TValue))))
def F129_l9(rc33:TValue→Option ((List TValue)×(List TField))):List TField→Nat→(List TField)→Option ((List TField))
 |[],o9_1,o9_0=>some o9_0
 |xo9::xs,o9_1,o9_0=>(rdI o9_0 ((o9_1:Int))).bind fun y11=>(rc33 y11.V).bind fun t12=>(rdI o9_0 ((o9_1:Int))).bind fun y13=>F129_l9 rc33 xs (o9_1+1) ((o9_0.set ((o9_1:Int)).toNat ((⟨y13.Name,(⟨y11.V.Kind,y11.V.N,y11.V.S,t12.1,t12.2⟩:TValue)⟩:TField))))
def F129(rc33:TValue→Option ((List TValue)×(List TField)))(x0:TValue):Option ((List TValue)×(List TField)):=(cloneI x0.List_).bind fun t1=>(((ck (0≤t1.length∧t1.length≤4294967290)).bind fun u7=>F129_l2 rc33 t1 0 t1).bind fun o2=>(cloneI x0.Fields).bind fun t8=>(((ck (0≤t8.length∧t8.length≤4294967290)).bind fun u14=>F129_l9 rc33 t8 0 t8).bind fun o9=>some ((o2,o9))))
def a129:AFn:=⟨48,[(.cell 2 (some 5))],
 (.seq (.reg [sq 1 (.box (.t 0)),
sq 2 (.zbox [dI 0,dI 0,dS ⟨#[]⟩,dN,dN])])
 (.seq (.reg [sq 7 (.fieldA 3 (.t 1)),
sq 8 (.load none (.t 7)),
sq 9 (.call 142 [(.t 8)]),
sq 10 (.fieldA 3 (.t 1)),
su (.store 1 (.t 10) (.t 9))])
 (.seq (.seq (.reg [sq 11 (.fieldA 3 (.t 1)),
sq 12 (.load none (.t 11)),
sq 13 (.len (.t 12)),
sq 14 (.mv (kI 0))])
 (.sem (.block 0 (.loop (.seq (.reg [sq 15 (.bin .lss (.t 14) (.t 13))])
 (.seq (.cond (.t 15)
 .skip
 (.exit 0))
 (.seq (.block 1 (.seq (.reg [sq 16 (.mv (.t 14)),
sq 17 (.indexA 5 (.t 12) (.t 14)),
sq 18 (.load (some 5) (.t 17)),
sq 4 (.zbox [dI 0,dI 0,dS ⟨#[]⟩,dN,dN]),
sq 3 (.mv (.t 16)),
su (.store 5 (.t 4) (.t 18))])
 (.regd [sq 19 (.fieldA 3 (.t 1)),
sd 20 (.load none (.t 19)) [0],
sq 21 (.mv (.t 3)),
sq 22 (.load (some 5) (.t 4)),
zl 23 (.call 129 [(.t 22)]) [3] [1,19],
sd 24 (.indexA 5 (.t 20) (.t 21)) [0,1,2,3,4],
⟨none,none,.store 5 (.t 24) (.t 23),[0,1,2,3,4,5],(.lone [])⟩])))
 (.reg [sq 25 (.bin .add (.t 14) (kI 1)),
sq 14 (.mv (.t 25))]))))))))
 (.seq (.reg [sq 26 (.fieldA 4 (.t 1)),
sq 27 (.load none (.t 26)),
sq 28 (.call 143 [(.t 27)]),
sq 29 (.fieldA 4 (.t 1)),
su (.store 1 (.t 29) (.t 28))])
 (.seq (.seq (.reg [sq 30 (.fieldA 4 (.t 1)),
sq 31 (.load none (.t 30)),
sq 32 (.len (.t 31)),
sq 33 (.mv (kI 0))])
 (.sem (.block 2 (.loop (.seq (.reg [sq 34 (.bin .lss (.t 33) (.t 32))])
 (.seq (.cond (.t 34)
 .skip
 (.exit 2))
 (.seq (.block 3 (.seq (.reg [sq 35 (.mv (.t 33)),
sq 36 (.indexA 6 (.t 31) (.t 33)),
sq 37 (.load (some 6) (.t 36)),
sq 6 (.zbox [dS ⟨#[]⟩,dI 0,dI 0,dS ⟨#[]⟩,dN,dN]),
sq 5 (.mv (.t 35)),
su (.store 6 (.t 6) (.t 37))])
 (.regd [sq 38 (.fieldA 4 (.t 1)),
sd 39 (.load none (.t 38)) [0],
sq 40 (.mv (.t 5)),
sq 41 (.fieldA 1 (.t 6)),
sd 42 (.load (some 5) (.t 41)) [3],
zl 43 (.call 129 [(.t 42)]) [3,4] [1,38],
sd 44 (.indexA 6 (.t 39) (.t 40)) [0,1,2,3,4,5],
sd 45 (.fieldA 1 (.t 44)) [0,1,2,3,4,5,6],
⟨none,none,.store 5 (.t 45) (.t 43),[0,1,2,3,4,5,6,7],(.lone [])⟩])))
 (.reg [sq 46 (.bin .add (.t 33) (kI 1)),
sq 33 (.mv (.t 46))]))))))))
 (.seq (.reg [sq 47 (.load (some 5) (.t 1)),
⟨none,none,.store 5 (.t 2) (.t 47),[],(.lone [1])⟩])
 .ret))))))⟩
theorem F129_ok{rc33:TValue→Option ((List TValue)×(List TField))}(ih33:∀{x0:TValue} {r:(List TValue)×(List TField)} (h:rc33 x0=some r),CallD Tryz.prog 129 [.agg [dI x0.Kind,dI x0.N,dS x0.S,dM (x0.List_.map eTValue),dM (x0.Fields.map eTField)]] [] (tupV [.agg [dI x0.Kind,dI x0.N,dS x0.S,.own 0 0 0 (r.1.length) none,.own 1 0 0 (r.2.length) none]]) [some (.arr 0 5 (r.1.map eTValue)),some (.arr 0 6 (r.2.map eTField))]){x0:TValue}{r:(List TValue)×(List TField)}(h:F129 rc33 x0=some r):CallD Tryz.prog 129 [.agg [dI x0.Kind,dI x0.N,dS x0.S,dM (x0.List_.map eTValue),dM (x0.Fields.map eTField)]] [] (tupV [.agg [dI x0.Kind,dI x0.N,dS x0.S,.own 0 0 0 (r.1.length) none,.own 1 0 0 (r.2.length) none]]) [some (.arr 0 5 (r.1.map eTValue)),some (.arr 0 6 (r.2.map eTField))]:=by
 rw[F129]at h
 refine zc a129 (by kernel_rfl) rfl (ww ?_)
 obtain⟨t1,ht1,h⟩:=bi h
 refine cN [] (F142_ok ht1) trivial (ww ?_)
 obtain⟨o2,ho,h⟩:=bi h
 refine cutS (fun s=>s=⟨[(1,.one (.c (.pt 0 0))),(2,.one (.c (.pt 2 0)))],[some (.box [dI x0.Kind,dI x0.N,dS x0.S,.own 1 0 0 (o2.length) none,dM (x0.Fields.map eTField)]),some (.arr 0 5 (o2.map eTValue)),some (.box [dI 0,dI 0,dS ((⟨#[]⟩:ByteArray)),dN,dN])]⟩) ?_ ?_
 ·have h:=ho
  clear ho
  obtain⟨_,hk,h⟩:=bi h
  have hk:=ck_some hk
  refine ww ?_
  refine bL (fun j s=>∃(o2_1:Nat) (o2_0:List TValue),(o2_1≤t1.length∧j=t1.length-o2_1)∧s=⟨[(1,.one (.c (.pt 0 0))),(2,.one (.c (.pt 2 0))),(12,.one (.c (.own 1 0 0 (o2_0.length) none))),(13,.one (.c (dI ((t1.length:Int))))),(14,.one (.c (dI ((o2_1:Int)))))],[some (.box [dI x0.Kind,dI x0.N,dS x0.S,.own 1 0 0 (o2_0.length) none,dM (x0.Fields.map eTField)]),some (.arr 0 5 (o2_0.map eTValue)),some (.box [dI 0,dI 0,dS ((⟨#[]⟩:ByteArray)),dN,dN])]⟩∧F129_l2 rc33 (t1.drop o2_1) o2_1 o2_0=some o2) (t1.length-0) [some 0,some 2,some 1] ⟨0,t1,⟨hk.1,rfl⟩,rfl,h⟩ ?_
  rintro _ _ ⟨o2_1,o2_0,⟨hi,rfl⟩,rfl,h⟩
  refine ww ?_
  refine condS (fun c3=>?_) (fun c3=>?_)
  ·obtain⟨xo2,hxo2,hd⟩:=countY (show(o2_1:Int)<(t1.length:Int)from c3)
   rw[hd,F129_l2]at h
   refine ww ?_
   obtain⟨y4,hy4,h⟩:=bi h
   refine t_idxO (enc:=eTValue) (xs:=o2_0) rfl rfl rfl (by first|rfl|simp only[List.length_set]|exact(clrL_len (slI_len (by assumption))).symm) hy4 (ww ?_)
   refine LdRow.rd (rdI_some hy4).2.1 (ww ?_)
   obtain⟨t5,ht5,h⟩:=bi h
   refine cN [] (ih33 ht5) trivial (ww ?_)
   obtain⟨y6,hy6,h⟩:=bi h
   refine t_idxO (enc:=eTValue) (xs:=o2_0) rfl rfl rfl (by first|rfl|simp only[List.length_set]|exact(clrL_len (slI_len (by assumption))).symm) hy6 (ww ?_)
   refine StRow.rd (y':=(⟨y4.Kind,y4.N,y4.S,t5.1,t5.2⟩:TValue)) (rdI_some hy6).2.1 (by simp[EE.down]) (by first|rfl|(simp only[bor_full'];rfl)|(simp only[eTValue_u,bor_full'];rfl)) (ww ?_)
   rw[wrapN (by omega)]
   exact eL' (t1.length-(o2_1+1)) [some 0,some 1,some 2] ⟨o2_1+1,(o2_0.set ((o2_1:Int)).toNat ((⟨y4.Kind,y4.N,y4.S,t5.1,t5.2⟩:TValue))),⟨by omega,rfl⟩,rfl,h⟩ (by omega)
  rw[countN (show¬((o2_1:Int)<(t1.length:Int))from c3),F129_l2]at h
  refine ww ?_
  cases h
  exact eM [some 0,some 1,some 2] rfl
 rintro _ rfl
 clear ho
 refine ww ?_
 obtain⟨t8,ht8,h⟩:=bi h
 refine cN [] (F143_ok ht8) trivial (ww ?_)
 obtain⟨o9,ho,h⟩:=bi h
 refine cutS (fun s=>s=⟨[(1,.one (.c (.pt 0 0))),(2,.one (.c (.pt 3 0)))],[some (.box [dI x0.Kind,dI x0.N,dS x0.S,.own 1 0 0 (o2.length) none,.own 2 0 0 (o9.length) none]),some (.arr 0 5 (o2.map eTValue)),some (.arr 0 6 (o9.map eTField)),some (.box [dI 0,dI 0,dS ((⟨#[]⟩:ByteArray)),dN,dN])]⟩) ?_ ?_
 ·have h:=ho
  clear ho
  obtain⟨_,hk,h⟩:=bi h
  have hk:=ck_some hk
  refine ww ?_
  refine bL (fun j s=>∃(o9_1:Nat) (o9_0:List TField),(o9_1≤t8.length∧j=t8.length-o9_1)∧s=⟨[(1,.one (.c (.pt 0 0))),(2,.one (.c (.pt 3 0))),(31,.one (.c (.own 2 0 0 (o9_0.length) none))),(32,.one (.c (dI ((t8.length:Int))))),(33,.one (.c (dI ((o9_1:Int)))))],[some (.box [dI x0.Kind,dI x0.N,dS x0.S,.own 1 0 0 (o2.length) none,.own 2 0 0 (o9_0.length) none]),some (.arr 0 5 (o2.map eTValue)),some (.arr 0 6 (o9_0.map eTField)),some (.box [dI 0,dI 0,dS ((⟨#[]⟩:ByteArray)),dN,dN])]⟩∧F129_l9 rc33 (t8.drop o9_1) o9_1 o9_0=some o9) (t8.length-0) [some 0,some 1,some 3,some 2] ⟨0,t8,⟨hk.1,rfl⟩,rfl,h⟩ ?_
  rintro _ _ ⟨o9_1,o9_0,⟨hi,rfl⟩,rfl,h⟩
  refine ww ?_
  refine condS (fun c10=>?_) (fun c10=>?_)
  ·obtain⟨xo9,hxo9,hd⟩:=countY (show(o9_1:Int)<(t8.length:Int)from c10)
   rw[hd,F129_l9]at h
   refine ww ?_
   obtain⟨y11,hy11,h⟩:=bi h
   refine t_idxO (enc:=eTField) (xs:=o9_0) rfl rfl rfl (by first|rfl|simp only[List.length_set]|exact(clrL_len (slI_len (by assumption))).symm) hy11 (ww ?_)
   refine LdRow.rd (rdI_some hy11).2.1 (ww ?_)
   obtain⟨t12,ht12,h⟩:=bi h
   refine cN [] (ih33 ht12) trivial (ww ?_)
   obtain⟨y13,hy13,h⟩:=bi h
   refine t_idxO (enc:=eTField) (xs:=o9_0) rfl rfl rfl (by first|rfl|simp only[List.length_set]|exact(clrL_len (slI_len (by assumption))).symm) hy13 (ww ?_)
   refine StRow.rd (y':=(⟨y13.Name,(⟨y11.V.Kind,y11.V.N,y11.V.S,t12.1,t12.2⟩:TValue)⟩:TField)) (rdI_some hy13).2.1 (by simp[EE.down]) (by first|rfl|(simp only[bor_full'];rfl)|(simp only[eTField_u,bor_full'];rfl)) (ww ?_)
   rw[wrapN (by omega)]
   exact eL' (t8.length-(o9_1+1)) [some 0,some 1,some 2,some 3] ⟨o9_1+1,(o9_0.set ((o9_1:Int)).toNat ((⟨y13.Name,(⟨y11.V.Kind,y11.V.N,y11.V.S,t12.1,t12.2⟩:TValue)⟩:TField))),⟨by omega,rfl⟩,rfl,h⟩ (by omega)
  rw[countN (show¬((o9_1:Int)<(t8.length:Int))from c10),F129_l9]at h
  refine ww ?_
  cases h
  exact eM [some 0,some 1,some 2,some 3] rfl
 rintro _ rfl
 clear ho
 refine ww ?_
 cases h
 exact eF [some 1,some 2]
def F129k:Nat→TValue→Option ((List TValue)×(List TField))
 |0=>fun _=>none
 |k+1=>F129 (F129k k)
theorem F129k_ok(k:Nat){x0:TValue}{r:(List TValue)×(List TField)}(h:F129k k x0=some r):CallD Tryz.prog 129 [.agg [dI x0.Kind,dI x0.N,dS x0.S,dM (x0.List_.map eTValue),dM (x0.Fields.map eTField)]] [] (tupV [.agg [dI x0.Kind,dI x0.N,dS x0.S,.own 0 0 0 (r.1.length) none,.own 1 0 0 (r.2.length) none]]) [some (.arr 0 5 (r.1.map eTValue)),some (.arr 0 6 (r.2.map eTField))]:=by
 induction k generalizing x0 r with
 |zero=>cases(show(none:Option ((List TValue)×(List TField)))=some _ from h)
 |succ k ih=>exact F129_ok (fun h=>ih h) h
def F48(x0:Manager)(x1:Manager):Option (Bool):=(((if x0.Name=x1.Name then(F47 x0.Fields x1.Fields).bind fun t3=>some t3 else some false)).bind fun o1=>some o1)
def a48:AFn:=⟨17,[(.tmp 4)],
 (.seq (.reg [sq 2 (.box (.t 0)),
sq 3 (.box (.t 1)),
sq 4 (.mv (kB false))])
 (.seq (.sem (.reg [sq 5 (.fieldA 0 (.t 2)),
sq 6 (.load none (.t 5)),
sq 7 (.fieldA 0 (.t 3)),
sq 8 (.load none (.t 7)),
sq 9 (.bin .eql (.t 6) (.t 8)),
sq 10 (.mv (.t 9)),
zg 11 10 true (.fieldA 1 (.t 2)),
zg 12 10 true (.load none (.t 11)),
zg 13 10 true (.fieldA 1 (.t 3)),
zg 14 10 true (.load none (.t 13)),
zg 15 10 true (.call 47 [(.t 12),(.t 14)]),
sq 16 (.pick (.t 10) (.t 15) (kB false)),
sq 4 (.mv (.t 16))]))
 .ret))⟩
theorem F48_ok{x0 x1 r}(h:F48 x0 x1=some r):CallD Tryz.prog 48 [.agg [dS x0.Name,dM (x0.Fields.map eS)],.agg [dS x1.Name,dM (x1.Fields.map eS)]] [] (tupV [.c (dB r)]) []:=by
 rw[F48]at h
 refine zc a48 (by kernel_rfl) rfl (ww ?_)
 obtain⟨o1,ho,h⟩:=bi h
 refine cutS (fun s=>s=⟨[(4,.one (.c (dB o1)))],[]⟩) ?_ ?_
 ·have h:=ho
  clear ho
  refine ww ?_
  refine guardSh h (fun g2 h=>?_) (fun g2 h=>?_)
  ·refine ww ?_
   obtain⟨t3,ht3,h⟩:=bi h
   refine cN [] (F47_ok ht3) trivial (ww ?_)
   cases h
   exact eM [] rfl
  refine ww ?_
  cases h
  exact eM [] rfl
 rintro _ rfl
 clear ho
 refine ww ?_
 cases h
 exact eF []
def F117_l8(x0:ByteArray):Nat→Int→Option ((Bool) ⊕ (Unit))
 |0,_=>none
 |k+1,o8_0=>(if o8_0<(x0.size:Int)then(byI x0 o8_0).bind fun y10=>(F136 y10).bind fun t11=>(if(nb t11)=true then(some false).map Sum.inl else F117_l8 x0 k ((IntKind.i64.wrap (o8_0+1))))else some (Sum.inr (())))
def F117(x0:ByteArray):Option (Bool):=(((if(x0.size:Int)<1 then some true else(if 40<(x0.size:Int)then some true else(byI x0 0).bind fun y4=>(if y4<97 then some true else(byI x0 0).bind fun y6=>some (decide (122<y6)))))).bind fun o1=>(if o1=true then some false else((F117_l8 x0 1099511627776 0:Option ((Bool) ⊕ (Unit))).bind fun o8=>match o8 with|Sum.inl f=>some f|Sum.inr po8=>some true)))
def a117:AFn:=⟨33,[(.tmp 2)],
 (.seq (.reg [sq 2 (.mv (kB false))])
 (.seq (.seq (.sem (.reg [sq 4 (.mv (.t 0)),
sq 5 (.slen (.t 4)),
sq 6 (.bin .lss (.t 5) (kI 1)),
sq 7 (.mv (.t 6)),
zg 8 7 false (.mv (.t 0)),
zg 9 7 false (.slen (.t 8)),
zg 10 7 false (.bin .gtr (.t 9) (kI 40)),
sq 11 (.pick (.t 7) (kB true) (.t 10)),
sq 12 (.mv (.t 11)),
zg 13 12 false (.mv (.t 0)),
zg 14 12 false (.sidx (.t 13) (kI 0)),
zg 15 12 false (.bin .lss (.t 14) (.k (.c (.d (.v (.int .u8 97)))))),
sq 16 (.pick (.t 12) (kB true) (.t 15)),
sq 17 (.mv (.t 16)),
zg 18 17 false (.mv (.t 0)),
zg 19 17 false (.sidx (.t 18) (kI 0)),
zg 20 17 false (.bin .gtr (.t 19) (.k (.c (.d (.v (.int .u8 122)))))),
sq 21 (.pick (.t 17) (kB true) (.t 20))]))
 (.cond (.t 21)
 (.seq (.reg [sq 2 (.mv (kB false))])
 .ret)
 .skip))
 (.seq (.seq (.reg [sq 3 (.mv (kI 0))])
 (.sem (.block 0 (.loop (.seq (.seq (.reg [sq 22 (.mv (.t 3)),
sq 23 (.mv (.t 0)),
sq 24 (.slen (.t 23)),
sq 25 (.bin .lss (.t 22) (.t 24))])
 (.cond (.t 25)
 .skip
 (.exit 0)))
 (.seq (.block 1 (.seq (.reg [sq 28 (.mv (.t 0)),
sq 29 (.mv (.t 3)),
sq 30 (.sidx (.t 28) (.t 29)),
sq 31 (.call 136 [(.t 30)]),
sq 32 (.not (.t 31))])
 (.cond (.t 32)
 (.seq (.reg [sq 2 (.mv (kB false))])
 .ret)
 .skip)))
 (.reg [sq 26 (.mv (.t 3)),
sq 27 (.bin .add (.t 26) (kI 1)),
sq 3 (.mv (.t 27))])))))))
 (.seq (.reg [sq 2 (.mv (kB true))])
 .ret))))⟩
theorem F117_ok{x0 r}(h:F117 x0=some r):CallD Tryz.prog 117 [.c (dS x0)] [] (tupV [.c (dB r)]) []:=by
 rw[F117]at h
 refine zc a117 (by kernel_rfl) rfl (ww ?_)
 obtain⟨o1,ho,h⟩:=bi h
 refine cutS (fun s=>s=⟨[(0,.one (.c (dS x0))),(21,.one (.c (dB o1)))],[]⟩) ?_ ?_
 ·have h:=ho
  clear ho
  refine ww ?_
  refine guardSh h (fun g2 h=>?_) (fun g2 h=>?_)
  ·refine ww ?_
   cases h
   exact eM [] rfl
  refine ww ?_
  refine guardSh h (fun g3 h=>?_) (fun g3 h=>?_)
  ·refine ww ?_
   cases h
   exact eM [] rfl
  refine ww ?_
  obtain⟨y4,hy4,h⟩:=bi h
  refine t_sidx rfl rfl hy4 (ww ?_)
  refine guardSh h (fun g5 h=>?_) (fun g5 h=>?_)
  ·refine ww ?_
   cases h
   exact eM [] rfl
  refine ww ?_
  obtain⟨y6,hy6,h⟩:=bi h
  refine t_sidx rfl rfl hy6 (ww ?_)
  cases h
  exact eM [] rfl
 rintro _ rfl
 clear ho
 refine ww ?_
 refine condBh h (fun c7 h=>?_) (fun c7 h=>?_)
 ·refine ww ?_
  cases h
  exact eF []
 refine ww ?_
 obtain⟨o8,ho,h⟩:=bi h
 refine cutS (fun s=>∃po8,o8=Sum.inr po8∧s=⟨[],[]⟩) ?_ ?_
 ·have h0o8:=h
  have h:=ho
  clear ho
  refine ww ?_
  refine bL (fun j s=>∃(o8_0:Int),s=⟨[(0,.one (.c (dS x0))),(3,.one (.c (dI o8_0)))],[]⟩∧F117_l8 x0 j o8_0=some o8) 1099511627776 [] ⟨0,rfl,h⟩ ?_
  rintro j _ ⟨o8_0,rfl,h⟩
  cases j with
  |zero=>cases(show(none:Option _)=some _ from h)
  |succ j=>
   rw[F117_l8]at h
   refine ww ?_
   refine condSh h (fun c9 h=>?_) (fun c9 h=>?_)
   ·refine ww ?_
    obtain⟨y10,hy10,h⟩:=bi h
    refine t_sidx rfl rfl hy10 (ww ?_)
    obtain⟨t11,ht11,h⟩:=bi h
    refine cN [] (F136_ok ht11) trivial (ww ?_)
    refine condBh h (fun c12 h=>?_) (fun c12 h=>?_)
    ·refine ww ?_
     obtain⟨fh0o8,hfh0o8,rfl⟩:=Option.map_eq_some_iff.1 h
     have h:=hfh0o8.trans h0o8
     cases h
     exact eF []
    ·refine ww ?_
     exact eL' j [] ⟨(IntKind.i64.wrap (o8_0+1)),rfl,h⟩ (Nat.lt_succ_self _)
   ·refine ww ?_
    cases h
    exact eM [] ⟨_,rfl,rfl⟩
 rintro _ ⟨po8,rfl,rfl⟩
 clear ho
 dsimp only at h
 refine ww ?_
 cases h
 exact eF []
def F118_l2(x0:ByteArray):Nat→Int→Option ((Bool) ⊕ (Unit))
 |0,_=>none
 |k+1,o2_0=>(if o2_0<(x0.size:Int)then(((byI x0 o2_0).bind fun y5=>(F136 y5).bind fun t6=>(if(nb t6)=true then some true else(byI x0 o2_0).bind fun y8=>some (decide (y8=47)))).bind fun o4=>(if o4=true then(some false).map Sum.inl else F118_l2 x0 k ((IntKind.i64.wrap (o2_0+1)))))else some (Sum.inr (())))
def F118(x0:ByteArray):Option (Bool):=(if 40<(x0.size:Int)then some false else((F118_l2 x0 1099511627776 0:Option ((Bool) ⊕ (Unit))).bind fun o2=>match o2 with|Sum.inl f=>some f|Sum.inr po2=>some true))
def a118:AFn:=⟨24,[(.tmp 2)],
 (.seq (.reg [sq 2 (.mv (kB false))])
 (.seq (.seq (.reg [sq 4 (.mv (.t 0)),
sq 5 (.slen (.t 4)),
sq 6 (.bin .gtr (.t 5) (kI 40))])
 (.cond (.t 6)
 (.seq (.reg [sq 2 (.mv (kB false))])
 .ret)
 .skip))
 (.seq (.seq (.reg [sq 3 (.mv (kI 0))])
 (.sem (.block 0 (.loop (.seq (.seq (.reg [sq 7 (.mv (.t 3)),
sq 8 (.mv (.t 0)),
sq 9 (.slen (.t 8)),
sq 10 (.bin .lss (.t 7) (.t 9))])
 (.cond (.t 10)
 .skip
 (.exit 0)))
 (.seq (.block 1 (.seq (.sem (.reg [sq 13 (.mv (.t 0)),
sq 14 (.mv (.t 3)),
sq 15 (.sidx (.t 13) (.t 14)),
sq 16 (.call 136 [(.t 15)]),
sq 17 (.not (.t 16)),
sq 18 (.mv (.t 17)),
zg 19 18 false (.mv (.t 0)),
zg 20 18 false (.mv (.t 3)),
zg 21 18 false (.sidx (.t 19) (.t 20)),
zg 22 18 false (.bin .eql (.t 21) (.k (.c (.d (.v (.int .u8 47)))))),
sq 23 (.pick (.t 18) (kB true) (.t 22))]))
 (.cond (.t 23)
 (.seq (.reg [sq 2 (.mv (kB false))])
 .ret)
 .skip)))
 (.reg [sq 11 (.mv (.t 3)),
sq 12 (.bin .add (.t 11) (kI 1)),
sq 3 (.mv (.t 12))])))))))
 (.seq (.reg [sq 2 (.mv (kB true))])
 .ret))))⟩
theorem F118_ok{x0 r}(h:F118 x0=some r):CallD Tryz.prog 118 [.c (dS x0)] [] (tupV [.c (dB r)]) []:=by
 rw[F118]at h
 refine zc a118 (by kernel_rfl) rfl (ww ?_)
 refine condSh h (fun c1 h=>?_) (fun c1 h=>?_)
 ·refine ww ?_
  cases h
  exact eF []
 refine ww ?_
 obtain⟨o2,ho,h⟩:=bi h
 refine cutS (fun s=>∃po2,o2=Sum.inr po2∧s=⟨[],[]⟩) ?_ ?_
 ·have h0o2:=h
  have h:=ho
  clear ho
  refine ww ?_
  refine bL (fun j s=>∃(o2_0:Int),s=⟨[(0,.one (.c (dS x0))),(3,.one (.c (dI o2_0)))],[]⟩∧F118_l2 x0 j o2_0=some o2) 1099511627776 [] ⟨0,rfl,h⟩ ?_
  rintro j _ ⟨o2_0,rfl,h⟩
  cases j with
  |zero=>cases(show(none:Option _)=some _ from h)
  |succ j=>
   rw[F118_l2]at h
   refine ww ?_
   refine condSh h (fun c3 h=>?_) (fun c3 h=>?_)
   ·refine ww ?_
    obtain⟨o4,ho,h⟩:=bi h
    refine cutS (fun s=>s=⟨[(0,.one (.c (dS x0))),(3,.one (.c (dI o2_0))),(23,.one (.c (dB o4)))],[]⟩) ?_ ?_
    ·have h:=ho
     clear ho
     refine ww ?_
     obtain⟨y5,hy5,h⟩:=bi h
     refine t_sidx rfl rfl hy5 (ww ?_)
     obtain⟨t6,ht6,h⟩:=bi h
     refine cN [] (F136_ok ht6) trivial (ww ?_)
     refine guardSBh h (fun g7 h=>?_) (fun g7 h=>?_)
     ·refine ww ?_
      cases h
      exact eM [] rfl
     ·refine ww ?_
      obtain⟨y8,hy8,h⟩:=bi h
      refine t_sidx rfl rfl hy8 (ww ?_)
      cases h
      exact eM [] rfl
    ·rintro _ rfl
     clear ho
     refine ww ?_
     refine condBh h (fun c9 h=>?_) (fun c9 h=>?_)
     ·refine ww ?_
      obtain⟨fh0o2,hfh0o2,rfl⟩:=Option.map_eq_some_iff.1 h
      have h:=hfh0o2.trans h0o2
      cases h
      exact eF []
     ·refine ww ?_
      exact eL' j [] ⟨(IntKind.i64.wrap (o2_0+1)),rfl,h⟩ (Nat.lt_succ_self _)
   ·refine ww ?_
    cases h
    exact eM [] ⟨_,rfl,rfl⟩
 rintro _ ⟨po2,rfl,rfl⟩
 clear ho
 dsimp only at h
 refine ww ?_
 cases h
 exact eF []
def F87_l5(o1_0:Nat)(x0:(List ByteArray))(xo1:ByteArray):Nat→Int→Option (((Bool) ⊕ (Unit)) ⊕ (Unit))
 |0,_=>none
 |k+1,o5_0=>(if o5_0<(o1_0:Int)then(rdI x0 o5_0).bind fun y7=>(if y7=xo1 then((some false).map Sum.inl).map Sum.inl else F87_l5 o1_0 x0 xo1 k ((IntKind.i64.wrap (o5_0+1))))else some (Sum.inr (())))
def F87_l1(x0:(List ByteArray)):List ByteArray→Nat→Option ((Bool) ⊕ (Unit))
 |[],o1_0=>some (Sum.inr (()))
 |xo1::xs,o1_0=>(F84 xo1).bind fun t3=>(if(nb t3)=true then(some false).map Sum.inl else((F87_l5 o1_0 x0 xo1 1099511627776 0:Option (((Bool) ⊕ (Unit)) ⊕ (Unit))).bind fun o5=>match o5 with|Sum.inl f=>some f|Sum.inr po5=>F87_l1 x0 xs (o1_0+1)))
def F87(x0:(List ByteArray)):Option (Bool):=(((ck (0≤x0.length∧x0.length≤4294967290)).bind fun u9=>F87_l1 x0 x0 0:Option ((Bool) ⊕ (Unit))).bind fun o1=>match o1 with|Sum.inl f=>some f|Sum.inr po1=>some (decide ((x0.length:Int)≤16)))
def a87:AFn:=⟨34,[(.tmp 2)],
 (.seq (.reg [sq 2 (.mv (kB false))])
 (.seq (.seq (.reg [sq 3 (.mv (kI 0))])
 (.sem (.block 0 (.loop (.seq (.seq (.reg [sq 5 (.mv (.t 3)),
sq 6 (.mv (.t 0)),
sq 7 (.len (.t 6)),
sq 8 (.bin .lss (.t 5) (.t 7))])
 (.cond (.t 8)
 .skip
 (.exit 0)))
 (.seq (.block 1 (.seq (.seq (.reg [sq 11 (.mv (.t 0)),
sq 12 (.mv (.t 3)),
sq 13 (.indexA 1 (.t 11) (.t 12)),
sq 14 (.load none (.t 13)),
sq 15 (.call 84 [(.t 14)]),
sq 16 (.not (.t 15))])
 (.cond (.t 16)
 (.seq (.reg [sq 2 (.mv (kB false))])
 .ret)
 .skip))
 (.seq (.reg [sq 4 (.mv (kI 0))])
 (.sem (.block 2 (.loop (.seq (.seq (.reg [sq 17 (.mv (.t 4)),
sq 18 (.mv (.t 3)),
sq 19 (.bin .lss (.t 17) (.t 18))])
 (.cond (.t 19)
 .skip
 (.exit 2)))
 (.seq (.block 3 (.seq (.regd [sq 22 (.mv (.t 0)),
sq 23 (.mv (.t 4)),
sd 24 (.indexA 1 (.t 22) (.t 23)) [0,1],
sd 25 (.load none (.t 24)) [0,1,2],
sq 26 (.mv (.t 0)),
sq 27 (.mv (.t 3)),
sd 28 (.indexA 1 (.t 26) (.t 27)) [4,5],
sd 29 (.load none (.t 28)) [4,5,6],
sd 30 (.bin .eql (.t 25) (.t 29)) [0,1,2,3,4,5,6,7]])
 (.cond (.t 30)
 (.seq (.reg [sq 2 (.mv (kB false))])
 .ret)
 .skip)))
 (.reg [sq 20 (.mv (.t 4)),
sq 21 (.bin .add (.t 20) (kI 1)),
sq 4 (.mv (.t 21))])))))))))
 (.reg [sq 9 (.mv (.t 3)),
sq 10 (.bin .add (.t 9) (kI 1)),
sq 3 (.mv (.t 10))])))))))
 (.seq (.reg [sq 31 (.mv (.t 0)),
sq 32 (.len (.t 31)),
sq 33 (.bin .leq (.t 32) (kI 16)),
sq 2 (.mv (.t 33))])
 .ret)))⟩
theorem F87_ok{x0 r}(h:F87 x0=some r):CallD Tryz.prog 87 [.c (dM (x0.map eS))] [] (tupV [.c (dB r)]) []:=by
 rw[F87]at h
 refine zc a87 (by kernel_rfl) rfl (ww ?_)
 obtain⟨o1,ho,h⟩:=bi h
 refine cutS (fun s=>∃po1,o1=Sum.inr po1∧s=⟨[(0,.one (.c (dM (x0.map eS))))],[]⟩) ?_ ?_
 ·have h0o1:=h
  have h:=ho
  clear ho
  obtain⟨_,hk,h⟩:=bi h
  have hk:=ck_some hk
  refine ww ?_
  refine bL (fun j s=>∃(o1_0:Nat),(o1_0≤x0.length∧j=x0.length-o1_0)∧s=⟨[(0,.one (.c (dM (x0.map eS)))),(3,.one (.c (dI ((o1_0:Int)))))],[]⟩∧F87_l1 x0 (x0.drop o1_0) o1_0=some o1) (x0.length-0) [] ⟨0,⟨hk.1,rfl⟩,rfl,h⟩ ?_
  rintro _ _ ⟨o1_0,⟨hi,rfl⟩,rfl,h⟩
  refine ww ?_
  refine condS (fun c2=>?_) (fun c2=>?_)
  ·obtain⟨xo1,hxo1,hd⟩:=countY (show(o1_0:Int)<(x0.length:Int)from c2)
   rw[hd,F87_l1]at h
   refine ww ?_
   refine t_idxF (enc:=eS) (xs:=x0) rfl rfl hxo1 rfl (ww ?_)
   obtain⟨t3,ht3,h⟩:=bi h
   refine cN [] (F84_ok ht3) trivial (ww ?_)
   refine condBh h (fun c4 h=>?_) (fun c4 h=>?_)
   ·refine ww ?_
    obtain⟨fh0o1,hfh0o1,rfl⟩:=Option.map_eq_some_iff.1 h
    have h:=hfh0o1.trans h0o1
    cases h
    exact eF []
   refine ww ?_
   obtain⟨o5,ho,h⟩:=bi h
   refine cutS (fun s=>∃po5,o5=Sum.inr po5∧s=⟨[(0,.one (.c (dM (x0.map eS)))),(3,.one (.c (dI ((o1_0:Int)))))],[]⟩) ?_ ?_
   ·have h0o5:=h
    have h:=ho
    clear ho
    refine ww ?_
    refine bL (fun j s=>∃(o5_0:Int),s=⟨[(0,.one (.c (dM (x0.map eS)))),(3,.one (.c (dI ((o1_0:Int))))),(4,.one (.c (dI o5_0)))],[]⟩∧F87_l5 o1_0 x0 xo1 j o5_0=some o5) 1099511627776 [] ⟨0,rfl,h⟩ ?_
    rintro j _ ⟨o5_0,rfl,h⟩
    cases j with
    |zero=>cases(show(none:Option _)=some _ from h)
    |succ j=>
     rw[F87_l5]at h
     refine ww ?_
     refine condSh h (fun c6 h=>?_) (fun c6 h=>?_)
     ·refine ww ?_
      obtain⟨y7,hy7,h⟩:=bi h
      refine t_idxF (enc:=eS) (xs:=x0) rfl rfl hy7 rfl (ww ?_)
      refine t_idxF (enc:=eS) (xs:=x0) rfl rfl hxo1 rfl (ww ?_)
      refine condSh h (fun c8 h=>?_) (fun c8 h=>?_)
      ·refine ww ?_
       obtain⟨fh0o5,hfh0o5,rfl⟩:=Option.map_eq_some_iff.1 h
       have h:=hfh0o5.trans h0o5
       obtain⟨fh0o1,hfh0o1,rfl⟩:=Option.map_eq_some_iff.1 h
       have h:=hfh0o1.trans h0o1
       cases h
       exact eF []
      ·refine ww ?_
       exact eL' j [] ⟨(IntKind.i64.wrap (o5_0+1)),rfl,h⟩ (Nat.lt_succ_self _)
     ·refine ww ?_
      cases h
      exact eM [] ⟨_,rfl,rfl⟩
   rintro _ ⟨po5,rfl,rfl⟩
   clear ho
   dsimp only at h
   refine ww ?_
   rw[wrapN (by omega)]
   exact eL' (x0.length-(o1_0+1)) [] ⟨o1_0+1,⟨by omega,rfl⟩,rfl,h⟩ (by omega)
  rw[countN (show¬((o1_0:Int)<(x0.length:Int))from c2),F87_l1]at h
  refine ww ?_
  cases h
  exact eM [] ⟨_,rfl,rfl⟩
 rintro _ ⟨po1,rfl,rfl⟩
 clear ho
 dsimp only at h
 refine ww ?_
 cases h
 exact eF []
def F88_l1(x0:(List Manager)):List Manager→Nat→Option ((Bool) ⊕ (Unit))
 |[],o1_0=>some (Sum.inr (()))
 |xo1::xs,o1_0=>(((F84 xo1.Name).bind fun t4=>(if(nb t4)=true then some true else(if 0<(o1_0:Int)then(rdI x0 ((IntKind.i64.wrap (((o1_0:Int))-1)))).bind fun y7=>some ((Op.bytesLess xo1.Name.toList y7.Name.toList||decide (xo1.Name=y7.Name)))else some false))).bind fun o3=>(if o3=true then(some false).map Sum.inl else(((if(xo1.Fields.length:Int)<1 then some true else(if 600<(xo1.Fields.length:Int)then some true else(F119 xo1.Fields).bind fun t12=>some (nb t12)))).bind fun o9=>(if o9=true then(some false).map Sum.inl else F88_l1 x0 xs (o1_0+1)))))
def F88(x0:(List Manager)):Option (Bool):=(((ck (0≤x0.length∧x0.length≤4294967290)).bind fun u14=>F88_l1 x0 x0 0:Option ((Bool) ⊕ (Unit))).bind fun o1=>match o1 with|Sum.inl f=>some f|Sum.inr po1=>some (decide ((x0.length:Int)≤16)))
def a88:AFn:=⟨63,[(.tmp 2)],
 (.seq (.reg [sq 2 (.mv (kB false))])
 (.seq (.seq (.reg [sq 3 (.mv (kI 0))])
 (.sem (.block 0 (.loop (.seq (.seq (.reg [sq 4 (.mv (.t 3)),
sq 5 (.mv (.t 0)),
sq 6 (.len (.t 5)),
sq 7 (.bin .lss (.t 4) (.t 6))])
 (.cond (.t 7)
 .skip
 (.exit 0)))
 (.seq (.block 1 (.seq (.seq (.sem (.regd [sq 10 (.mv (.t 0)),
sq 11 (.mv (.t 3)),
sd 12 (.indexA 2 (.t 10) (.t 11)) [0,1],
sd 13 (.fieldA 0 (.t 12)) [0,1,2],
sd 14 (.load none (.t 13)) [0,1,2,3],
zl 15 (.call 84 [(.t 14)]) [0,1,2,3,4] [],
sd 16 (.not (.t 15)) [0,1,2,3,4,5],
sd 17 (.mv (.t 16)) [0,1,2,3,4,5,6],
⟨(some 18),(some (17,false)),.mv (.t 3),[0,1,2,3,4,5,6,7],(.new [])⟩,
⟨(some 19),(some (17,false)),.bin .gtr (.t 18) (kI 0),[0,1,2,3,4,5,6,7,8],(.new [])⟩,
⟨(some 20),(some (17,false)),.mv (.t 19),[0,1,2,3,4,5,6,7,8,9],(.new [])⟩,
⟨(some 21),(some (20,true)),.mv (.t 0),[0,1,2,3,4,5,6,7,8,9,10],(.new [])⟩,
⟨(some 22),(some (20,true)),.mv (.t 3),[0,1,2,3,4,5,6,7,8,9,10],(.new [])⟩,
⟨(some 23),(some (20,true)),.indexA 2 (.t 21) (.t 22),[0,1,2,3,4,5,6,7,8,9,10,11,12],(.new [])⟩,
⟨(some 24),(some (20,true)),.fieldA 0 (.t 23),[0,1,2,3,4,5,6,7,8,9,10,11,12,13],(.new [])⟩,
⟨(some 25),(some (20,true)),.load none (.t 24),[0,1,2,3,4,5,6,7,8,9,10,11,12,13,14],(.new [])⟩,
⟨(some 26),(some (20,true)),.mv (.t 0),[0,1,2,3,4,5,6,7,8,9,10],(.new [])⟩,
⟨(some 27),(some (20,true)),.mv (.t 3),[0,1,2,3,4,5,6,7,8,9,10],(.new [])⟩,
⟨(some 28),(some (20,true)),.bin .sub (.t 27) (kI 1),[0,1,2,3,4,5,6,7,8,9,10,17],(.new [])⟩,
⟨(some 29),(some (20,true)),.indexA 2 (.t 26) (.t 28),[0,1,2,3,4,5,6,7,8,9,10,16,17,18],(.new [])⟩,
⟨(some 30),(some (20,true)),.fieldA 0 (.t 29),[0,1,2,3,4,5,6,7,8,9,10,16,17,18,19],(.new [])⟩,
⟨(some 31),(some (20,true)),.load none (.t 30),[0,1,2,3,4,5,6,7,8,9,10,16,17,18,19,20],(.new [])⟩,
⟨(some 32),(some (20,true)),.bin .leq (.t 25) (.t 31),[0,1,2,3,4,5,6,7,8,9,10,11,12,13,14,15,16,17,18,19,20,21],(.new [])⟩,
⟨(some 33),(some (17,false)),.pick (.t 20) (.t 32) (kB false),[0,1,2,3,4,5,6,7,8,9,10,11,12,13,14,15,16,17,18,19,20,21,22],(.lone [])⟩,
zl 34 (.pick (.t 17) (kB true) (.t 33)) [0,1,2,3,4,5,6,7,8,9,10,11,12,13,14,15,16,17,18,19,20,21,22,23] []]))
 (.cond (.t 34)
 (.seq (.reg [sq 2 (.mv (kB false))])
 .ret)
 .skip))
 (.seq (.sem (.reg [sq 35 (.mv (.t 0)),
sq 36 (.mv (.t 3)),
sq 37 (.indexA 2 (.t 35) (.t 36)),
sq 38 (.fieldA 1 (.t 37)),
sq 39 (.load none (.t 38)),
sq 40 (.len (.t 39)),
sq 41 (.bin .lss (.t 40) (kI 1)),
sq 42 (.mv (.t 41)),
zg 43 42 false (.mv (.t 0)),
zg 44 42 false (.mv (.t 3)),
zg 45 42 false (.indexA 2 (.t 43) (.t 44)),
zg 46 42 false (.fieldA 1 (.t 45)),
zg 47 42 false (.load none (.t 46)),
zg 48 42 false (.len (.t 47)),
zg 49 42 false (.bin .gtr (.t 48) (kI 600)),
sq 50 (.pick (.t 42) (kB true) (.t 49)),
sq 51 (.mv (.t 50)),
zg 52 51 false (.mv (.t 0)),
zg 53 51 false (.mv (.t 3)),
zg 54 51 false (.indexA 2 (.t 52) (.t 53)),
zg 55 51 false (.fieldA 1 (.t 54)),
zg 56 51 false (.load none (.t 55)),
zg 57 51 false (.call 119 [(.t 56)]),
zg 58 51 false (.not (.t 57)),
sq 59 (.pick (.t 51) (kB true) (.t 58))]))
 (.cond (.t 59)
 (.seq (.reg [sq 2 (.mv (kB false))])
 .ret)
 .skip))))
 (.reg [sq 8 (.mv (.t 3)),
sq 9 (.bin .add (.t 8) (kI 1)),
sq 3 (.mv (.t 9))])))))))
 (.seq (.reg [sq 60 (.mv (.t 0)),
sq 61 (.len (.t 60)),
sq 62 (.bin .leq (.t 61) (kI 16)),
sq 2 (.mv (.t 62))])
 .ret)))⟩
theorem F88_ok{x0 r}(h:F88 x0=some r):CallD Tryz.prog 88 [.c (dM (x0.map eManager))] [] (tupV [.c (dB r)]) []:=by
 rw[F88]at h
 refine zc a88 (by kernel_rfl) rfl (ww ?_)
 obtain⟨o1,ho,h⟩:=bi h
 refine cutS (fun s=>∃po1,o1=Sum.inr po1∧s=⟨[(0,.one (.c (dM (x0.map eManager))))],[]⟩) ?_ ?_
 ·have h0o1:=h
  have h:=ho
  clear ho
  obtain⟨_,hk,h⟩:=bi h
  have hk:=ck_some hk
  refine ww ?_
  refine bL (fun j s=>∃(o1_0:Nat),(o1_0≤x0.length∧j=x0.length-o1_0)∧s=⟨[(0,.one (.c (dM (x0.map eManager)))),(3,.one (.c (dI ((o1_0:Int)))))],[]⟩∧F88_l1 x0 (x0.drop o1_0) o1_0=some o1) (x0.length-0) [] ⟨0,⟨hk.1,rfl⟩,rfl,h⟩ ?_
  rintro _ _ ⟨o1_0,⟨hi,rfl⟩,rfl,h⟩
  refine ww ?_
  refine condS (fun c2=>?_) (fun c2=>?_)
  ·obtain⟨xo1,hxo1,hd⟩:=countY (show(o1_0:Int)<(x0.length:Int)from c2)
   rw[hd,F88_l1]at h
   refine ww ?_
   obtain⟨o3,ho,h⟩:=bi h
   refine cutS (fun s=>s=⟨[(0,.one (.c (dM (x0.map eManager)))),(3,.one (.c (dI ((o1_0:Int))))),(34,.one (.c (dB o3)))],[]⟩) ?_ ?_
   ·have h:=ho
    clear ho
    refine ww ?_
    refine t_idxF (enc:=eManager) (xs:=x0) rfl rfl hxo1 rfl (ww ?_)
    obtain⟨t4,ht4,h⟩:=bi h
    refine cN [] (F84_ok ht4) trivial (ww ?_)
    refine guardDBh h (fun g5 h=>?_) (fun g5 h=>?_)
    ·refine ww ?_
     cases h
     exact eM [] rfl
    refine ww ?_
    refine guardDh h (fun g6 h=>?_) (fun g6 h=>?_)
    ·refine ww ?_
     refine t_idxF (enc:=eManager) (xs:=x0) rfl rfl hxo1 rfl (ww ?_)
     obtain⟨y7,hy7,h⟩:=bi h
     refine t_idxF (enc:=eManager) (xs:=x0) rfl rfl hy7 rfl (ww ?_)
     cases h
     exact eM [] rfl
    refine ww ?_
    cases h
    exact eM [] rfl
   rintro _ rfl
   clear ho
   refine ww ?_
   refine condBh h (fun c8 h=>?_) (fun c8 h=>?_)
   ·refine ww ?_
    obtain⟨fh0o1,hfh0o1,rfl⟩:=Option.map_eq_some_iff.1 h
    have h:=hfh0o1.trans h0o1
    cases h
    exact eF []
   refine ww ?_
   obtain⟨o9,ho,h⟩:=bi h
   refine cutS (fun s=>s=⟨[(0,.one (.c (dM (x0.map eManager)))),(3,.one (.c (dI ((o1_0:Int))))),(59,.one (.c (dB o9)))],[]⟩) ?_ ?_
   ·have h:=ho
    clear ho
    refine ww ?_
    refine t_idxF (enc:=eManager) (xs:=x0) rfl rfl hxo1 rfl (ww ?_)
    refine guardSh h (fun g10 h=>?_) (fun g10 h=>?_)
    ·refine ww ?_
     cases h
     exact eM [] rfl
    refine ww ?_
    refine t_idxF (enc:=eManager) (xs:=x0) rfl rfl hxo1 rfl (ww ?_)
    refine guardSh h (fun g11 h=>?_) (fun g11 h=>?_)
    ·refine ww ?_
     cases h
     exact eM [] rfl
    refine ww ?_
    refine t_idxF (enc:=eManager) (xs:=x0) rfl rfl hxo1 rfl (ww ?_)
    obtain⟨t12,ht12,h⟩:=bi h
    refine cN [] (F119_ok ht12) trivial (ww ?_)
    cases h
    exact eM [] rfl
   rintro _ rfl
   clear ho
   refine ww ?_
   refine condBh h (fun c13 h=>?_) (fun c13 h=>?_)
   ·refine ww ?_
    obtain⟨fh0o1,hfh0o1,rfl⟩:=Option.map_eq_some_iff.1 h
    have h:=hfh0o1.trans h0o1
    cases h
    exact eF []
   refine ww ?_
   rw[wrapN (by omega)]
   exact eL' (x0.length-(o1_0+1)) [] ⟨o1_0+1,⟨by omega,rfl⟩,rfl,h⟩ (by omega)
  rw[countN (show¬((o1_0:Int)<(x0.length:Int))from c2),F88_l1]at h
  refine ww ?_
  cases h
  exact eM [] ⟨_,rfl,rfl⟩
 rintro _ ⟨po1,rfl,rfl⟩
 clear ho
 dsimp only at h
 refine ww ?_
 cases h
 exact eF []
def F120(x0:TValue):Option (Bool):=(if x0.Kind=1 then(((if x0.N=0 then some (decide (x0.S=(⟨#[]⟩:ByteArray)))else(if x0.N=1 then some (decide (x0.S=(⟨#[]⟩:ByteArray)))else some false))).bind fun o2=>some o2)else(if x0.Kind=2 then(((if(-1000000000000000)≤x0.N then(if x0.N≤1000000000000000 then some (decide (x0.S=(⟨#[]⟩:ByteArray)))else some false)else some false)).bind fun o6=>some o6)else(if x0.Kind=3 then(((if x0.N=0 then(F137 x0.S).bind fun t12=>some t12 else some false)).bind fun o10=>some o10)else(((if x0.Kind=0 then some (decide (x0.Kind=0))else(if x0.Kind=4 then some (decide (x0.Kind=4))else some (decide (x0.Kind=5))))).bind fun o13=>(if o13=true then(((if x0.N=0 then some (decide (x0.S=(⟨#[]⟩:ByteArray)))else some false)).bind fun o17=>some o17)else some false)))))
def a120:AFn:=⟨57,[(.tmp 2)],
 (.seq (.reg [sq 1 (.box (.t 0)),
sq 2 (.mv (kB false))])
 (.seq (.seq (.reg [sq 3 (.fieldA 0 (.t 1)),
sq 4 (.load none (.t 3))])
 (.block 0 (.seq (.reg [sq 6 (.bin .eql (.t 4) (kI 1)),
sq 5 (.mv (.t 6))])
 (.cond (.t 5)
 (.seq (.sem (.reg [sq 7 (.fieldA 1 (.t 1)),
sq 8 (.load none (.t 7)),
sq 9 (.bin .eql (.t 8) (kI 0)),
sq 10 (.mv (.t 9)),
zg 11 10 false (.fieldA 1 (.t 1)),
zg 12 10 false (.load none (.t 11)),
zg 13 10 false (.bin .eql (.t 12) (kI 1)),
sq 14 (.pick (.t 10) (kB true) (.t 13)),
sq 15 (.mv (.t 14)),
zg 16 15 true (.fieldA 2 (.t 1)),
zg 17 15 true (.load none (.t 16)),
zg 18 15 true (.bin .eql (.t 17) (kS ⟨#[]⟩)),
sq 19 (.pick (.t 15) (.t 18) (kB false)),
sq 2 (.mv (.t 19))]))
 .ret)
 (.seq (.reg [sq 21 (.bin .eql (.t 4) (kI 2)),
sq 20 (.mv (.t 21))])
 (.cond (.t 20)
 (.seq (.sem (.reg [sq 22 (.fieldA 1 (.t 1)),
sq 23 (.load none (.t 22)),
sq 24 (.bin .geq (.t 23) (kI (-1000000000000000))),
sq 25 (.mv (.t 24)),
zg 26 25 true (.fieldA 1 (.t 1)),
zg 27 25 true (.load none (.t 26)),
zg 28 25 true (.bin .leq (.t 27) (kI 1000000000000000)),
sq 29 (.pick (.t 25) (.t 28) (kB false)),
sq 30 (.mv (.t 29)),
zg 31 30 true (.fieldA 2 (.t 1)),
zg 32 30 true (.load none (.t 31)),
zg 33 30 true (.bin .eql (.t 32) (kS ⟨#[]⟩)),
sq 34 (.pick (.t 30) (.t 33) (kB false)),
sq 2 (.mv (.t 34))]))
 .ret)
 (.seq (.reg [sq 36 (.bin .eql (.t 4) (kI 3)),
sq 35 (.mv (.t 36))])
 (.cond (.t 35)
 (.seq (.sem (.reg [sq 37 (.fieldA 1 (.t 1)),
sq 38 (.load none (.t 37)),
sq 39 (.bin .eql (.t 38) (kI 0)),
sq 40 (.mv (.t 39)),
zg 41 40 true (.fieldA 2 (.t 1)),
zg 42 40 true (.load none (.t 41)),
zg 43 40 true (.call 137 [(.t 42)]),
sq 44 (.pick (.t 40) (.t 43) (kB false)),
sq 2 (.mv (.t 44))]))
 .ret)
 (.seq (.sem (.seq (.reg [sq 46 (.bin .eql (.t 4) (kI 0)),
sq 45 (.mv (.t 46))])
 (.cond (.t 45)
 .skip
 (.seq (.reg [sq 47 (.bin .eql (.t 4) (kI 4)),
sq 45 (.mv (.t 47))])
 (.cond (.t 45)
 .skip
 (.reg [sq 48 (.bin .eql (.t 4) (kI 5)),
sq 45 (.mv (.t 48))]))))))
 (.cond (.t 45)
 (.seq (.sem (.reg [sq 49 (.fieldA 1 (.t 1)),
sq 50 (.load none (.t 49)),
sq 51 (.bin .eql (.t 50) (kI 0)),
sq 52 (.mv (.t 51)),
zg 53 52 true (.fieldA 2 (.t 1)),
zg 54 52 true (.load none (.t 53)),
zg 55 52 true (.bin .eql (.t 54) (kS ⟨#[]⟩)),
sq 56 (.pick (.t 52) (.t 55) (kB false)),
sq 2 (.mv (.t 56))]))
 .ret)
 .skip))))))))))
 (.seq (.reg [sq 2 (.mv (kB false))])
 .ret)))⟩
theorem F120_ok{x0 r}(h:F120 x0=some r):CallD Tryz.prog 120 [.agg [dI x0.Kind,dI x0.N,dS x0.S,dM (x0.List_.map eTValue),dM (x0.Fields.map eTField)]] [] (tupV [.c (dB r)]) []:=by
 rw[F120]at h
 refine zc a120 (by kernel_rfl) rfl (ww ?_)
 refine condSh h (fun c1 h=>?_) (fun c1 h=>?_)
 ·refine ww ?_
  obtain⟨o2,ho,h⟩:=bi h
  refine cutS (fun s=>s=⟨[(2,.one (.c (dB o2)))],[]⟩) ?_ ?_
  ·have h:=ho
   clear ho
   refine ww ?_
   refine guardSh h (fun g3 h=>?_) (fun g3 h=>?_)
   ·refine ww ?_
    cases h
    exact eM [] rfl
   refine ww ?_
   refine guardSh h (fun g4 h=>?_) (fun g4 h=>?_)
   ·refine ww ?_
    cases h
    exact eM [] rfl
   refine ww ?_
   cases h
   exact eM [] rfl
  rintro _ rfl
  clear ho
  refine ww ?_
  cases h
  exact eF []
 refine ww ?_
 refine condSh h (fun c5 h=>?_) (fun c5 h=>?_)
 ·refine ww ?_
  obtain⟨o6,ho,h⟩:=bi h
  refine cutS (fun s=>s=⟨[(2,.one (.c (dB o6)))],[]⟩) ?_ ?_
  ·have h:=ho
   clear ho
   refine ww ?_
   refine guardSh h (fun g7 h=>?_) (fun g7 h=>?_)
   ·refine ww ?_
    refine guardSh h (fun g8 h=>?_) (fun g8 h=>?_)
    ·refine ww ?_
     cases h
     exact eM [] rfl
    refine ww ?_
    cases h
    exact eM [] rfl
   refine ww ?_
   cases h
   exact eM [] rfl
  rintro _ rfl
  clear ho
  refine ww ?_
  cases h
  exact eF []
 refine ww ?_
 refine condSh h (fun c9 h=>?_) (fun c9 h=>?_)
 ·refine ww ?_
  obtain⟨o10,ho,h⟩:=bi h
  refine cutS (fun s=>s=⟨[(2,.one (.c (dB o10)))],[]⟩) ?_ ?_
  ·have h:=ho
   clear ho
   refine ww ?_
   refine guardSh h (fun g11 h=>?_) (fun g11 h=>?_)
   ·refine ww ?_
    obtain⟨t12,ht12,h⟩:=bi h
    refine cN [] (F137_ok ht12) trivial (ww ?_)
    cases h
    exact eM [] rfl
   refine ww ?_
   cases h
   exact eM [] rfl
  rintro _ rfl
  clear ho
  refine ww ?_
  cases h
  exact eF []
 refine ww ?_
 obtain⟨o13,ho,h⟩:=bi h
 refine cutS (fun s=>s=⟨[(1,.one (.c (.pt 0 0))),(45,.one (.c (dB o13)))],[some (.box [dI x0.Kind,dI x0.N,dS x0.S,dM (x0.List_.map eTValue),dM (x0.Fields.map eTField)])]⟩) ?_ ?_
 ·have h:=ho
  clear ho
  refine ww ?_
  refine condSh h (fun c14 h=>?_) (fun c14 h=>?_)
  ·refine ww ?_
   cases h
   exact eM [some 0] rfl
  refine ww ?_
  refine condSh h (fun c15 h=>?_) (fun c15 h=>?_)
  ·refine ww ?_
   cases h
   exact eM [some 0] rfl
  refine ww ?_
  cases h
  exact eM [some 0] rfl
 rintro _ rfl
 clear ho
 refine ww ?_
 refine condBh h (fun c16 h=>?_) (fun c16 h=>?_)
 ·refine ww ?_
  obtain⟨o17,ho,h⟩:=bi h
  refine cutS (fun s=>s=⟨[(2,.one (.c (dB o17)))],[]⟩) ?_ ?_
  ·have h:=ho
   clear ho
   refine ww ?_
   refine guardSh h (fun g18 h=>?_) (fun g18 h=>?_)
   ·refine ww ?_
    cases h
    exact eM [] rfl
   refine ww ?_
   cases h
   exact eM [] rfl
  rintro _ rfl
  clear ho
  refine ww ?_
  cases h
  exact eF []
 refine ww ?_
 cases h
 exact eF []
end Go.Proofs.YtbopaemngpbdgaaGreat
