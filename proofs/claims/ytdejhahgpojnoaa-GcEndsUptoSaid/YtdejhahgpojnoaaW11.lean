/- Each Go function as a function over typed data, and its walk. -/
import Derived.Test.YtdejhahgpojnoaaW0
import Derived.Test.YtdejhahgpojnoaaW2
import Derived.Test.YtdejhahgpojnoaaW3
import Derived.Test.YtdejhahgpojnoaaW5
import Derived.Test.YtdejhahgpojnoaaW6
import Derived.Test.YtdejhahgpojnoaaW7
namespace Go.Proofs.Ytdejhahgpojnoaa
open Go Go.Fw Go.Shelf
set_option maxRecDepth 100000
set_option maxHeartbeats 4000000
set_option linter.unusedSimpArgs false
set_option linter.unusedVariables false
def F16_l13(o1_0:Nat)(x0:(List Object))(xo1:Object):Nat→Int→Option (((Bool) ⊕ (Unit)) ⊕ (Unit))
 |0,_=>none
 |k+1,o13_0=>(if o13_0<(o1_0:Int)then(((rdI x0 o13_0).bind fun y16=>(if y16.Meta.Uid=xo1.Meta.Uid then some true else(F30 y16.Meta).bind fun t18=>(F30 xo1.Meta).bind fun t19=>some (decide (t18=t19)))).bind fun o15=>(if o15=true then((some false).map Sum.inl).map Sum.inl else F16_l13 o1_0 x0 xo1 k ((IntKind.i64.wrap (o13_0+1)))))else some (Sum.inr (())))
def F16_l1(x0:(List Object)):List Object→Nat→Option ((Bool) ⊕ (Unit))
 |[],o1_0=>some (Sum.inr (()))
 |xo1::xs,o1_0=>(((if xo1.Meta.Uid≤0 then some true else(F33 xo1.Meta.Finalizers ((⟨#[111,114,112,104,97,110,45,100,101,112,101,110,100,101,110,116,115]⟩:ByteArray))).bind fun t5=>(F33 t5 ((⟨#[102,111,114,101,103,114,111,117,110,100,45,100,101,108,101,116,105,111,110]⟩:ByteArray))).bind fun t6=>(if 0<(t6.length:Int)then some true else(if 2<(xo1.Meta.Finalizers.length:Int)then some true else(if(xo1.Meta.Finalizers.length:Int)=2 then(rdI xo1.Meta.Finalizers 0).bind fun y10=>(rdI xo1.Meta.Finalizers 1).bind fun y11=>some (decide (y10=y11))else some false))))).bind fun o3=>(if o3=true then(some false).map Sum.inl else((F16_l13 o1_0 x0 xo1 1099511627776 0:Option (((Bool) ⊕ (Unit)) ⊕ (Unit))).bind fun o13=>match o13 with|Sum.inl f=>some f|Sum.inr po13=>F16_l1 x0 xs (o1_0+1))))
def F16(x0:(List Object)):Option (Bool):=(((ck (0≤x0.length∧x0.length≤4294967290)).bind fun u21=>F16_l1 x0 x0 0:Option ((Bool) ⊕ (Unit))).bind fun o1=>match o1 with|Sum.inl f=>some f|Sum.inr po1=>some true)
def a16:AFn:=⟨84,[(.tmp 2)],
 (.seq (.reg [Qf 2 false])
 (.seq (.seq (.reg [Qe 3 0])
 (.sem (.block 0 (.loop (.seq (.seq (.reg [Qa 6 3,
Qa 7 0,
Qh 8 7,
Qn 9 6 8])
 (.cond (.t 9)
 .skip
 (.exit 0)))
 (.seq (.block 1 (.seq (.reg [Qa 12 0,
Qa 13 3,
Qp 14 23 12 13,
Qb 15 0 14,
Qb 16 11 15,
Qd 17 16,
Qa 4 17])
 (.seq (.seq (.sem (.regd [Qa 18 0,
Qa 19 3,
sd 20 (.indexA 23 (.t 18) (.t 19)) [0,1],
sd 21 (.fieldA 0 (.t 20)) [0,1,2],
sd 22 (.fieldA 3 (.t 21)) [0,1,2,3],
sd 23 (.load none (.t 22)) [0,1,2,3,4],
sd 24 (.bin .leq (.t 23) (kI 0)) [0,1,2,3,4,5],
sd 25 (.mv (.t 24)) [0,1,2,3,4,5,6],
⟨(some 26),(some (25,false)),.mv (.t 4),[0,1,2,3,4,5,6,7],(.new [])⟩,
⟨(some 27),(some (25,false)),.call 33 [(.t 26),(kS ⟨#[111,114,112,104,97,110,45,100,101,112,101,110,100,101,110,116,115]⟩)],[0,1,2,3,4,5,6,7,8],(.lone [])⟩,
⟨(some 28),(some (25,false)),.call 33 [(.t 27),(kS ⟨#[102,111,114,101,103,114,111,117,110,100,45,100,101,108,101,116,105,111,110]⟩)],[0,1,2,3,4,5,6,7,8,9],(.lone [])⟩,
⟨(some 29),(some (25,false)),.len (.t 28),[0,1,2,3,4,5,6,7,8,9,10],(.new [])⟩,
⟨(some 30),(some (25,false)),.bin .gtr (.t 29) (kI 0),[0,1,2,3,4,5,6,7,8,9,10,11],(.new [])⟩,
zl 31 (.pick (.t 25) (kB true) (.t 30)) [0,1,2,3,4,5,6,7,8,9,10,11,12] [],
sd 32 (.mv (.t 31)) [0,1,2,3,4,5,6,7,8,9,10,11,12,13],
⟨(some 33),(some (32,false)),.mv (.t 4),[0,1,2,3,4,5,6,7,8,9,10,11,12,13,14],(.new [])⟩,
⟨(some 34),(some (32,false)),.len (.t 33),[0,1,2,3,4,5,6,7,8,9,10,11,12,13,14,15],(.new [])⟩,
⟨(some 35),(some (32,false)),.bin .gtr (.t 34) (kI 2),[0,1,2,3,4,5,6,7,8,9,10,11,12,13,14,15,16],(.new [])⟩,
zl 36 (.pick (.t 32) (kB true) (.t 35)) [0,1,2,3,4,5,6,7,8,9,10,11,12,13,14,15,16,17] [],
sd 37 (.mv (.t 36)) [0,1,2,3,4,5,6,7,8,9,10,11,12,13,14,15,16,17,18],
⟨(some 38),(some (37,false)),.mv (.t 4),[0,1,2,3,4,5,6,7,8,9,10,11,12,13,14,15,16,17,18,19],(.new [])⟩,
⟨(some 39),(some (37,false)),.len (.t 38),[0,1,2,3,4,5,6,7,8,9,10,11,12,13,14,15,16,17,18,19,20],(.new [])⟩,
⟨(some 40),(some (37,false)),.bin .eql (.t 39) (kI 2),[0,1,2,3,4,5,6,7,8,9,10,11,12,13,14,15,16,17,18,19,20,21],(.new [])⟩,
⟨(some 41),(some (37,false)),.mv (.t 40),[0,1,2,3,4,5,6,7,8,9,10,11,12,13,14,15,16,17,18,19,20,21,22],(.new [])⟩,
⟨(some 42),(some (41,true)),.mv (.t 4),[0,1,2,3,4,5,6,7,8,9,10,11,12,13,14,15,16,17,18,19,20,21,22,23],(.new [])⟩,
⟨(some 43),(some (41,true)),.indexA 1 (.t 42) (kI 0),[0,1,2,3,4,5,6,7,8,9,10,11,12,13,14,15,16,17,18,19,20,21,22,23,24],(.new [])⟩,
⟨(some 44),(some (41,true)),.load none (.t 43),[0,1,2,3,4,5,6,7,8,9,10,11,12,13,14,15,16,17,18,19,20,21,22,23,24,25],(.new [])⟩,
⟨(some 45),(some (41,true)),.mv (.t 4),[0,1,2,3,4,5,6,7,8,9,10,11,12,13,14,15,16,17,18,19,20,21,22,23],(.new [])⟩,
⟨(some 46),(some (41,true)),.indexA 1 (.t 45) (kI 1),[0,1,2,3,4,5,6,7,8,9,10,11,12,13,14,15,16,17,18,19,20,21,22,23,27],(.new [])⟩,
⟨(some 47),(some (41,true)),.load none (.t 46),[0,1,2,3,4,5,6,7,8,9,10,11,12,13,14,15,16,17,18,19,20,21,22,23,27,28],(.new [])⟩,
⟨(some 48),(some (41,true)),.bin .eql (.t 44) (.t 47),[0,1,2,3,4,5,6,7,8,9,10,11,12,13,14,15,16,17,18,19,20,21,22,23,24,25,26,27,28,29],(.new [])⟩,
⟨(some 49),(some (37,false)),.pick (.t 41) (.t 48) (kB false),[0,1,2,3,4,5,6,7,8,9,10,11,12,13,14,15,16,17,18,19,20,21,22,23,24,25,26,27,28,29,30],(.lone [])⟩,
zl 50 (.pick (.t 37) (kB true) (.t 49)) [0,1,2,3,4,5,6,7,8,9,10,11,12,13,14,15,16,17,18,19,20,21,22,23,24,25,26,27,28,29,30,31] []]))
 (.cond (.t 50)
 (.seq (.reg [Qf 2 false])
 .ret)
 .skip))
 (.seq (.reg [Qe 5 0])
 (.sem (.block 2 (.loop (.seq (.seq (.reg [Qa 51 5,
Qa 52 3,
Qn 53 51 52])
 (.cond (.t 53)
 .skip
 (.exit 2)))
 (.seq (.block 3 (.seq (.sem (.regd [Qa 56 0,
Qa 57 5,
sd 58 (.indexA 23 (.t 56) (.t 57)) [0,1],
sd 59 (.fieldA 0 (.t 58)) [0,1,2],
sd 60 (.fieldA 3 (.t 59)) [0,1,2,3],
sd 61 (.load none (.t 60)) [0,1,2,3,4],
Qa 62 0,
Qa 63 3,
sd 64 (.indexA 23 (.t 62) (.t 63)) [6,7],
sd 65 (.fieldA 0 (.t 64)) [6,7,8],
sd 66 (.fieldA 3 (.t 65)) [6,7,8,9],
sd 67 (.load none (.t 66)) [6,7,8,9,10],
sd 68 (.bin .eql (.t 61) (.t 67)) [0,1,2,3,4,5,6,7,8,9,10,11],
sd 69 (.mv (.t 68)) [0,1,2,3,4,5,6,7,8,9,10,11,12],
⟨(some 70),(some (69,false)),.mv (.t 0),[0,1,2,3,4,5,6,7,8,9,10,11,12,13],(.new [])⟩,
⟨(some 71),(some (69,false)),.mv (.t 5),[0,1,2,3,4,5,6,7,8,9,10,11,12,13],(.new [])⟩,
⟨(some 72),(some (69,false)),.indexA 23 (.t 70) (.t 71),[0,1,2,3,4,5,6,7,8,9,10,11,12,13,14,15],(.new [])⟩,
⟨(some 73),(some (69,false)),.fieldA 0 (.t 72),[0,1,2,3,4,5,6,7,8,9,10,11,12,13,14,15,16],(.new [])⟩,
⟨(some 74),(some (69,false)),.load (some 13) (.t 73),[0,1,2,3,4,5,6,7,8,9,10,11,12,13,14,15,16,17],(.new [])⟩,
⟨(some 75),(some (69,false)),.call 30 [(.t 74)],[0,1,2,3,4,5,6,7,8,9,10,11,12,13,14,15,16,17,18],(.new [14,15,16,17,18])⟩,
⟨(some 76),(some (69,false)),.mv (.t 0),[0,1,2,3,4,5,6,7,8,9,10,11,12,13],(.new [])⟩,
⟨(some 77),(some (69,false)),.mv (.t 3),[0,1,2,3,4,5,6,7,8,9,10,11,12,13],(.new [])⟩,
⟨(some 78),(some (69,false)),.indexA 23 (.t 76) (.t 77),[0,1,2,3,4,5,6,7,8,9,10,11,12,13,20,21],(.new [])⟩,
⟨(some 79),(some (69,false)),.fieldA 0 (.t 78),[0,1,2,3,4,5,6,7,8,9,10,11,12,13,20,21,22],(.new [])⟩,
⟨(some 80),(some (69,false)),.load (some 13) (.t 79),[0,1,2,3,4,5,6,7,8,9,10,11,12,13,20,21,22,23],(.new [])⟩,
⟨(some 81),(some (69,false)),.call 30 [(.t 80)],[0,1,2,3,4,5,6,7,8,9,10,11,12,13,14,15,16,17,18,19,20,21,22,23,24],(.lone [])⟩,
⟨(some 82),(some (69,false)),.bin .eql (.t 75) (.t 81),[0,1,2,3,4,5,6,7,8,9,10,11,12,13,14,15,16,17,18,19,20,21,22,23,24,25],(.new [])⟩,
zl 83 (.pick (.t 69) (kB true) (.t 82)) [0,1,2,3,4,5,6,7,8,9,10,11,12,13,14,15,16,17,18,19,20,21,22,23,24,25,26] []]))
 (.cond (.t 83)
 (.seq (.reg [Qf 2 false])
 .ret)
 .skip)))
 (.reg [Qa 54 5,
Qm 55 54 1,
Qa 5 55]))))))))))
 (.reg [Qa 10 3,
Qm 11 10 1,
Qa 3 11])))))))
 (.seq (.reg [Qf 2 true])
 .ret)))⟩
theorem F16_ok{x0 r}(h:F16 x0=some r):CallD Try.prog 16 [.c (dM (x0.map eObject))] [] (tupV [.c (dB r)]) []:=by
 rw[F16]at h
 refine zc a16 (by kernel_rfl) rfl (ww ?_)
 obtain⟨o1,ho,h⟩:=bi h
 refine cutS (fun s=>∃po1,o1=Sum.inr po1∧s=⟨[],[]⟩) ?_ ?_
 ·have h0o1:=h
  have h:=ho
  clear ho
  obtain⟨_,hk,h⟩:=bi h
  have hk:=ck_some hk
  refine ww ?_
  refine bL (fun j s=>∃(o1_0:Nat),(o1_0≤x0.length∧j=x0.length-o1_0)∧s=⟨[(0,oc (dM (x0.map eObject))),(3,oc (dI ((o1_0:Int))))],[]⟩∧F16_l1 x0 (x0.drop o1_0) o1_0=some o1) (x0.length-0) [] ⟨0,⟨hk.1,rfl⟩,rfl,h⟩ ?_
  rintro _ _ ⟨o1_0,⟨hi,rfl⟩,rfl,h⟩
  refine ww ?_
  refine condS (fun c2=>?_) (fun c2=>?_)
  ·obtain⟨xo1,hxo1,hd⟩:=countY (show(o1_0:Int)<(x0.length:Int)from c2)
   rw[hd,F16_l1]at h
   refine ww ?_
   refine t_idxF (enc:=eObject) (xs:=x0) rfl rfl hxo1 rfl (ww ?_)
   obtain⟨o3,ho,h⟩:=bi h
   refine cutS (fun s=>s=⟨[(0,oc (dM (x0.map eObject))),(3,oc (dI ((o1_0:Int)))),(50,oc (dB o3))],[]⟩) ?_ ?_
   ·have h:=ho
    clear ho
    refine ww ?_
    refine t_idxF (enc:=eObject) (xs:=x0) rfl rfl hxo1 rfl (ww ?_)
    refine guardDh h (fun g4 h=>ww ?_) (fun g4 h=>ww ?_)
    ·cases h
     exact eM [] rfl
    obtain⟨t5,ht5,h⟩:=bi h
    refine cN [] (F33_ok ht5) trivial (ww ?_)
    obtain⟨t6,ht6,h⟩:=bi h
    refine callX_borF (F33_ok ht6) (by simp only[borAs,bors,hp,List.getElem?_cons_zero,List.getElem?_cons_succ,Option.join_some,List.drop_zero,bor_full',true_and,Nat.zero_add,List.length_map,Nat.le_refl,nrm,List.length_cons,List.length_nil,Nat.reduceAdd,Nat.reduceLeDiff,List.take_succ_cons,List.take_zero,List.take_nil,List.map_cons,List.map_nil,List.length_set,EE.down]) rfl ⟨flat_rows (enc:=eS) (fun _=>rfl) _,trivial⟩ ?_
    refine ww ?_
    refine guardDh h (fun g7 h=>ww ?_) (fun g7 h=>ww ?_)
    ·cases h
     exact eM [] rfl
    refine guardDh h (fun g8 h=>ww ?_) (fun g8 h=>ww ?_)
    ·cases h
     exact eM [] rfl
    refine guardDh h (fun g9 h=>ww ?_) (fun g9 h=>ww ?_)
    ·obtain⟨y10,hy10,h⟩:=bi h
     refine t_idxF (enc:=eS) (xs:=xo1.Meta.Finalizers) rfl rfl hy10 rfl (ww ?_)
     obtain⟨y11,hy11,h⟩:=bi h
     refine t_idxF (enc:=eS) (xs:=xo1.Meta.Finalizers) rfl rfl hy11 rfl (ww ?_)
     cases h
     exact eM [] rfl
    cases h
    exact eM [] rfl
   rintro _ rfl
   clear ho
   refine ww ?_
   refine condBh h (fun c12 h=>ww ?_) (fun c12 h=>ww ?_)
   ·obtain⟨fh0o1,hfh0o1,rfl⟩:=Option.map_eq_some_iff.1 h
    have h:=hfh0o1.trans h0o1
    cases h
    exact eF []
   obtain⟨o13,ho,h⟩:=bi h
   refine cutS (fun s=>∃po13,o13=Sum.inr po13∧s=⟨[(0,oc (dM (x0.map eObject))),(3,oc (dI ((o1_0:Int))))],[]⟩) ?_ ?_
   ·have h0o13:=h
    have h:=ho
    clear ho
    refine ww ?_
    refine bL (fun j s=>∃(o13_0:Int),s=⟨[(0,oc (dM (x0.map eObject))),(3,oc (dI ((o1_0:Int)))),(5,oc (dI o13_0))],[]⟩∧F16_l13 o1_0 x0 xo1 j o13_0=some o13) 1099511627776 [] ⟨0,rfl,h⟩ ?_
    rintro j _ ⟨o13_0,rfl,h⟩
    cases j with
    |zero=>cases(show(none:Option _)=some _ from h)
    |succ j=>
     rw[F16_l13]at h
     refine ww ?_
     refine condSh h (fun c14 h=>ww ?_) (fun c14 h=>?_)
     ·obtain⟨o15,ho,h⟩:=bi h
      refine cutS (fun s=>s=⟨[(0,oc (dM (x0.map eObject))),(3,oc (dI ((o1_0:Int)))),(5,oc (dI o13_0)),(83,oc (dB o15))],[]⟩) ?_ ?_
      ·have h:=ho
       clear ho
       refine ww ?_
       obtain⟨y16,hy16,h⟩:=bi h
       refine t_idxF (enc:=eObject) (xs:=x0) rfl rfl hy16 rfl (ww ?_)
       refine t_idxF (enc:=eObject) (xs:=x0) rfl rfl hxo1 rfl (ww ?_)
       refine guardDh h (fun g17 h=>ww ?_) (fun g17 h=>?_)
       ·cases h
        exact eM [] rfl
       ·refine ww ?_
        refine t_idxF (enc:=eObject) (xs:=x0) rfl rfl hy16 rfl (ww ?_)
        obtain⟨t18,ht18,h⟩:=bi h
        refine cN [] (F30_ok ht18) trivial (ww ?_)
        refine t_idxF (enc:=eObject) (xs:=x0) rfl rfl hxo1 rfl (ww ?_)
        obtain⟨t19,ht19,h⟩:=bi h
        refine cN [] (F30_ok ht19) trivial (ww ?_)
        cases h
        exact eM [] rfl
      ·rintro _ rfl
       clear ho
       refine ww ?_
       refine condBh h (fun c20 h=>ww ?_) (fun c20 h=>?_)
       ·obtain⟨fh0o13,hfh0o13,rfl⟩:=Option.map_eq_some_iff.1 h
        have h:=hfh0o13.trans h0o13
        obtain⟨fh0o1,hfh0o1,rfl⟩:=Option.map_eq_some_iff.1 h
        have h:=hfh0o1.trans h0o1
        cases h
        exact eF []
       ·refine ww ?_
        exact eL' j [] ⟨(IntKind.i64.wrap (o13_0+1)),rfl,h⟩ (Nat.lt_succ_self _)
     ·refine ww ?_
      cases h
      exact eM [] ⟨_,rfl,rfl⟩
   rintro _ ⟨po13,rfl,rfl⟩
   clear ho
   dsimp only at h
   refine ww ?_
   rw[wrapN (by omega)]
   exact eL' (x0.length-(o1_0+1)) [] ⟨o1_0+1,⟨by omega,rfl⟩,rfl,h⟩ (by omega)
  rw[countN (show¬((o1_0:Int)<(x0.length:Int))from c2),F16_l1]at h
  refine ww ?_
  cases h
  exact eM [] ⟨_,rfl,rfl⟩
 rintro _ ⟨po1,rfl,rfl⟩
 clear ho
 dsimp only at h
 refine ww ?_
 cases h
 exact eF []
def F47(x0:(List Owner))(b0:Int)(b1:Bool):Option (Bool):=(F55v4 x0 b0 b1).bind fun t1=>some (decide (0≤t1))
def a47:AFn:=⟨9,[(.tmp 4)],
 (.seq (.reg [Qf 4 false])
 (.seq (.reg [Qa 5 0,
Qa 6 1,
Ql 7 55 5 6,
sq 8 (.bin .geq (.t 7) (kI 0)),
Qa 4 8])
 .ret))⟩
theorem F47_ok{x0 b0 b1 r}(h:F47 x0 b0 b1=some r):CallD Try.prog 47 [.c (dM (x0.map eOwner)),.c (.fn 48 [(0,0),(1,0)])] [xb [dI b0],xb [dB b1]] (tupV [.c (dB r)]) [xb [dI b0],xb [dB b1]]:=by
 rw[F47]at h
 refine zc a47 (by kernel_rfl) rfl (ww ?_)
 obtain⟨t1,ht1,h⟩:=bi h
 refine cN [0,1] (F55v4_ok ht1) ⟨⟨rfl,by simp[Blk.live,C.live,hp]⟩,⟨⟨rfl,by simp[Blk.live,C.live,hp]⟩,trivial⟩⟩ ?_
 refine ww ?_
 cases h
 exact eF [some 0,some 1]
def F25(x0:Object)(x1:Int)(x2:Bool):Option (Bool):=(F47 x0.Meta.Owners x1 x2).bind fun t1=>some t1
def a25:AFn:=⟨12,[(.tmp 6)],
 (.seq (.reg [Qg 3 0,
Qg 4 1,
Qg 5 2,
Qf 6 false])
 (.seq (.reg [Qb 7 0 3,
Qb 8 10 7,
Qd 9 8,
sq 10 (.fn 48 [(.t 4),(.t 5)]),
Ql 11 47 9 10,
Qa 6 11])
 .ret))⟩
theorem F25_ok{x0 x1 x2 r}(h:F25 x0 x1 x2=some r):CallD Try.prog 25 [.agg (bObject x0),.c (dI x1),.c (dB x2)] [] (tupV [.c (dB r)]) []:=by
 rw[F25]at h
 refine zc a25 (by kernel_rfl) rfl (ww ?_)
 obtain⟨t1,ht1,h⟩:=bi h
 refine cN [1,2] (F47_ok ht1) ⟨⟨rfl,by simp[Blk.live,C.live,hp]⟩,⟨⟨rfl,by simp[Blk.live,C.live,hp]⟩,trivial⟩⟩ ?_
 refine ww ?_
 cases h
 exact eF []
def F12_l1(x1:Int):List Object→Nat→(List ByteArray)→Option ((List ByteArray))
 |[],o1_1,o1_0=>some o1_0
 |xo1::xs,o1_1,o1_0=>(((F25 xo1 x1 false).bind fun t4=>(if t4=true then(F26 xo1.Meta).bind fun t6=>(apI o1_0 ([t6])).bind fun a7=>some a7 else some o1_0)).bind fun o3=>F12_l1 x1 xs (o1_1+1) o3)
def F12(x0:(List Object))(x1:Int):Option ((List ByteArray)):=(((ck (0≤x0.length∧x0.length≤4294967290)).bind fun u8=>F12_l1 x1 x0 0 ([])).bind fun o1=>(sortI o1).bind fun t9=>(compI t9).bind fun t10=>some t10)
def a12:AFn:=⟨28,[(.tmp 4)],
 (.seq (.reg [sq 4 (.mv kN)])
 (.seq (.reg [sq 5 (.mv kN)])
 (.seq (.seq (.reg [Qa 8 0,
Qh 9 8,
Qe 10 0])
 (.sem (.block 0 (.loop (.seq (.reg [Qn 11 10 9])
 (.seq (.cond (.t 11)
 .skip
 (.exit 0))
 (.seq (.sem (.block 1 (.seq (.reg [Qp 12 23 8 10,
Qc 13 23 12,
sq 7 (.zbox [dS ⟨#[]⟩,dS ⟨#[]⟩,dS ⟨#[]⟩,dI 0,dI 0,dI 0,dI 0,dB false,dI 0,dN,dN,dN,dN,dI 0,dI 0,dS ⟨#[]⟩,dN,dN,dI 0,dI 0,dS ⟨#[]⟩,dN,dN]),
su (.store 23 (.t 7) (.t 13))])
 (.seq (.reg [Qc 14 23 7,
Qa 15 1,
zl 16 (.call 25 [(.t 14),(.t 15),(kB false)]) [] [7]])
 (.cond (.t 16)
 (.reg [Qa 17 5,
Qb 18 0 7,
Qc 19 13 18,
Qk 20 26 19,
sq 21 (.bslice 1 [(.t 20)]),
sq 22 (.app 1 16 (.t 17) (.t 21)),
Qa 5 22])
 .skip)))))
 (.reg [Qm 23 10 1,
Qa 10 23]))))))))
 (.seq (.reg [Qa 24 5,
zl 25 (.call 27 [(.t 24)]) [] []])
 (.seq (.reg [Qa 26 5,
Qk 27 28 26,
Qa 4 27])
 .ret)))))⟩
theorem F12_ok{x0 x1 r}(h:F12 x0 x1=some r):CallD Try.prog 12 [.c (dM (x0.map eObject)),.c (dI x1)] [] (tupV [.c (.own 0 0 0 (r.length) none)]) [some (.arr 0 1 (r.map eS))]:=by
 rw[F12]at h
 refine zc a12 (by kernel_rfl) rfl (ww ?_)
 obtain⟨o1,ho,h⟩:=bi h
 refine cutS (fun s=>s=⟨[(5,oc (.own 0 0 0 (o1.length) none))],[some (.arr 0 1 (o1.map eS))]⟩) ?_ ?_
 ·have h:=ho
  clear ho
  obtain⟨_,hk,h⟩:=bi h
  have hk:=ck_some hk
  refine ww ?_
  refine bL (fun j s=>∃(o1_1:Nat) (o1_0:List ByteArray),(o1_1≤x0.length∧j=x0.length-o1_1)∧s=⟨[(1,oc (dI x1)),(5,oc (.own 0 0 0 (o1_0.length) none)),(8,oc (dM (x0.map eObject))),(9,oc (dI ((x0.length:Int)))),(10,oc (dI ((o1_1:Int))))],[some (.arr 0 1 (o1_0.map eS))]⟩∧F12_l1 x1 (x0.drop o1_1) o1_1 o1_0=some o1) (x0.length-0) [none] ⟨0,[],⟨hk.1,rfl⟩,rfl,h⟩ ?_
  rintro _ _ ⟨o1_1,o1_0,⟨hi,rfl⟩,rfl,h⟩
  refine ww ?_
  refine condS (fun c2=>?_) (fun c2=>?_)
  ·obtain⟨xo1,hxo1,hd⟩:=countY (show(o1_1:Int)<(x0.length:Int)from c2)
   rw[hd,F12_l1]at h
   refine ww ?_
   obtain⟨o3,ho,h⟩:=bi h
   refine cutS (fun s=>s=⟨[(1,oc (dI x1)),(5,oc (.own 0 0 0 (o3.length) none)),(8,oc (dM (x0.map eObject))),(9,oc (dI ((x0.length:Int)))),(10,oc (dI ((o1_1:Int))))],[some (.arr 0 1 (o3.map eS))]⟩) ?_ ?_
   ·have h:=ho
    clear ho
    refine ww ?_
    refine t_idxF (enc:=eObject) (xs:=x0) rfl rfl hxo1 rfl (ww ?_)
    obtain⟨t4,ht4,h⟩:=bi h
    refine cN [] (F25_ok ht4) trivial (ww ?_)
    refine condBh h (fun c5 h=>ww ?_) (fun c5 h=>ww ?_)
    ·obtain⟨t6,ht6,h⟩:=bi h
     refine cN [] (F26_ok ht6) trivial (ww ?_)
     refine t_bslice (enc:=eS) (ys:=[t6]) rfl rfl (by simp[A1.cells]) (by first|rfl|(simp only[List.drop_zero,take_mapL];rfl)|(simp only[lit,List.map_cons,List.map_nil,List.drop_zero,take_mapL,EE.down];done)|(simp only[lit,List.map_cons,List.map_nil,List.drop_zero,take_mapL,EE.down];rfl)) (ww ?_)
     obtain⟨a7,ha7,h⟩:=bi h
     refine t_app (enc:=eS) (xs:=o1_0) rfl rfl (by first|rfl|simp only[List.length_set]|exact(clrL_len (slI_len (by assumption))).symm) rfl (rows_full (enc:=eS) (by first|rfl|simp only[List.length_set]|exact(clrL_len (slI_len (by assumption))).symm) rfl) ha7 (ww ?_)
     cases h
     exact eM [some 0] rfl
    cases h
    exact eM [some 0] rfl
   rintro _ rfl
   clear ho
   refine ww ?_
   rw[wrapN (by omega)]
   exact eL' (x0.length-(o1_1+1)) [some 0] ⟨o1_1+1,o3,⟨by omega,rfl⟩,rfl,h⟩ (by omega)
  rw[countN (show¬((o1_1:Int)<(x0.length:Int))from c2),F12_l1]at h
  refine ww ?_
  cases h
  exact eM [some 0] rfl
 rintro _ rfl
 clear ho
 refine ww ?_
 obtain⟨t9,ht9,h⟩:=bi h
 refine cN [0] (F27_ok (e0:=0) ht9) ⟨⟨rfl,trivial⟩,trivial⟩ ?_
 refine ww ?_
 obtain⟨t10,ht10,h⟩:=bi h
 refine callX_n [0] (F28_ok (e0:=0) ht10) ?_ ?_ ?_ ?_ ?_ ?_
 ·first|rfl|simp[nrmA,nrmC,nrm,A1.ren,C.ren,rn,List.length_set,sortI_len ht9]
 ·simp[liveAll,A1.live,C.live,hp]
 ·rfl
 ·decide
 ·exact⟨⟨rfl,trivial⟩,trivial⟩
 refine ww ?_
 cases h
 exact eF [some 0] (hB:=by simp only[ZZ.down,Nat.reduceEqDiff,reduceCtorEq,Nat.reduceAdd,Nat.reduceLeDiff,Nat.reduceLT,Nat.reduceBNe,EE.down,sortI_len ht9]) (hs:=by simp only[ZZ.down,Nat.reduceEqDiff,reduceCtorEq,Nat.reduceAdd,Nat.reduceLeDiff,Nat.reduceLT,Nat.reduceBNe,EE.down,sortI_len ht9])
end Go.Proofs.Ytdejhahgpojnoaa
