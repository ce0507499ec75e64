/- Each Go function as a function over typed data, and its walk. -/
import Derived.Test.YtondgcmdhkhkkaaGreatW0
import Derived.Test.YtondgcmdhkhkkaaGreatW16
namespace Go.Proofs.YtondgcmdhkhkkaaGreat
open Go Go.Fw Go.Shelf
set_option maxRecDepth 100000
set_option maxHeartbeats 4000000
set_option linter.unusedSimpArgs false
set_option linter.unusedVariables false
def F19_l1(x0:(List Event))(x1:(List Event)):Nat→Int→Option ((Bool) ⊕ (Unit))
 |0,_=>none
 |k+1,o1_0=>(((if o1_0<(x0.length:Int)then some (decide (o1_0<(x1.length:Int)))else some false)).bind fun o2=>(if o2=true then(((rdI x0 o1_0).bind fun y6=>(rdI x1 o1_0).bind fun y7=>(if¬(y6.Type_=y7.Type_)then some true else(if¬(y6.Rev=y7.Rev)then some true else(F45 y6.Object y7.Object).bind fun t10=>some (nb t10)))).bind fun o5=>(if o5=true then(some false).map Sum.inl else F19_l1 x0 x1 k ((IntKind.i64.wrap (o1_0+1)))))else some (Sum.inr (()))))
def F19(x0:(List Event))(x1:(List Event)):Option (Bool):=((F19_l1 x0 x1 1099511627776 0:Option ((Bool) ⊕ (Unit))).bind fun o1=>match o1 with|Sum.inl f=>some f|Sum.inr po1=>some (decide ((x0.length:Int)=(x1.length:Int))))
def a19:AFn:=⟨61,[(.tmp 4)],
 (.seq (.reg [sq 4 (.mv (kB false))])
 (.seq (.seq (.reg [sq 5 (.mv (kI 0))])
 (.sem (.block 0 (.loop (.seq (.seq (.sem (.reg [sq 6 (.mv (.t 5)),
sq 7 (.mv (.t 0)),
sq 8 (.len (.t 7)),
sq 9 (.bin .lss (.t 6) (.t 8)),
sq 10 (.mv (.t 9)),
zg 11 10 true (.mv (.t 5)),
zg 12 10 true (.mv (.t 1)),
zg 13 10 true (.len (.t 12)),
zg 14 10 true (.bin .lss (.t 11) (.t 13)),
zl 15 (.pick (.t 10) (.t 14) (kB false)) [] [7,12]]))
 (.cond (.t 15)
 .skip
 (.exit 0)))
 (.seq (.block 1 (.seq (.sem (.regd [sq 18 (.mv (.t 0)),
sq 19 (.mv (.t 5)),
sd 20 (.indexA 25 (.t 18) (.t 19)) [0,1],
sd 21 (.fieldA 0 (.t 20)) [0,1,2],
sd 22 (.load none (.t 21)) [0,1,2,3],
sq 23 (.mv (.t 1)),
sq 24 (.mv (.t 5)),
sd 25 (.indexA 25 (.t 23) (.t 24)) [5,6],
sd 26 (.fieldA 0 (.t 25)) [5,6,7],
sd 27 (.load none (.t 26)) [5,6,7,8],
sd 28 (.bin .neq (.t 22) (.t 27)) [0,1,2,3,4,5,6,7,8,9],
sd 29 (.mv (.t 28)) [0,1,2,3,4,5,6,7,8,9,10],
⟨(some 30),(some (29,false)),.mv (.t 0),[0,1,2,3,4,5,6,7,8,9,10,11],(.new [])⟩,
⟨(some 31),(some (29,false)),.mv (.t 5),[0,1,2,3,4,5,6,7,8,9,10,11],(.new [])⟩,
⟨(some 32),(some (29,false)),.indexA 25 (.t 30) (.t 31),[0,1,2,3,4,5,6,7,8,9,10,11,12,13],(.new [])⟩,
⟨(some 33),(some (29,false)),.fieldA 1 (.t 32),[0,1,2,3,4,5,6,7,8,9,10,11,12,13,14],(.new [])⟩,
⟨(some 34),(some (29,false)),.load none (.t 33),[0,1,2,3,4,5,6,7,8,9,10,11,12,13,14,15],(.new [])⟩,
⟨(some 35),(some (29,false)),.mv (.t 1),[0,1,2,3,4,5,6,7,8,9,10,11],(.new [])⟩,
⟨(some 36),(some (29,false)),.mv (.t 5),[0,1,2,3,4,5,6,7,8,9,10,11],(.new [])⟩,
⟨(some 37),(some (29,false)),.indexA 25 (.t 35) (.t 36),[0,1,2,3,4,5,6,7,8,9,10,11,17,18],(.new [])⟩,
⟨(some 38),(some (29,false)),.fieldA 1 (.t 37),[0,1,2,3,4,5,6,7,8,9,10,11,17,18,19],(.new [])⟩,
⟨(some 39),(some (29,false)),.load none (.t 38),[0,1,2,3,4,5,6,7,8,9,10,11,17,18,19,20],(.new [])⟩,
⟨(some 40),(some (29,false)),.bin .neq (.t 34) (.t 39),[0,1,2,3,4,5,6,7,8,9,10,11,12,13,14,15,16,17,18,19,20,21],(.new [])⟩,
zl 41 (.pick (.t 29) (kB true) (.t 40)) [0,1,2,3,4,5,6,7,8,9,10,11,12,13,14,15,16,17,18,19,20,21,22] [],
sd 42 (.mv (.t 41)) [0,1,2,3,4,5,6,7,8,9,10,11,12,13,14,15,16,17,18,19,20,21,22,23],
⟨(some 43),(some (42,false)),.mv (.t 0),[0,1,2,3,4,5,6,7,8,9,10,11,12,13,14,15,16,17,18,19,20,21,22,23,24],(.new [])⟩,
⟨(some 44),(some (42,false)),.mv (.t 5),[0,1,2,3,4,5,6,7,8,9,10,11,12,13,14,15,16,17,18,19,20,21,22,23,24],(.new [])⟩,
⟨(some 45),(some (42,false)),.indexA 25 (.t 43) (.t 44),[0,1,2,3,4,5,6,7,8,9,10,11,12,13,14,15,16,17,18,19,20,21,22,23,24,25,26],(.new [])⟩,
⟨(some 46),(some (42,false)),.fieldA 2 (.t 45),[0,1,2,3,4,5,6,7,8,9,10,11,12,13,14,15,16,17,18,19,20,21,22,23,24,25,26,27],(.new [])⟩,
⟨(some 47),(some (42,false)),.load (some 23) (.t 46),[0,1,2,3,4,5,6,7,8,9,10,11,12,13,14,15,16,17,18,19,20,21,22,23,24,25,26,27,28],(.new [])⟩,
⟨(some 48),(some (42,false)),.mv (.t 1),[0,1,2,3,4,5,6,7,8,9,10,11,12,13,14,15,16,17,18,19,20,21,22,23,24],(.new [])⟩,
⟨(some 49),(some (42,false)),.mv (.t 5),[0,1,2,3,4,5,6,7,8,9,10,11,12,13,14,15,16,17,18,19,20,21,22,23,24],(.new [])⟩,
⟨(some 50),(some (42,false)),.indexA 25 (.t 48) (.t 49),[0,1,2,3,4,5,6,7,8,9,10,11,12,13,14,15,16,17,18,19,20,21,22,23,24,30,31],(.new [])⟩,
⟨(some 51),(some (42,false)),.fieldA 2 (.t 50),[0,1,2,3,4,5,6,7,8,9,10,11,12,13,14,15,16,17,18,19,20,21,22,23,24,30,31,32],(.new [])⟩,
⟨(some 52),(some (42,false)),.load (some 23) (.t 51),[0,1,2,3,4,5,6,7,8,9,10,11,12,13,14,15,16,17,18,19,20,21,22,23,24,30,31,32,33],(.new [])⟩,
⟨(some 53),(some (42,false)),.call 45 [(.t 47),(.t 52)],[0,1,2,3,4,5,6,7,8,9,10,11,12,13,14,15,16,17,18,19,20,21,22,23,24,25,26,27,28,29,30,31,32,33,34],(.lone [])⟩,
⟨(some 54),(some (42,false)),.not (.t 53),[0,1,2,3,4,5,6,7,8,9,10,11,12,13,14,15,16,17,18,19,20,21,22,23,24,25,26,27,28,29,30,31,32,33,34,35],(.new [])⟩,
zl 55 (.pick (.t 42) (kB true) (.t 54)) [0,1,2,3,4,5,6,7,8,9,10,11,12,13,14,15,16,17,18,19,20,21,22,23,24,25,26,27,28,29,30,31,32,33,34,35,36] []]))
 (.cond (.t 55)
 (.seq (.reg [sq 4 (.mv (kB false))])
 .ret)
 .skip)))
 (.reg [sq 16 (.mv (.t 5)),
sq 17 (.bin .add (.t 16) (kI 1)),
sq 5 (.mv (.t 17))])))))))
 (.seq (.reg [sq 56 (.mv (.t 0)),
sq 57 (.len (.t 56)),
sq 58 (.mv (.t 1)),
sq 59 (.len (.t 58)),
sq 60 (.bin .eql (.t 57) (.t 59)),
sq 4 (.mv (.t 60))])
 .ret)))⟩
theorem a19_ok:afn Tryz.prog 19=some a19.er:=by kernel_rfl
theorem F19_ok{x0 x1 r}(h:F19 x0 x1=some r):CallD Tryz.prog 19 [.c (dM (x0.map eEvent)),.c (dM (x1.map eEvent))] [] (tupV [.c (dB r)]) []:=by
 refine callS a19_ok (by simp[a19]) ?_
 rw[F19]at h
 simp only[a19,VW.down,Nat.reduceEqDiff,reduceCtorEq,Nat.reduceAdd,Nat.reduceLeDiff,Nat.reduceLT,Nat.reduceBEq,Nat.reduceSub,EE.down]
 obtain⟨o1,ho,h⟩:=bi h
 refine cutS (fun s=>∃po1,o1=Sum.inr po1∧s=⟨[(0,.one (.c (dM (x0.map eEvent)))),(1,.one (.c (dM (x1.map eEvent))))],[]⟩) ?_ ?_
 ·have h0o1:=h
  have h:=ho
  clear ho
  refine ww ?_
  refine bL (fun j s=>∃(o1_0:Int),s=⟨[(0,.one (.c (dM (x0.map eEvent)))),(1,.one (.c (dM (x1.map eEvent)))),(5,.one (.c (dI o1_0)))],[]⟩∧F19_l1 x0 x1 j o1_0=some o1) 1099511627776 [] ⟨0,rfl,h⟩ ?_
  rintro j _ ⟨o1_0,rfl,h⟩
  cases j with
  |zero=>cases(show(none:Option _)=some _ from h)
  |succ j=>
   rw[F19_l1]at h
   refine ww ?_
   obtain⟨o2,ho,h⟩:=bi h
   refine cutS (fun s=>s=⟨[(0,.one (.c (dM (x0.map eEvent)))),(1,.one (.c (dM (x1.map eEvent)))),(5,.one (.c (dI o1_0))),(15,.one (.c (dB o2)))],[]⟩) ?_ ?_
   ·have h:=ho
    clear ho
    refine ww ?_
    refine guardSh h (fun g3 h=>?_) (fun g3 h=>?_)
    ·refine ww ?_
     cases h
     exact eM [] rfl
    ·refine ww ?_
     cases h
     exact eM [] rfl
   ·rintro _ rfl
    clear ho
    refine ww ?_
    refine condBh h (fun c4 h=>?_) (fun c4 h=>?_)
    ·refine ww ?_
     obtain⟨o5,ho,h⟩:=bi h
     refine cutS (fun s=>s=⟨[(0,.one (.c (dM (x0.map eEvent)))),(1,.one (.c (dM (x1.map eEvent)))),(5,.one (.c (dI o1_0))),(55,.one (.c (dB o5)))],[]⟩) ?_ ?_
     ·have h:=ho
      clear ho
      refine ww ?_
      obtain⟨y6,hy6,h⟩:=bi h
      refine t_idxF (enc:=eEvent) (xs:=x0) rfl rfl hy6 rfl (ww ?_)
      obtain⟨y7,hy7,h⟩:=bi h
      refine t_idxF (enc:=eEvent) (xs:=x1) rfl rfl hy7 rfl (ww ?_)
      refine guardDh h (fun g8 h=>?_) (fun g8 h=>?_)
      ·refine ww ?_
       cases h
       exact eM [] rfl
      ·refine ww ?_
       refine t_idxF (enc:=eEvent) (xs:=x0) rfl rfl hy6 rfl (ww ?_)
       refine t_idxF (enc:=eEvent) (xs:=x1) rfl rfl hy7 rfl (ww ?_)
       refine guardDh h (fun g9 h=>?_) (fun g9 h=>?_)
       ·refine ww ?_
        cases h
        exact eM [] rfl
       ·refine ww ?_
        refine t_idxF (enc:=eEvent) (xs:=x0) rfl rfl hy6 rfl (ww ?_)
        refine t_idxF (enc:=eEvent) (xs:=x1) rfl rfl hy7 rfl (ww ?_)
        obtain⟨t10,ht10,h⟩:=bi h
        refine cN [] (F45_ok ht10) trivial (ww ?_)
        cases h
        exact eM [] rfl
     ·rintro _ rfl
      clear ho
      refine ww ?_
      refine condBh h (fun c11 h=>?_) (fun c11 h=>?_)
      ·refine ww ?_
       obtain⟨fh0o1,hfh0o1,rfl⟩:=Option.map_eq_some_iff.1 h
       have h:=hfh0o1.trans h0o1
       cases h
       exact eF []
      ·refine ww ?_
       exact eL' j [] ⟨(IntKind.i64.wrap (o1_0+1)),rfl,h⟩ (Nat.lt_succ_self _)
    ·refine ww ?_
     cases h
     exact eM [] ⟨_,rfl,rfl⟩
 rintro _ ⟨po1,rfl,rfl⟩
 clear ho
 dsimp only at h
 refine ww ?_
 cases h
 exact eF []
end Go.Proofs.YtondgcmdhkhkkaaGreat
