/- Each Go function as a function over typed data, and its walk. -/
import Derived.Test.YtedgocbpegllaaaW0
import Derived.Test.YtedgocbpegllaaaW2
import Derived.Test.YtedgocbpegllaaaW4
import Derived.Test.YtedgocbpegllaaaW6
import Derived.Test.YtedgocbpegllaaaW7
namespace Go.Proofs.Ytedgocbpegllaaa
open Go Go.Fw Go.Shelf
set_option maxRecDepth 100000
set_option maxHeartbeats 4000000
set_option linter.unusedSimpArgs false
set_option linter.unusedVariables false
def F7(x0:Budget)(x1:(List Pod))(x2:Int)(x3:Int):Option (Bool):=(F8 ([x0]) x1).bind fun t1=>(if t1=true then(F9).bind fun t3=>some t3 else(F11 x0 x1 x2 x3).bind fun t4=>(((if 0≤t4.2.2.2.2.2.2.2.2.2.1 then(if 0≤t4.2.2.2.2.2.2.2.2.1 then(if 0≤t4.2.2.2.2.2.2.2.1 then(if t4.2.2.2.2.2.2.2.1≤(x1.length:Int)then(F22 x2 0 1000000000000000).bind fun t10=>(if True then(if t4.2.2.2.2.2.2.2.2.2.1=0 then(if(t4.2.2.2.2.2.2.2.2.2.2.length:Int)≤(x0.Disrupted.length:Int)then(F9).bind fun t14=>some t14 else some false)else(if(IntKind.i64.wrap (t4.2.2.2.2.2.2.2.2.2.1+t4.2.2.2.2.2.2.2.2.1))=t4.2.2.2.2.2.2.2.1 then(if(t4.2.2.2.2.2.2.2.2.2.2.length:Int)≤(x0.Disrupted.length:Int)then(F9).bind fun t17=>some t17 else some false)else some false))else some false)else some false)else some false)else some false)else some false)).bind fun o5=>some o5))
def a7:AFn:=⟨74,[(.tmp 8)],
 (.seq (.reg [Qg 4 0,
Qf 8 false])
 (.seq (.seq (.reg [Qc 10 22 4,
sq 11 (.bslice 22 [(.t 10)]),
Qa 12 1,
Ql 13 8 11 12])
 (.cond (.t 13)
 (.seq (.reg [sq 14 (.call 9 []),
Qa 8 14])
 .ret)
 .skip))
 (.seq (.reg [Qc 15 22 4,
Qa 16 1,
Qa 17 2,
Qa 18 3,
sq 19 (.call 11 [(.t 15),(.t 16),(.t 17),(.t 18)]),
sq 9 (.zbox [dS ⟨#[]⟩,dS ⟨#[]⟩,dS ⟨#[]⟩,dI 0,dI 0,dI 0,dI 0,dB false,dI 0,dN,dN,dN,dN,dN,dN,dN,dI 0,dI 0,dI 0,dI 0,dI 0,dN]),
su (.store 22 (.t 9) (.t 19))])
 (.seq (.sem (.regd [Qb 20 20 9,
sd 21 (.load none (.t 20)) [0],
sd 22 (.bin .geq (.t 21) (kI 0)) [0,1],
sd 23 (.mv (.t 22)) [0,1,2],
⟨(some 24),(some (23,true)),.fieldA 18 (.t 9),[0,1,2,3],(.new [])⟩,
⟨(some 25),(some (23,true)),.load none (.t 24),[0,1,2,3,4],(.new [])⟩,
⟨(some 26),(some (23,true)),.bin .geq (.t 25) (kI 0),[0,1,2,3,4,5],(.new [])⟩,
zl 27 (.pick (.t 23) (.t 26) (kB false)) [0,1,2,3,4,5,6] [],
sd 28 (.mv (.t 27)) [0,1,2,3,4,5,6,7],
⟨(some 29),(some (28,true)),.fieldA 17 (.t 9),[0,1,2,3,4,5,6,7,8],(.new [])⟩,
⟨(some 30),(some (28,true)),.load none (.t 29),[0,1,2,3,4,5,6,7,8,9],(.new [])⟩,
⟨(some 31),(some (28,true)),.bin .geq (.t 30) (kI 0),[0,1,2,3,4,5,6,7,8,9,10],(.new [])⟩,
zl 32 (.pick (.t 28) (.t 31) (kB false)) [0,1,2,3,4,5,6,7,8,9,10,11] [],
sd 33 (.mv (.t 32)) [0,1,2,3,4,5,6,7,8,9,10,11,12],
⟨(some 34),(some (33,true)),.fieldA 17 (.t 9),[0,1,2,3,4,5,6,7,8,9,10,11,12,13],(.new [])⟩,
⟨(some 35),(some (33,true)),.load none (.t 34),[0,1,2,3,4,5,6,7,8,9,10,11,12,13,14],(.new [])⟩,
⟨(some 36),(some (33,true)),.mv (.t 1),[0,1,2,3,4,5,6,7,8,9,10,11,12,13],(.new [])⟩,
⟨(some 37),(some (33,true)),.len (.t 36),[0,1,2,3,4,5,6,7,8,9,10,11,12,13,16],(.new [])⟩,
⟨(some 38),(some (33,true)),.bin .leq (.t 35) (.t 37),[0,1,2,3,4,5,6,7,8,9,10,11,12,13,14,15,16,17],(.new [])⟩,
zl 39 (.pick (.t 33) (.t 38) (kB false)) [0,1,2,3,4,5,6,7,8,9,10,11,12,13,14,15,16,17,18] [],
sd 40 (.mv (.t 39)) [0,1,2,3,4,5,6,7,8,9,10,11,12,13,14,15,16,17,18,19],
⟨(some 41),(some (40,true)),.fieldA 19 (.t 9),[0,1,2,3,4,5,6,7,8,9,10,11,12,13,14,15,16,17,18,19,20],(.new [])⟩,
⟨(some 42),(some (40,true)),.load none (.t 41),[0,1,2,3,4,5,6,7,8,9,10,11,12,13,14,15,16,17,18,19,20,21],(.new [])⟩,
⟨(some 43),(some (40,true)),.mv (.t 2),[0,1,2,3,4,5,6,7,8,9,10,11,12,13,14,15,16,17,18,19,20],(.new [])⟩,
⟨(some 44),(some (40,true)),.call 22 [(.t 43),(kI 0),(kI 1000000000000000)],[0,1,2,3,4,5,6,7,8,9,10,11,12,13,14,15,16,17,18,19,20,23],(.lone [9,41])⟩,
⟨(some 45),(some (40,true)),.bin .eql (.t 42) (.t 44),[0,1,2,3,4,5,6,7,8,9,10,11,12,13,14,15,16,17,18,19,20,21,22,23,24],(.new [])⟩,
zl 46 (.pick (.t 40) (.t 45) (kB false)) [0,1,2,3,4,5,6,7,8,9,10,11,12,13,14,15,16,17,18,19,20,21,22,23,24,25] [],
sd 47 (.mv (.t 46)) [0,1,2,3,4,5,6,7,8,9,10,11,12,13,14,15,16,17,18,19,20,21,22,23,24,25,26],
⟨(some 48),(some (47,true)),.fieldA 20 (.t 9),[0,1,2,3,4,5,6,7,8,9,10,11,12,13,14,15,16,17,18,19,20,21,22,23,24,25,26,27],(.new [])⟩,
⟨(some 49),(some (47,true)),.load none (.t 48),[0,1,2,3,4,5,6,7,8,9,10,11,12,13,14,15,16,17,18,19,20,21,22,23,24,25,26,27,28],(.new [])⟩,
⟨(some 50),(some (47,true)),.bin .eql (.t 49) (kI 0),[0,1,2,3,4,5,6,7,8,9,10,11,12,13,14,15,16,17,18,19,20,21,22,23,24,25,26,27,28,29],(.new [])⟩,
⟨(some 51),(some (47,true)),.mv (.t 50),[0,1,2,3,4,5,6,7,8,9,10,11,12,13,14,15,16,17,18,19,20,21,22,23,24,25,26,27,28,29,30],(.new [])⟩,
⟨(some 52),(some (51,false)),.fieldA 20 (.t 9),[0,1,2,3,4,5,6,7,8,9,10,11,12,13,14,15,16,17,18,19,20,21,22,23,24,25,26,27,28,29,30,31],(.new [])⟩,
⟨(some 53),(some (51,false)),.load none (.t 52),[0,1,2,3,4,5,6,7,8,9,10,11,12,13,14,15,16,17,18,19,20,21,22,23,24,25,26,27,28,29,30,31,32],(.new [])⟩,
⟨(some 54),(some (51,false)),.fieldA 18 (.t 9),[0,1,2,3,4,5,6,7,8,9,10,11,12,13,14,15,16,17,18,19,20,21,22,23,24,25,26,27,28,29,30,31],(.new [])⟩,
⟨(some 55),(some (51,false)),.load none (.t 54),[0,1,2,3,4,5,6,7,8,9,10,11,12,13,14,15,16,17,18,19,20,21,22,23,24,25,26,27,28,29,30,31,34],(.new [])⟩,
⟨(some 56),(some (51,false)),.bin .add (.t 53) (.t 55),[0,1,2,3,4,5,6,7,8,9,10,11,12,13,14,15,16,17,18,19,20,21,22,23,24,25,26,27,28,29,30,31,32,33,34,35],(.new [])⟩,
⟨(some 57),(some (51,false)),.fieldA 17 (.t 9),[0,1,2,3,4,5,6,7,8,9,10,11,12,13,14,15,16,17,18,19,20,21,22,23,24,25,26,27,28,29,30,31],(.new [])⟩,
⟨(some 58),(some (51,false)),.load none (.t 57),[0,1,2,3,4,5,6,7,8,9,10,11,12,13,14,15,16,17,18,19,20,21,22,23,24,25,26,27,28,29,30,31,37],(.new [])⟩,
⟨(some 59),(some (51,false)),.bin .eql (.t 56) (.t 58),[0,1,2,3,4,5,6,7,8,9,10,11,12,13,14,15,16,17,18,19,20,21,22,23,24,25,26,27,28,29,30,31,32,33,34,35,36,37,38],(.new [])⟩,
⟨(some 60),(some (47,true)),.pick (.t 51) (kB true) (.t 59),[0,1,2,3,4,5,6,7,8,9,10,11,12,13,14,15,16,17,18,19,20,21,22,23,24,25,26,27,28,29,30,31,32,33,34,35,36,37,38,39],(.lone [])⟩,
zl 61 (.pick (.t 47) (.t 60) (kB false)) [0,1,2,3,4,5,6,7,8,9,10,11,12,13,14,15,16,17,18,19,20,21,22,23,24,25,26,27,28,29,30,31,32,33,34,35,36,37,38,39,40] [],
sd 62 (.mv (.t 61)) [0,1,2,3,4,5,6,7,8,9,10,11,12,13,14,15,16,17,18,19,20,21,22,23,24,25,26,27,28,29,30,31,32,33,34,35,36,37,38,39,40,41],
⟨(some 63),(some (62,true)),.fieldA 21 (.t 9),[0,1,2,3,4,5,6,7,8,9,10,11,12,13,14,15,16,17,18,19,20,21,22,23,24,25,26,27,28,29,30,31,32,33,34,35,36,37,38,39,40,41,42],(.new [])⟩,
⟨(some 64),(some (62,true)),.load none (.t 63),[0,1,2,3,4,5,6,7,8,9,10,11,12,13,14,15,16,17,18,19,20,21,22,23,24,25,26,27,28,29,30,31,32,33,34,35,36,37,38,39,40,41,42,43],(.new [])⟩,
⟨(some 65),(some (62,true)),.len (.t 64),[0,1,2,3,4,5,6,7,8,9,10,11,12,13,14,15,16,17,18,19,20,21,22,23,24,25,26,27,28,29,30,31,32,33,34,35,36,37,38,39,40,41,42,43,44],(.new [])⟩,
⟨(some 66),(some (62,true)),.fieldA 21 (.t 4),[0,1,2,3,4,5,6,7,8,9,10,11,12,13,14,15,16,17,18,19,20,21,22,23,24,25,26,27,28,29,30,31,32,33,34,35,36,37,38,39,40,41,42],(.new [])⟩,
⟨(some 67),(some (62,true)),.load none (.t 66),[0,1,2,3,4,5,6,7,8,9,10,11,12,13,14,15,16,17,18,19,20,21,22,23,24,25,26,27,28,29,30,31,32,33,34,35,36,37,38,39,40,41,42,46],(.new [])⟩,
⟨(some 68),(some (62,true)),.len (.t 67),[0,1,2,3,4,5,6,7,8,9,10,11,12,13,14,15,16,17,18,19,20,21,22,23,24,25,26,27,28,29,30,31,32,33,34,35,36,37,38,39,40,41,42,46,47],(.new [])⟩,
⟨(some 69),(some (62,true)),.bin .leq (.t 65) (.t 68),[0,1,2,3,4,5,6,7,8,9,10,11,12,13,14,15,16,17,18,19,20,21,22,23,24,25,26,27,28,29,30,31,32,33,34,35,36,37,38,39,40,41,42,43,44,45,46,47,48],(.new [])⟩,
zl 70 (.pick (.t 62) (.t 69) (kB false)) [0,1,2,3,4,5,6,7,8,9,10,11,12,13,14,15,16,17,18,19,20,21,22,23,24,25,26,27,28,29,30,31,32,33,34,35,36,37,38,39,40,41,42,43,44,45,46,47,48,49] [],
sd 71 (.mv (.t 70)) [0,1,2,3,4,5,6,7,8,9,10,11,12,13,14,15,16,17,18,19,20,21,22,23,24,25,26,27,28,29,30,31,32,33,34,35,36,37,38,39,40,41,42,43,44,45,46,47,48,49,50],
⟨(some 72),(some (71,true)),.call 9 [],[0,1,2,3,4,5,6,7,8,9,10,11,12,13,14,15,16,17,18,19,20,21,22,23,24,25,26,27,28,29,30,31,32,33,34,35,36,37,38,39,40,41,42,43,44,45,46,47,48,49,50,51],(.lone [])⟩,
zl 73 (.pick (.t 71) (.t 72) (kB false)) [0,1,2,3,4,5,6,7,8,9,10,11,12,13,14,15,16,17,18,19,20,21,22,23,24,25,26,27,28,29,30,31,32,33,34,35,36,37,38,39,40,41,42,43,44,45,46,47,48,49,50,51,52] [],
sd 8 (.mv (.t 73)) [0,1,2,3,4,5,6,7,8,9,10,11,12,13,14,15,16,17,18,19,20,21,22,23,24,25,26,27,28,29,30,31,32,33,34,35,36,37,38,39,40,41,42,43,44,45,46,47,48,49,50,51,52,53]]))
 .ret))))⟩
theorem F7_ok{x0 x1 x2 x3 r}(h:F7 x0 x1 x2 x3=some r):CallD Try.prog 7 [.agg (bBudget x0),.c (dM (x1.map ePod)),.c (dI x2),.c (dI x3)] [] (tupV [.c (dB r)]) []:=by
 rw[F7]at h
 refine zc a7 (by kernel_rfl) rfl (ww ?_)
 refine t_bslice (enc:=eBudget) (ys:=[x0]) rfl rfl (by simp[A1.cells]) (by first|rfl|(simp only[List.drop_zero,take_mapL];rfl)|(simp only[lit,List.map_cons,List.map_nil,List.drop_zero,take_mapL,EE.down];done)|(simp only[lit,List.map_cons,List.map_nil,List.drop_zero,take_mapL,EE.down];rfl)) (ww ?_)
 obtain⟨t1,ht1,h⟩:=bi h
 refine callX_bor (F8_ok ht1) (by simp only[borAs,bors,hp,List.getElem?_cons_zero,List.getElem?_cons_succ,Option.join_some,List.drop_zero,bor_full',true_and,Nat.zero_add,List.length_map,Nat.le_refl,nrm,List.length_cons,List.length_nil,Nat.reduceAdd,Nat.reduceLeDiff,List.take_succ_cons,List.take_zero,List.take_nil,List.map_cons,List.map_nil,List.length_set,EE.down]) rfl ?_
 refine ww ?_
 refine condBh h (fun c2 h=>ww ?_) (fun c2 h=>ww ?_)
 ·obtain⟨t3,ht3,h⟩:=bi h
  refine cN [] (F9_ok ht3) trivial (ww ?_)
  cases h
  exact eF []
 obtain⟨t4,ht4,h⟩:=bi h
 refine cN [] (F11_ok ht4) trivial (ww ?_)
 obtain⟨o5,ho,h⟩:=bi h
 refine cutS (fun s=>s=⟨[(8,oc (dB o5))],[]⟩) ?_ ?_
 ·have h:=ho
  clear ho
  refine ww ?_
  refine guardDh h (fun g6 h=>ww ?_) (fun g6 h=>ww ?_)
  ·refine guardDh h (fun g7 h=>ww ?_) (fun g7 h=>ww ?_)
   ·refine guardDh h (fun g8 h=>ww ?_) (fun g8 h=>ww ?_)
    ·refine guardDh h (fun g9 h=>ww ?_) (fun g9 h=>ww ?_)
     ·obtain⟨t10,ht10,h⟩:=bi h
      refine cN [] (F22_ok ht10) trivial (ww ?_)
      refine guardDh h (fun g11 h=>ww ?_) (fun g11 h=>ww ?_)
      ·refine guardDh h (fun g12 h=>ww ?_) (fun g12 h=>ww ?_)
       ·refine guardDh h (fun g13 h=>ww ?_) (fun g13 h=>ww ?_)
        ·obtain⟨t14,ht14,h⟩:=bi h
         refine cN [] (F9_ok ht14) trivial (ww ?_)
         cases h
         exact eM [] rfl
        cases h
        exact eM [] rfl
       refine guardDh h (fun g15 h=>ww ?_) (fun g15 h=>ww ?_)
       ·refine guardDh h (fun g16 h=>ww ?_) (fun g16 h=>ww ?_)
        ·obtain⟨t17,ht17,h⟩:=bi h
         refine cN [] (F9_ok ht17) trivial (ww ?_)
         cases h
         exact eM [] rfl
        cases h
        exact eM [] rfl
       cases h
       exact eM [] rfl
      cases h
      exact eM [] rfl
     cases h
     exact eM [] rfl
    cases h
    exact eM [] rfl
   cases h
   exact eM [] rfl
  cases h
  exact eM [] rfl
 rintro _ rfl
 clear ho
 refine ww ?_
 cases h
 exact eF []
end Go.Proofs.Ytedgocbpegllaaa
