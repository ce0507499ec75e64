/- Each Go function as a function over typed data, and its walk. -/
import Derived.Test.YtojbebejhgbfeaaGreatW0
import Derived.Test.YtojbebejhgbfeaaGreatW4
import Derived.Test.YtojbebejhgbfeaaGreatW5
import Derived.Test.YtojbebejhgbfeaaGreatW6
import Derived.Test.YtojbebejhgbfeaaGreatW8
open Go.IntKind renaming i64->XC,u64->XD
open Option renaming some->XF,none->XG
open Nat renaming lt_succ_self->XH
open Bool renaming true->XI,false->XJ
namespace Go.Proofs.YtojbebejhgbfeaaGreat
open Go Go.Fw Go.Shelf
set_option maxRecDepth 100000
set_option maxHeartbeats 4000000
set_option linter.unusedSimpArgs false
set_option linter.unusedVariables false
def F196(x0:Entry)(x1:Entry):Option (Int):=(if((((decide (0<x0.dE))==(decide (0<x1.dE)))!=XI))=XI then(if 0<x0.dE then XF ((-1))else XF 1)else(F198 x0.eJ x1.eJ).bind fun t3=>(F198 x1.dE x0.dE).bind fun t4=>(F32 x0.key x1.key).bind fun t5=>(F197 ((lit [t3,t4,t5]))).bind fun t6=>XF t6)
def a196:dG:=⟨32,[(.tmp 4)],
 (.seq (.reg [Qg 2 0,
Qg 3 1,
Qe 4 0])
 (.seq (.seq (.reg [Qb 6 3 2,
Qd 7 6,
sq 8 (.bin .gtr (.t 7) (kI 0)),
Qa 5 8])
 (.seq (.reg [Qa 9 5,
Qb 10 3 3,
Qd 11 10,
sq 12 (.bin .gtr (.t 11) (kI 0)),
sq 13 (.beq XI (.t 9) (.t 12))])
 (.cond (.t 13)
 (.seq (.seq (.reg [Qa 14 5])
 (.cond (.t 14)
 (.seq (.reg [sq 4 (.mv (kI (-1)))])
 .ret)
 .skip))
 (.seq (.reg [Qe 4 1])
 .ret))
 .skip)))
 (.seq (.regd [Qb 15 1 2,
sd 16 (.load XG (.t 15)) [0],
Qb 17 1 3,
sd 18 (.load XG (.t 17)) [2],
zn 19 (.call 198 [(.t 16),(.t 18)]) [0,1,2,3] [0,1,2,3],
Qb 20 3 3,
sd 21 (.load XG (.t 20)) [5],
Qb 22 3 2,
sd 23 (.load XG (.t 22)) [7],
zn 24 (.call 198 [(.t 21),(.t 23)]) [0,1,2,3,4,5,6,7,8] [0,1,2,3,4,5,6,7,8],
Qb 25 0 2,
sd 26 (.load XG (.t 25)) [10],
Qb 27 0 3,
sd 28 (.load XG (.t 27)) [12],
zl 29 (.call 32 [(.t 26),(.t 28)]) [0,1,2,3,4,5,6,7,8,9,10,11,12,13] [],
zl 30 (.bslice 1 [(.t 19),(.t 24),(.t 29)]) [0,1,2,3,4,5,6,7,8,9,10,11,12,13,14] [],
zl 31 (.call 197 [(.t 30)]) [0,1,2,3,4,5,6,7,8,9,10,11,12,13,14,15] [],
sd 4 (.mv (.t 31)) [0,1,2,3,4,5,6,7,8,9,10,11,12,13,14,15,16]])
 .ret)))⟩
theorem F196_ok{x0 x1 r}(h:F196 x0 x1=XF r):aW Tryz.prog 196 [.agg (Kr x0),.agg (Kr x1)] [] (bJ [.c (dI r)]) []:=by
 rw[F196]at h
 refine zc a196 (by kernel_rfl) rfl (ww ?_)
 refine ct h (fun c1 h=>ww ?_) (fun c1 h=>ww ?_)
 ·refine bG h (fun c2 h=>ww ?_) (fun c2 h=>ww ?_)
  ·cases h
   exact eF []
  cases h
  exact eF []
 obtain⟨t3,ht3,h⟩:=bi h
 refine cN [] (F198_ok ht3) trivial (ww ?_)
 obtain⟨t4,ht4,h⟩:=bi h
 refine cN [] (F198_ok ht4) trivial (ww ?_)
 obtain⟨t5,ht5,h⟩:=bi h
 refine cN [] (F32_ok ht5) trivial (ww ?_)
 refine tB (enc:=eI) (ys:=(lit [t3,t4,t5])) rfl rfl (ww ?_)
 obtain⟨t6,ht6,h⟩:=bi h
 refine cB (F197_ok ht6) rfl ?_
 refine ww ?_
 cases h
 exact eF []
def F226_l3(x1:Int):Nat→(List Entry)→Int→Option ((List Entry))
 |0,_,_=>XG
 |k+1,o3_0,o3_1=>(((if x1<o3_1 then(cI o3_0 o3_1).bind fun y6=>(cI o3_0 ((XC.wrap (o3_1-1)))).bind fun y7=>(F196 y6 y7).bind fun t8=>XF (decide (t8<0))else XF XJ)).bind fun o4=>(if o4=XI then(cI o3_0 ((XC.wrap (o3_1-1)))).bind fun y10=>(cI o3_0 o3_1).bind fun y11=>(cI ((o3_0.set o3_1.toNat y10)) ((XC.wrap (o3_1-1)))).bind fun y12=>F226_l3 x1 k ((((o3_0.set o3_1.toNat y10)).set ((XC.wrap (o3_1-1))).toNat y11)) ((XC.wrap (o3_1-1)))else XF o3_0))
def F226_l1(x1:Int)(x2:Int):Nat→(List Entry)→Int→Option ((List Entry))
 |0,_,_=>XG
 |k+1,o1_0,o1_1=>(if o1_1<x2 then((F226_l3 x1 1099511627776 o1_0 o1_1).bind fun o3=>F226_l1 x1 x2 k o3 ((XC.wrap (o1_1+1))))else XF o1_0)
def F226i(x0:(List Entry))(x1:Int)(x2:Int):Option ((List Entry)):=((F226_l1 x1 x2 1099511627776 x0 ((XC.wrap (x1+1)))).bind fun o1=>XF o1)
def F226(x0:(List Entry))(x1:Int)(x2:Int):Option ((List Entry)):=(F226i x0 x1 x2).bind fun r=>if r.length=x0.length then XF r else XG
theorem F226_len0{x0:(List Entry)}{x1:Int}{x2:Int}{r:(List Entry)}(h:F226 x0 x1 x2=XF r):r.length=x0.length:=(bp h).2
def a226:dG:=⟨53,[],
 (.seq (.reg [Qa 10 1,
Qm 11 10 1,
Qa 8 11])
 (.sem (.block 0 (.loop (.seq (.seq (.reg [Qa 12 8,
Qa 13 2,
Qn 14 12 13])
 (.cond (.t 14)
 .skip
 (.exit 0)))
 (.seq (.block 1 (.seq (.reg [Qa 17 8,
Qa 9 17])
 (.sem (.block 2 (.loop (.seq (.seq (.sem (.regd [Qa 18 9,
Qa 19 1,
sd 20 (.bin .gtr (.t 18) (.t 19)) [0,1],
sd 21 (.mv (.t 20)) [0,1,2],
⟨(XF 22),(XF (21,XI)),.mv (.t 3),[0,1,2,3],(.new [])⟩,
⟨(XF 23),(XF (21,XI)),.mv (.t 0),[0,1,2,3],(.new [])⟩,
⟨(XF 24),(XF (21,XI)),.mv (.t 9),[0,1,2,3],(.new [])⟩,
⟨(XF 25),(XF (21,XI)),.indexA 4 (.t 23) (.t 24),[0,1,2,3,5,6],(.new [])⟩,
⟨(XF 26),(XF (21,XI)),.load (XF 4) (.t 25),[0,1,2,3,5,6,7],(.new [])⟩,
⟨(XF 27),(XF (21,XI)),.mv (.t 0),[0,1,2,3],(.new [])⟩,
⟨(XF 28),(XF (21,XI)),.mv (.t 9),[0,1,2,3],(.new [])⟩,
⟨(XF 29),(XF (21,XI)),.bin .sub (.t 28) (kI 1),[0,1,2,3,10],(.new [])⟩,
⟨(XF 30),(XF (21,XI)),.indexA 4 (.t 27) (.t 29),[0,1,2,3,9,10,11],(.new [])⟩,
⟨(XF 31),(XF (21,XI)),.load (XF 4) (.t 30),[0,1,2,3,9,10,11,12],(.new [])⟩,
⟨(XF 32),(XF (21,XI)),.callv (.t 22) [(.t 26),(.t 31)],[0,1,2,3,4,5,6,7,8,9,10,11,12,13],(.lone [])⟩,
⟨(XF 33),(XF (21,XI)),.bin .lss (.t 32) (kI 0),[0,1,2,3,4,5,6,7,8,9,10,11,12,13,14],(.new [])⟩,
zl 34 (.pick (.t 21) (.t 33) (kB XJ)) [0,1,2,3,4,5,6,7,8,9,10,11,12,13,14,15] []]))
 (.cond (.t 34)
 .skip
 (.exit 2)))
 (.seq (.block 3 (.regd [Qa 37 0,
Qa 38 9,
Qa 39 0,
Qa 40 9,
sd 41 (.bin .sub (.t 40) (kI 1)) [3],
Qa 42 0,
Qa 43 9,
sd 44 (.bin .sub (.t 43) (kI 1)) [6],
sd 45 (.indexA 4 (.t 42) (.t 44)) [5,6,7],
sd 46 (.load (XF 4) (.t 45)) [5,6,7,8],
Qa 47 0,
Qa 48 9,
sd 49 (.indexA 4 (.t 47) (.t 48)) [10,11],
sd 50 (.load (XF 4) (.t 49)) [10,11,12],
sd 51 (.indexA 4 (.t 37) (.t 38)) [0,1,5,6,7,8,9,10,11,12,13],
⟨XG,XG,.store 4 (.t 51) (.t 46),[0,1,5,6,7,8,9,10,11,12,13,14],(.lone [])⟩,
sd 52 (.indexA 4 (.t 39) (.t 41)) [0,1,2,3,4,5,6,7,8,9,10,11,12,13,14,15],
⟨XG,XG,.store 4 (.t 52) (.t 50),[0,1,2,3,4,5,6,7,8,9,10,11,12,13,14,15,16],(.lone [])⟩]))
 (.reg [Qa 35 9,
sq 36 (.bin .sub (.t 35) (kI 1)),
Qa 9 36]))))))))
 (.reg [Qa 15 8,
Qm 16 15 1,
Qa 8 16])))))))⟩
theorem F226_ok{x0 x1 x2 r}{e0:Nat}(h:F226 x0 x1 x2=XF r):aW Tryz.prog 226 [.c (ow 0 e0 x0),.c (dI x1),.c (dI x2),.c (.fn 196 [])] [cA e0 x0] (bJ []) [cA e0 r]:=by
 replace h:=(bp h).1
 rw[F226i]at h
 refine zc a226 (by kernel_rfl) rfl (ww ?_)
 obtain⟨o1,ho,h⟩:=bi h
 refine bD (fun s=>s=⟨[],[cA e0 o1]⟩) ?_ ?_
 ·have h:=ho
  refine ww ?_
  refine bL (fun j s=>∃(o1_0:List Entry) (o1_1:Int),s=⟨[(0,oc (ow 0 e0 o1_0)),(1,oI x1),(2,oI x2),(3,oc (.fn 196 [])),(8,oI o1_1)],[cA e0 o1_0]⟩∧F226_l1 x1 x2 j o1_0 o1_1=XF o1) 1099511627776 [XF 0] ⟨x0,(XC.wrap (x1+1)),rfl,h⟩ ?_
  rintro j _ ⟨o1_0,o1_1,rfl,h⟩
  cases j with
  |zero=>cases(show(XG:Option _)=XF _ from h)
  |succ j=>
   rw[F226_l1]at h
   refine ww ?_
   refine bG h (fun c2 h=>ww ?_) (fun c2 h=>?_)
   ·obtain⟨o3,ho,h⟩:=bi h
    refine bD (fun s=>s=⟨[(0,oc (ow 0 e0 o3)),(1,oI x1),(2,oI x2),(3,oc (.fn 196 [])),(8,oI o1_1)],[cA e0 o3]⟩) ?_ ?_
    ·have h:=ho
     refine ww ?_
     refine bL (fun j s=>∃(o3_0:List Entry) (o3_1:Int),s=⟨[(0,oc (ow 0 e0 o3_0)),(1,oI x1),(2,oI x2),(3,oc (.fn 196 [])),(8,oI o1_1),(9,oI o3_1)],[cA e0 o3_0]⟩∧F226_l3 x1 j o3_0 o3_1=XF o3) 1099511627776 [XF 0] ⟨o1_0,o1_1,rfl,h⟩ ?_
     rintro j _ ⟨o3_0,o3_1,rfl,h⟩
     cases j with
     |zero=>cases(show(XG:Option _)=XF _ from h)
     |succ j=>
      rw[F226_l3]at h
      refine ww ?_
      obtain⟨o4,ho,h⟩:=bi h
      refine bD (fun s=>s=⟨[(0,oc (ow 0 e0 o3_0)),(1,oI x1),(2,oI x2),(3,oc (.fn 196 [])),(8,oI o1_1),(9,oI o3_1),(34,oB o4)],[cA e0 o3_0]⟩) ?_ ?_
      ·have h:=ho
       refine ww ?_
       refine ib h (fun g5 h=>ww ?_) (fun g5 h=>?_)
       ·obtain⟨y6,hy6,h⟩:=bi h
        refine tO (enc:=ft) (xs:=o3_0) rfl rfl rfl hy6 (ww ?_)
        refine cD.rd (aQ hy6).2.1 (ww ?_)
        obtain⟨y7,hy7,h⟩:=bi h
        have qx:=q1 (bc hy6)
        refine lV (enc:=ft) (xs:=o3_0) rfl rfl rfl hy7 (ww ?_)
        refine cD.rd (aQ hy7).2.1 (ww ?_)
        obtain⟨t8,ht8,h⟩:=bi h
        have qx:=q2 (bc hy6) (bc hy7)
        refine cQ [] (F196_ok ht8) (ww ?_)
        cases h
        have qx:=q2 (bc hy6) (bc hy7)
        exact fI [XF 0] rfl
       ·refine ww ?_
        cases h
        exact eM [XF 0] rfl
      ·rintro _ rfl
       refine ww ?_
       refine ct h (fun c9 h=>ww ?_) (fun c9 h=>?_)
       ·obtain⟨y10,hy10,h⟩:=bi h
        refine tO (enc:=ft) (xs:=o3_0) rfl rfl rfl hy10 (ww ?_)
        refine cD.rd (aQ hy10).2.1 (ww ?_)
        obtain⟨y11,hy11,h⟩:=bi h
        have qx:=q1 (bc hy10)
        refine lV (enc:=ft) (xs:=o3_0) rfl rfl rfl hy11 (ww ?_)
        refine cD.rd (aQ hy11).2.1 (ww ?_)
        have qx:=q2 (bc hy10) (bc hy11)
        refine lV (enc:=ft) (xs:=o3_0) rfl rfl rfl hy11 (ww ?_)
        refine eu.rd (y':=y10) (aQ hy11).2.1 (by simp[EE.down]) (by first|rfl|(simp only[b5];rfl)) (ww ?_)
        obtain⟨y12,hy12,h⟩:=bi h
        have qx:=q2 (bc hy10) (bc hy11)
        refine lV (enc:=ft) (xs:=((o3_0.set o3_1.toNat y10))) rfl rfl rfl hy12 (ww ?_)
        refine eu.rd (y':=y11) (aQ hy12).2.1 (by simp[EE.down]) (by first|rfl|(simp only[b5];rfl)) (ww ?_)
        have qx:=q3 (bc hy10) (bc hy11) (bc hy12)
        exact iI j [XF 0] ⟨(((o3_0.set o3_1.toNat y10)).set ((XC.wrap (o3_1-1))).toNat y11),(XC.wrap (o3_1-1)),rfl,h⟩ (XH _)
       ·refine ww ?_
        cases h
        exact eM [XF 0] rfl
    ·rintro _ rfl
     refine ww ?_
     exact jo j [XF 0] ⟨o3,(XC.wrap (o1_1+1)),rfl,h⟩ (XH _)
   ·refine ww ?_
    cases h
    exact eM [XF 0] rfl
 rintro _ rfl
 refine ww ?_
 cases h
 exact eF [XF 0]
def F227_l2(x0:(List Entry))(x1:Int):Nat→Int→Int→Option (Int)
 |0,_,_=>XG
 |k+1,o2_0,o2_1=>(if o2_0<o2_1 then(cI x0 ((XC.wrap ((fi .u64 ((XD.wrap ((XC.wrap (o2_0+o2_1))))) 1))))).bind fun y4=>(cI x0 x1).bind fun y5=>(F196 y4 y5).bind fun t6=>(if t6<0 then F227_l2 x0 x1 k ((XC.wrap (((XC.wrap ((fi .u64 ((XD.wrap ((XC.wrap (o2_0+o2_1))))) 1))))+1))) o2_1 else F227_l2 x0 x1 k o2_0 ((XC.wrap ((fi .u64 ((XD.wrap ((XC.wrap (o2_0+o2_1))))) 1)))))else XF o2_0)
def F227_l8(o2:Int):Nat→(List Entry)→Int→Option ((List Entry))
 |0,_,_=>XG
 |k+1,o8_0,o8_1=>(if o8_1<(XC.wrap (o2-1))then(cI o8_0 ((XC.wrap (o8_1+1)))).bind fun y10=>(cI o8_0 o8_1).bind fun y11=>(cI ((o8_0.set o8_1.toNat y10)) ((XC.wrap (o8_1+1)))).bind fun y12=>F227_l8 o2 k ((((o8_0.set o8_1.toNat y10)).set ((XC.wrap (o8_1+1))).toNat y11)) ((XC.wrap (o8_1+1)))else XF o8_0)
def F227_l14(x0:(List Entry))(x2:Int):Nat→Int→Int→Option (Int)
 |0,_,_=>XG
 |k+1,o14_0,o14_1=>(if o14_0<o14_1 then(cI x0 x2).bind fun y16=>(cI x0 ((XC.wrap ((fi .u64 ((XD.wrap ((XC.wrap (o14_0+o14_1))))) 1))))).bind fun y17=>(F196 y16 y17).bind fun t18=>(if¬(t18<0)then F227_l14 x0 x2 k ((XC.wrap (((XC.wrap ((fi .u64 ((XD.wrap ((XC.wrap (o14_0+o14_1))))) 1))))+1))) o14_1 else F227_l14 x0 x2 k o14_0 ((XC.wrap ((fi .u64 ((XD.wrap ((XC.wrap (o14_0+o14_1))))) 1)))))else XF o14_0)
def F227_l20(o14:Int):Nat→(List Entry)→Int→Option ((List Entry))
 |0,_,_=>XG
 |k+1,o20_0,o20_1=>(if o14<o20_1 then(cI o20_0 ((XC.wrap (o20_1-1)))).bind fun y22=>(cI o20_0 o20_1).bind fun y23=>(cI ((o20_0.set o20_1.toNat y22)) ((XC.wrap (o20_1-1)))).bind fun y24=>F227_l20 o14 k ((((o20_0.set o20_1.toNat y22)).set ((XC.wrap (o20_1-1))).toNat y23)) ((XC.wrap (o20_1-1)))else XF o20_0)
def F227_l27(x0:(List Entry))(x1:Int)(x2:Int)(x3:Int):Nat→Int→Int→Option (Int)
 |0,_,_=>XG
 |k+1,o27_0,o27_1=>(if o27_0<o27_1 then(cI x0 ((XC.wrap (((XC.wrap (((XC.wrap (((XC.wrap ((fi .u64 ((XD.wrap ((XC.wrap (x1+x3))))) 1))))+x2)))-1)))-((XC.wrap ((fi .u64 ((XD.wrap ((XC.wrap (o27_0+o27_1))))) 1)))))))).bind fun y29=>(cI x0 ((XC.wrap ((fi .u64 ((XD.wrap ((XC.wrap (o27_0+o27_1))))) 1))))).bind fun y30=>(F196 y29 y30).bind fun t31=>(if¬(t31<0)then F227_l27 x0 x1 x2 x3 k ((XC.wrap (((XC.wrap ((fi .u64 ((XD.wrap ((XC.wrap (o27_0+o27_1))))) 1))))+1))) o27_1 else F227_l27 x0 x1 x2 x3 k o27_0 ((XC.wrap ((fi .u64 ((XD.wrap ((XC.wrap (o27_0+o27_1))))) 1)))))else XF o27_0)
def F227i(rc93:(List Entry)→Int→Int→Int→Option ((List Entry)))(x0:(List Entry))(x1:Int)(x2:Int)(x3:Int):Option ((List Entry)):=(if(XC.wrap (x2-x1))=1 then((F227_l2 x0 x1 1099511627776 x2 x3).bind fun o2=>((F227_l8 o2 1099511627776 x0 x1).bind fun o8=>XF o8))else(if(XC.wrap (x3-x2))=1 then((F227_l14 x0 x2 1099511627776 x1 x2).bind fun o14=>((F227_l20 o14 1099511627776 x0 x2).bind fun o20=>XF o20))else(((if(XC.wrap ((fi .u64 ((XD.wrap ((XC.wrap (x1+x3))))) 1)))<x2 then XF (((XC.wrap (((XC.wrap (((XC.wrap ((fi .u64 ((XD.wrap ((XC.wrap (x1+x3))))) 1))))+x2)))-x3)),(XC.wrap ((fi .u64 ((XD.wrap ((XC.wrap (x1+x3))))) 1)))))else XF ((x1,x2)))).bind fun o25=>((F227_l27 x0 x1 x2 x3 1099511627776 o25.1 o25.2).bind fun o27=>(((((if o27<x2 then XF (decide (x2<(XC.wrap (((XC.wrap (((XC.wrap ((fi .u64 ((XD.wrap ((XC.wrap (x1+x3))))) 1))))+x2)))-o27))))else XF XJ)).bind fun o34=>(if o34=XI then(F228 x0 o27 x2 ((XC.wrap (((XC.wrap (((XC.wrap ((fi .u64 ((XD.wrap ((XC.wrap (x1+x3))))) 1))))+x2)))-o27)))).bind fun t37=>XF t37 else XF x0))).bind fun o33=>(((((if x1<o27 then XF (decide (o27<(XC.wrap ((fi .u64 ((XD.wrap ((XC.wrap (x1+x3))))) 1)))))else XF XJ)).bind fun o39=>(if o39=XI then(rc93 o33 x1 o27 ((XC.wrap ((fi .u64 ((XD.wrap ((XC.wrap (x1+x3))))) 1))))).bind fun t42=>XF t42 else XF o33))).bind fun o38=>(((if(XC.wrap ((fi .u64 ((XD.wrap ((XC.wrap (x1+x3))))) 1)))<(XC.wrap (((XC.wrap (((XC.wrap ((fi .u64 ((XD.wrap ((XC.wrap (x1+x3))))) 1))))+x2)))-o27))then XF (decide ((XC.wrap (((XC.wrap (((XC.wrap ((fi .u64 ((XD.wrap ((XC.wrap (x1+x3))))) 1))))+x2)))-o27))<x3))else XF XJ)).bind fun o43=>(if o43=XI then(rc93 o38 ((XC.wrap ((fi .u64 ((XD.wrap ((XC.wrap (x1+x3))))) 1)))) ((XC.wrap (((XC.wrap (((XC.wrap ((fi .u64 ((XD.wrap ((XC.wrap (x1+x3))))) 1))))+x2)))-o27))) x3).bind fun t46=>XF t46 else XF o38))))))))
def F227(rc93:(List Entry)→Int→Int→Int→Option ((List Entry)))(x0:(List Entry))(x1:Int)(x2:Int)(x3:Int):Option ((List Entry)):=(F227i rc93 x0 x1 x2 x3).bind fun r=>if r.length=x0.length then XF r else XG
theorem F227_len0{rc93:(List Entry)→Int→Int→Int→Option ((List Entry))}{x0:(List Entry)}{x1:Int}{x2:Int}{x3:Int}{r:(List Entry)}(h:F227 rc93 x0 x1 x2 x3=XF r):r.length=x0.length:=(bp h).2
def a227:dG:=⟨220,[],
 (.seq (.seq (.reg [Qa 25 2,
Qa 26 1,
sq 27 (.bin .sub (.t 25) (.t 26)),
Qr 28 27 1])
 (.cond (.t 28)
 (.seq (.reg [Qa 29 2,
Qa 10 29])
 (.seq (.reg [Qa 30 3,
Qa 11 30])
 (.seq (.sem (.block 0 (.loop (.seq (.seq (.reg [Qa 31 10,
Qa 32 11,
Qn 33 31 32])
 (.cond (.t 33)
 .skip
 (.exit 0)))
 (.block 1 (.seq (.reg [Qa 34 10,
Qa 35 11,
sq 36 (.bin .add (.t 34) (.t 35)),
sq 37 (.conv .u64 (.t 36)),
sq 38 (.bin .shr (.t 37) (.k (.c (.d (.v (.int .u64 1)))))),
sq 39 (.conv .i64 (.t 38)),
Qa 12 39])
 (.seq (.regd [Qa 40 4,
Qa 41 0,
Qa 42 12,
sd 43 (.indexA 4 (.t 41) (.t 42)) [1,2],
sd 44 (.load (XF 4) (.t 43)) [1,2,3],
Qa 45 0,
Qa 46 1,
sd 47 (.indexA 4 (.t 45) (.t 46)) [5,6],
sd 48 (.load (XF 4) (.t 47)) [5,6,7],
zl 49 (.callv (.t 40) [(.t 44),(.t 48)]) [0,1,2,3,4,5,6,7,8] [],
sd 50 (.bin .lss (.t 49) (kI 0)) [0,1,2,3,4,5,6,7,8,9]])
 (.cond (.t 50)
 (.reg [Qa 51 12,
Qm 52 51 1,
Qa 10 52])
 (.reg [Qa 53 12,
Qa 11 53])))))))))
 (.seq (.seq (.reg [Qa 54 1,
Qa 13 54])
 (.sem (.block 2 (.loop (.seq (.seq (.reg [Qa 55 13,
Qa 56 10,
sq 57 (.bin .sub (.t 56) (kI 1)),
Qn 58 55 57])
 (.cond (.t 58)
 .skip
 (.exit 2)))
 (.seq (.block 3 (.regd [Qa 61 0,
Qa 62 13,
Qa 63 0,
Qa 64 13,
sd 65 (.bin .add (.t 64) (kI 1)) [3],
Qa 66 0,
Qa 67 13,
sd 68 (.bin .add (.t 67) (kI 1)) [6],
sd 69 (.indexA 4 (.t 66) (.t 68)) [5,6,7],
sd 70 (.load (XF 4) (.t 69)) [5,6,7,8],
Qa 71 0,
Qa 72 13,
sd 73 (.indexA 4 (.t 71) (.t 72)) [10,11],
sd 74 (.load (XF 4) (.t 73)) [10,11,12],
sd 75 (.indexA 4 (.t 61) (.t 62)) [0,1,5,6,7,8,9,10,11,12,13],
⟨XG,XG,.store 4 (.t 75) (.t 70),[0,1,5,6,7,8,9,10,11,12,13,14],(.lone [])⟩,
sd 76 (.indexA 4 (.t 63) (.t 65)) [0,1,2,3,4,5,6,7,8,9,10,11,12,13,14,15],
⟨XG,XG,.store 4 (.t 76) (.t 74),[0,1,2,3,4,5,6,7,8,9,10,11,12,13,14,15,16],(.lone [])⟩]))
 (.reg [Qa 59 13,
Qm 60 59 1,
Qa 13 60])))))))
 .ret))))
 .skip))
 (.seq (.seq (.reg [Qa 77 3,
Qa 78 2,
sq 79 (.bin .sub (.t 77) (.t 78)),
Qr 80 79 1])
 (.cond (.t 80)
 (.seq (.reg [Qa 81 1,
Qa 14 81])
 (.seq (.reg [Qa 82 2,
Qa 15 82])
 (.seq (.sem (.block 4 (.loop (.seq (.seq (.reg [Qa 83 14,
Qa 84 15,
Qn 85 83 84])
 (.cond (.t 85)
 .skip
 (.exit 4)))
 (.block 5 (.seq (.reg [Qa 86 14,
Qa 87 15,
sq 88 (.bin .add (.t 86) (.t 87)),
sq 89 (.conv .u64 (.t 88)),
sq 90 (.bin .shr (.t 89) (.k (.c (.d (.v (.int .u64 1)))))),
sq 91 (.conv .i64 (.t 90)),
Qa 16 91])
 (.seq (.regd [Qa 92 4,
Qa 93 0,
Qa 94 2,
sd 95 (.indexA 4 (.t 93) (.t 94)) [1,2],
sd 96 (.load (XF 4) (.t 95)) [1,2,3],
Qa 97 0,
Qa 98 16,
sd 99 (.indexA 4 (.t 97) (.t 98)) [5,6],
sd 100 (.load (XF 4) (.t 99)) [5,6,7],
zl 101 (.callv (.t 92) [(.t 96),(.t 100)]) [0,1,2,3,4,5,6,7,8] [],
sd 102 (.bin .lss (.t 101) (kI 0)) [0,1,2,3,4,5,6,7,8,9],
sd 103 (.not (.t 102)) [0,1,2,3,4,5,6,7,8,9,10]])
 (.cond (.t 103)
 (.reg [Qa 104 16,
Qm 105 104 1,
Qa 14 105])
 (.reg [Qa 106 16,
Qa 15 106])))))))))
 (.seq (.seq (.reg [Qa 107 2,
Qa 17 107])
 (.sem (.block 6 (.loop (.seq (.seq (.reg [Qa 108 17,
Qa 109 14,
sq 110 (.bin .gtr (.t 108) (.t 109))])
 (.cond (.t 110)
 .skip
 (.exit 6)))
 (.seq (.block 7 (.regd [Qa 113 0,
Qa 114 17,
Qa 115 0,
Qa 116 17,
sd 117 (.bin .sub (.t 116) (kI 1)) [3],
Qa 118 0,
Qa 119 17,
sd 120 (.bin .sub (.t 119) (kI 1)) [6],
sd 121 (.indexA 4 (.t 118) (.t 120)) [5,6,7],
sd 122 (.load (XF 4) (.t 121)) [5,6,7,8],
Qa 123 0,
Qa 124 17,
sd 125 (.indexA 4 (.t 123) (.t 124)) [10,11],
sd 126 (.load (XF 4) (.t 125)) [10,11,12],
sd 127 (.indexA 4 (.t 113) (.t 114)) [0,1,5,6,7,8,9,10,11,12,13],
⟨XG,XG,.store 4 (.t 127) (.t 122),[0,1,5,6,7,8,9,10,11,12,13,14],(.lone [])⟩,
sd 128 (.indexA 4 (.t 115) (.t 117)) [0,1,2,3,4,5,6,7,8,9,10,11,12,13,14,15],
⟨XG,XG,.store 4 (.t 128) (.t 126),[0,1,2,3,4,5,6,7,8,9,10,11,12,13,14,15,16],(.lone [])⟩]))
 (.reg [Qa 111 17,
sq 112 (.bin .sub (.t 111) (kI 1)),
Qa 17 112])))))))
 .ret))))
 .skip))
 (.seq (.reg [Qa 129 1,
Qa 130 3,
sq 131 (.bin .add (.t 129) (.t 130)),
sq 132 (.conv .u64 (.t 131)),
sq 133 (.bin .shr (.t 132) (.k (.c (.d (.v (.int .u64 1)))))),
sq 134 (.conv .i64 (.t 133)),
Qa 18 134])
 (.seq (.reg [Qa 135 18,
Qa 136 2,
sq 137 (.bin .add (.t 135) (.t 136)),
Qa 19 137])
 (.seq (.reg [Qe 20 0,
Qe 21 0])
 (.seq (.sem (.seq (.reg [Qa 138 2,
Qa 139 18,
sq 140 (.bin .gtr (.t 138) (.t 139))])
 (.cond (.t 140)
 (.seq (.reg [Qa 141 19,
Qa 142 3,
sq 143 (.bin .sub (.t 141) (.t 142)),
Qa 20 143])
 (.reg [Qa 144 18,
Qa 21 144]))
 (.seq (.reg [Qa 145 1,
Qa 20 145])
 (.reg [Qa 146 2,
Qa 21 146])))))
 (.seq (.reg [Qa 147 19,
sq 148 (.bin .sub (.t 147) (kI 1)),
Qa 22 148])
 (.seq (.sem (.block 8 (.loop (.seq (.seq (.reg [Qa 149 20,
Qa 150 21,
Qn 151 149 150])
 (.cond (.t 151)
 .skip
 (.exit 8)))
 (.block 9 (.seq (.reg [Qa 152 20,
Qa 153 21,
sq 154 (.bin .add (.t 152) (.t 153)),
sq 155 (.conv .u64 (.t 154)),
sq 156 (.bin .shr (.t 155) (.k (.c (.d (.v (.int .u64 1)))))),
sq 157 (.conv .i64 (.t 156)),
Qa 23 157])
 (.seq (.regd [Qa 158 4,
Qa 159 0,
Qa 160 22,
Qa 161 23,
sd 162 (.bin .sub (.t 160) (.t 161)) [2,3],
sd 163 (.indexA 4 (.t 159) (.t 162)) [1,2,3,4],
sd 164 (.load (XF 4) (.t 163)) [1,2,3,4,5],
Qa 165 0,
Qa 166 23,
sd 167 (.indexA 4 (.t 165) (.t 166)) [7,8],
sd 168 (.load (XF 4) (.t 167)) [7,8,9],
zl 169 (.callv (.t 158) [(.t 164),(.t 168)]) [0,1,2,3,4,5,6,7,8,9,10] [],
sd 170 (.bin .lss (.t 169) (kI 0)) [0,1,2,3,4,5,6,7,8,9,10,11],
sd 171 (.not (.t 170)) [0,1,2,3,4,5,6,7,8,9,10,11,12]])
 (.cond (.t 171)
 (.reg [Qa 172 23,
Qm 173 172 1,
Qa 20 173])
 (.reg [Qa 174 23,
Qa 21 174])))))))))
 (.seq (.reg [Qa 175 19,
Qa 176 20,
sq 177 (.bin .sub (.t 175) (.t 176)),
Qa 24 177])
 (.seq (.sem (.seq (.sem (.reg [Qa 178 20,
Qa 179 2,
Qn 180 178 179,
Qa 181 180,
Qv 182 181 XI 2,
Qv 183 181 XI 24,
zg 184 181 XI (.bin .lss (.t 182) (.t 183)),
zl 185 (.pick (.t 181) (.t 184) (kB XJ)) [] []]))
 (.cond (.t 185)
 (.reg [Qa 186 0,
Qa 187 20,
Qa 188 2,
Qa 189 24,
Qa 190 4,
zl 191 (.call 228 [(.t 186),(.t 187),(.t 188),(.t 189),(.t 190)]) [] []])
 .skip)))
 (.seq (.sem (.seq (.sem (.reg [Qa 192 1,
Qa 193 20,
Qn 194 192 193,
Qa 195 194,
Qv 196 195 XI 20,
Qv 197 195 XI 18,
zg 198 195 XI (.bin .lss (.t 196) (.t 197)),
zl 199 (.pick (.t 195) (.t 198) (kB XJ)) [] []]))
 (.cond (.t 199)
 (.reg [Qa 200 0,
Qa 201 1,
Qa 202 20,
Qa 203 18,
Qa 204 4,
zl 205 (.call 227 [(.t 200),(.t 201),(.t 202),(.t 203),(.t 204)]) [] []])
 .skip)))
 (.seq (.sem (.reg [Qa 206 18,
Qa 207 24,
Qn 208 206 207,
Qa 209 208,
Qv 210 209 XI 24,
Qv 211 209 XI 3,
zg 212 209 XI (.bin .lss (.t 210) (.t 211)),
zl 213 (.pick (.t 209) (.t 212) (kB XJ)) [] []]))
 (.cond (.t 213)
 (.reg [Qa 214 0,
Qa 215 18,
Qa 216 24,
Qa 217 3,
Qa 218 4,
zl 219 (.call 227 [(.t 214),(.t 215),(.t 216),(.t 217),(.t 218)]) [] []])
 .skip)))))))))))))⟩
theorem F227_ok{rc93:(List Entry)→Int→Int→Int→Option ((List Entry))}(ih93:∀{x0:(List Entry)} {x1:Int} {x2:Int} {x3:Int} {r:(List Entry)} {e0:Nat} (h:rc93 x0 x1 x2 x3=XF r),aW Tryz.prog 227 [.c (ow 0 e0 x0),.c (dI x1),.c (dI x2),.c (dI x3),.c (.fn 196 [])] [cA e0 x0] (bJ []) [cA e0 r])(il93_len0:∀{x0:(List Entry)} {x1:Int} {x2:Int} {x3:Int} {r:(List Entry)} (h:rc93 x0 x1 x2 x3=XF r),r.length=x0.length){x0:(List Entry)}{x1:Int}{x2:Int}{x3:Int}{r:(List Entry)}{e0:Nat}(h:F227 rc93 x0 x1 x2 x3=XF r):aW Tryz.prog 227 [.c (ow 0 e0 x0),.c (dI x1),.c (dI x2),.c (dI x3),.c (.fn 196 [])] [cA e0 x0] (bJ []) [cA e0 r]:=by
 replace h:=(bp h).1
 rw[F227i]at h
 refine zc a227 (by kernel_rfl) rfl (ww ?_)
 refine bG h (fun c1 h=>ww ?_) (fun c1 h=>ww ?_)
 ·obtain⟨o2,ho,h⟩:=bi h
  refine bD (fun s=>s=⟨[(0,oc (ow 0 e0 x0)),(1,oI x1),(10,oI o2)],[cA e0 x0]⟩) ?_ ?_
  ·have h:=ho
   refine ww ?_
   refine bL (fun j s=>∃(o2_0:Int) (o2_1:Int),s=⟨[(0,oc (ow 0 e0 x0)),(1,oI x1),(4,oc (.fn 196 [])),(10,oI o2_0),(11,oI o2_1)],[cA e0 x0]⟩∧F227_l2 x0 x1 j o2_0 o2_1=XF o2) 1099511627776 [XF 0] ⟨x2,x3,rfl,h⟩ ?_
   rintro j _ ⟨o2_0,o2_1,rfl,h⟩
   cases j with
   |zero=>cases(show(XG:Option _)=XF _ from h)
   |succ j=>
    rw[F227_l2]at h
    refine ww ?_
    refine bG h (fun c3 h=>ww ?_) (fun c3 h=>?_)
    ·refine⟨by decide,?_⟩
     refine ww ?_
     obtain⟨y4,hy4,h⟩:=bi h
     refine tO (enc:=ft) (xs:=x0) rfl rfl rfl hy4 (ww ?_)
     refine cD.rd (aQ hy4).2.1 (ww ?_)
     obtain⟨y5,hy5,h⟩:=bi h
     have qx:=q1 (bc hy4)
     refine lV (enc:=ft) (xs:=x0) rfl rfl rfl hy5 (ww ?_)
     refine cD.rd (aQ hy5).2.1 (ww ?_)
     obtain⟨t6,ht6,h⟩:=bi h
     have qx:=q2 (bc hy4) (bc hy5)
     refine cQ [] (F196_ok ht6) (ww ?_)
     refine bG h (fun c7 h=>ww ?_) (fun c7 h=>?_)
     ·have qx:=q2 (bc hy4) (bc hy5)
      exact iI j [XF 0] ⟨(XC.wrap (((XC.wrap ((fi .u64 ((XD.wrap ((XC.wrap (o2_0+o2_1))))) 1))))+1)),o2_1,rfl,h⟩ (XH _)
     ·refine ww ?_
      have qx:=q2 (bc hy4) (bc hy5)
      exact iI j [XF 0] ⟨o2_0,(XC.wrap ((fi .u64 ((XD.wrap ((XC.wrap (o2_0+o2_1))))) 1))),rfl,h⟩ (XH _)
    ·refine ww ?_
     cases h
     exact eM [XF 0] rfl
  rintro _ rfl
  refine ww ?_
  obtain⟨o8,ho,h⟩:=bi h
  refine bD (fun s=>s=⟨[],[cA e0 o8]⟩) ?_ ?_
  ·have h:=ho
   refine ww ?_
   refine bL (fun j s=>∃(o8_0:List Entry) (o8_1:Int),s=⟨[(0,oc (ow 0 e0 o8_0)),(10,oI o2),(13,oI o8_1)],[cA e0 o8_0]⟩∧F227_l8 o2 j o8_0 o8_1=XF o8) 1099511627776 [XF 0] ⟨x0,x1,rfl,h⟩ ?_
   rintro j _ ⟨o8_0,o8_1,rfl,h⟩
   cases j with
   |zero=>cases(show(XG:Option _)=XF _ from h)
   |succ j=>
    rw[F227_l8]at h
    refine ww ?_
    refine bG h (fun c9 h=>ww ?_) (fun c9 h=>?_)
    ·obtain⟨y10,hy10,h⟩:=bi h
     refine tO (enc:=ft) (xs:=o8_0) rfl rfl rfl hy10 (ww ?_)
     refine cD.rd (aQ hy10).2.1 (ww ?_)
     obtain⟨y11,hy11,h⟩:=bi h
     have qx:=q1 (bc hy10)
     refine lV (enc:=ft) (xs:=o8_0) rfl rfl rfl hy11 (ww ?_)
     refine cD.rd (aQ hy11).2.1 (ww ?_)
     have qx:=q2 (bc hy10) (bc hy11)
     refine lV (enc:=ft) (xs:=o8_0) rfl rfl rfl hy11 (ww ?_)
     refine eu.rd (y':=y10) (aQ hy11).2.1 (by simp[EE.down]) (by first|rfl|(simp only[b5];rfl)) (ww ?_)
     obtain⟨y12,hy12,h⟩:=bi h
     have qx:=q2 (bc hy10) (bc hy11)
     refine lV (enc:=ft) (xs:=((o8_0.set o8_1.toNat y10))) rfl rfl rfl hy12 (ww ?_)
     refine eu.rd (y':=y11) (aQ hy12).2.1 (by simp[EE.down]) (by first|rfl|(simp only[b5];rfl)) (ww ?_)
     have qx:=q3 (bc hy10) (bc hy11) (bc hy12)
     exact iI j [XF 0] ⟨(((o8_0.set o8_1.toNat y10)).set ((XC.wrap (o8_1+1))).toNat y11),(XC.wrap (o8_1+1)),rfl,h⟩ (XH _)
    ·refine ww ?_
     cases h
     exact eM [XF 0] rfl
  rintro _ rfl
  refine ww ?_
  cases h
  exact eF [XF 0]
 refine bG h (fun c13 h=>ww ?_) (fun c13 h=>ww ?_)
 ·obtain⟨o14,ho,h⟩:=bi h
  refine bD (fun s=>s=⟨[(0,oc (ow 0 e0 x0)),(2,oI x2),(14,oI o14)],[cA e0 x0]⟩) ?_ ?_
  ·have h:=ho
   refine ww ?_
   refine bL (fun j s=>∃(o14_0:Int) (o14_1:Int),s=⟨[(0,oc (ow 0 e0 x0)),(2,oI x2),(4,oc (.fn 196 [])),(14,oI o14_0),(15,oI o14_1)],[cA e0 x0]⟩∧F227_l14 x0 x2 j o14_0 o14_1=XF o14) 1099511627776 [XF 0] ⟨x1,x2,rfl,h⟩ ?_
   rintro j _ ⟨o14_0,o14_1,rfl,h⟩
   cases j with
   |zero=>cases(show(XG:Option _)=XF _ from h)
   |succ j=>
    rw[F227_l14]at h
    refine ww ?_
    refine bG h (fun c15 h=>ww ?_) (fun c15 h=>?_)
    ·refine⟨by decide,?_⟩
     refine ww ?_
     obtain⟨y16,hy16,h⟩:=bi h
     refine tO (enc:=ft) (xs:=x0) rfl rfl rfl hy16 (ww ?_)
     refine cD.rd (aQ hy16).2.1 (ww ?_)
     obtain⟨y17,hy17,h⟩:=bi h
     have qx:=q1 (bc hy16)
     refine lV (enc:=ft) (xs:=x0) rfl rfl rfl hy17 (ww ?_)
     refine cD.rd (aQ hy17).2.1 (ww ?_)
     obtain⟨t18,ht18,h⟩:=bi h
     have qx:=q2 (bc hy16) (bc hy17)
     refine cQ [] (F196_ok ht18) (ww ?_)
     refine bG h (fun c19 h=>ww ?_) (fun c19 h=>?_)
     ·have qx:=q2 (bc hy16) (bc hy17)
      exact iI j [XF 0] ⟨(XC.wrap (((XC.wrap ((fi .u64 ((XD.wrap ((XC.wrap (o14_0+o14_1))))) 1))))+1)),o14_1,rfl,h⟩ (XH _)
     ·refine ww ?_
      have qx:=q2 (bc hy16) (bc hy17)
      exact iI j [XF 0] ⟨o14_0,(XC.wrap ((fi .u64 ((XD.wrap ((XC.wrap (o14_0+o14_1))))) 1))),rfl,h⟩ (XH _)
    ·refine ww ?_
     cases h
     exact eM [XF 0] rfl
  rintro _ rfl
  refine ww ?_
  obtain⟨o20,ho,h⟩:=bi h
  refine bD (fun s=>s=⟨[],[cA e0 o20]⟩) ?_ ?_
  ·have h:=ho
   refine ww ?_
   refine bL (fun j s=>∃(o20_0:List Entry) (o20_1:Int),s=⟨[(0,oc (ow 0 e0 o20_0)),(14,oI o14),(17,oI o20_1)],[cA e0 o20_0]⟩∧F227_l20 o14 j o20_0 o20_1=XF o20) 1099511627776 [XF 0] ⟨x0,x2,rfl,h⟩ ?_
   rintro j _ ⟨o20_0,o20_1,rfl,h⟩
   cases j with
   |zero=>cases(show(XG:Option _)=XF _ from h)
   |succ j=>
    rw[F227_l20]at h
    refine ww ?_
    refine bG h (fun c21 h=>ww ?_) (fun c21 h=>?_)
    ·obtain⟨y22,hy22,h⟩:=bi h
     refine tO (enc:=ft) (xs:=o20_0) rfl rfl rfl hy22 (ww ?_)
     refine cD.rd (aQ hy22).2.1 (ww ?_)
     obtain⟨y23,hy23,h⟩:=bi h
     have qx:=q1 (bc hy22)
     refine lV (enc:=ft) (xs:=o20_0) rfl rfl rfl hy23 (ww ?_)
     refine cD.rd (aQ hy23).2.1 (ww ?_)
     have qx:=q2 (bc hy22) (bc hy23)
     refine lV (enc:=ft) (xs:=o20_0) rfl rfl rfl hy23 (ww ?_)
     refine eu.rd (y':=y22) (aQ hy23).2.1 (by simp[EE.down]) (by first|rfl|(simp only[b5];rfl)) (ww ?_)
     obtain⟨y24,hy24,h⟩:=bi h
     have qx:=q2 (bc hy22) (bc hy23)
     refine lV (enc:=ft) (xs:=((o20_0.set o20_1.toNat y22))) rfl rfl rfl hy24 (ww ?_)
     refine eu.rd (y':=y23) (aQ hy24).2.1 (by simp[EE.down]) (by first|rfl|(simp only[b5];rfl)) (ww ?_)
     have qx:=q3 (bc hy22) (bc hy23) (bc hy24)
     exact iI j [XF 0] ⟨(((o20_0.set o20_1.toNat y22)).set ((XC.wrap (o20_1-1))).toNat y23),(XC.wrap (o20_1-1)),rfl,h⟩ (XH _)
    ·refine ww ?_
     cases h
     exact eM [XF 0] rfl
  rintro _ rfl
  refine ww ?_
  cases h
  exact eF [XF 0]
 refine⟨by decide,?_⟩
 refine ww ?_
 obtain⟨o25,ho,h⟩:=bi h
 refine bD (fun s=>s=⟨[(0,oc (ow 0 e0 x0)),(1,oI x1),(2,oI x2),(3,oI x3),(4,oc (.fn 196 [])),(18,oI ((XC.wrap ((fi .u64 ((XD.wrap ((XC.wrap (x1+x3))))) 1))))),(19,oI ((XC.wrap (((XC.wrap ((fi .u64 ((XD.wrap ((XC.wrap (x1+x3))))) 1))))+x2)))),(20,oI o25.1),(21,oI o25.2)],[cA e0 x0]⟩) ?_ ?_
 ·have h:=ho
  refine ww ?_
  refine bG h (fun c26 h=>ww ?_) (fun c26 h=>ww ?_)
  ·cases h
   exact eM [XF 0] rfl
  cases h
  exact eM [XF 0] rfl
 rintro _ rfl
 refine ww ?_
 obtain⟨o27,ho,h⟩:=bi h
 refine bD (fun s=>s=⟨[(0,oc (ow 0 e0 x0)),(1,oI x1),(2,oI x2),(3,oI x3),(4,oc (.fn 196 [])),(18,oI ((XC.wrap ((fi .u64 ((XD.wrap ((XC.wrap (x1+x3))))) 1))))),(19,oI ((XC.wrap (((XC.wrap ((fi .u64 ((XD.wrap ((XC.wrap (x1+x3))))) 1))))+x2)))),(20,oI o27)],[cA e0 x0]⟩) ?_ ?_
 ·have h:=ho
  refine ww ?_
  refine bL (fun j s=>∃(o27_0:Int) (o27_1:Int),s=⟨[(0,oc (ow 0 e0 x0)),(1,oI x1),(2,oI x2),(3,oI x3),(4,oc (.fn 196 [])),(18,oI ((XC.wrap ((fi .u64 ((XD.wrap ((XC.wrap (x1+x3))))) 1))))),(19,oI ((XC.wrap (((XC.wrap ((fi .u64 ((XD.wrap ((XC.wrap (x1+x3))))) 1))))+x2)))),(20,oI o27_0),(21,oI o27_1),(22,oI ((XC.wrap (((XC.wrap (((XC.wrap ((fi .u64 ((XD.wrap ((XC.wrap (x1+x3))))) 1))))+x2)))-1))))],[cA e0 x0]⟩∧F227_l27 x0 x1 x2 x3 j o27_0 o27_1=XF o27) 1099511627776 [XF 0] ⟨o25.1,o25.2,rfl,h⟩ ?_
  rintro j _ ⟨o27_0,o27_1,rfl,h⟩
  cases j with
  |zero=>cases(show(XG:Option _)=XF _ from h)
  |succ j=>
   rw[F227_l27]at h
   refine ww ?_
   refine bG h (fun c28 h=>ww ?_) (fun c28 h=>?_)
   ·refine⟨by decide,?_⟩
    refine ww ?_
    obtain⟨y29,hy29,h⟩:=bi h
    refine tO (enc:=ft) (xs:=x0) rfl rfl rfl hy29 (ww ?_)
    refine cD.rd (aQ hy29).2.1 (ww ?_)
    obtain⟨y30,hy30,h⟩:=bi h
    have qx:=q1 (bc hy29)
    refine lV (enc:=ft) (xs:=x0) rfl rfl rfl hy30 (ww ?_)
    refine cD.rd (aQ hy30).2.1 (ww ?_)
    obtain⟨t31,ht31,h⟩:=bi h
    have qx:=q2 (bc hy29) (bc hy30)
    refine cQ [] (F196_ok ht31) (ww ?_)
    refine bG h (fun c32 h=>ww ?_) (fun c32 h=>?_)
    ·have qx:=q2 (bc hy29) (bc hy30)
     exact iI j [XF 0] ⟨(XC.wrap (((XC.wrap ((fi .u64 ((XD.wrap ((XC.wrap (o27_0+o27_1))))) 1))))+1)),o27_1,rfl,h⟩ (XH _)
    ·refine ww ?_
     have qx:=q2 (bc hy29) (bc hy30)
     exact iI j [XF 0] ⟨o27_0,(XC.wrap ((fi .u64 ((XD.wrap ((XC.wrap (o27_0+o27_1))))) 1))),rfl,h⟩ (XH _)
   ·refine ww ?_
    cases h
    exact eM [XF 0] rfl
 rintro _ rfl
 refine ww ?_
 obtain⟨o33,ho,h⟩:=bi h
 refine bD (fun s=>s=⟨[(0,oc (ow 0 e0 o33)),(1,oI x1),(3,oI x3),(4,oc (.fn 196 [])),(18,oI ((XC.wrap ((fi .u64 ((XD.wrap ((XC.wrap (x1+x3))))) 1))))),(20,oI o27),(24,oI ((XC.wrap (((XC.wrap (((XC.wrap ((fi .u64 ((XD.wrap ((XC.wrap (x1+x3))))) 1))))+x2)))-o27))))],[cA e0 o33]⟩) ?_ ?_
 ·have h:=ho
  refine ww ?_
  obtain⟨o34,ho,h⟩:=bi h
  refine bD (fun s=>s=⟨[(0,oc (ow 0 e0 x0)),(1,oI x1),(2,oI x2),(3,oI x3),(4,oc (.fn 196 [])),(18,oI ((XC.wrap ((fi .u64 ((XD.wrap ((XC.wrap (x1+x3))))) 1))))),(20,oI o27),(24,oI ((XC.wrap (((XC.wrap (((XC.wrap ((fi .u64 ((XD.wrap ((XC.wrap (x1+x3))))) 1))))+x2)))-o27)))),(185,oB o34)],[cA e0 x0]⟩) ?_ ?_
  ·have h:=ho
   refine ww ?_
   refine bR h (fun g35 h=>ww ?_) (fun g35 h=>ww ?_)
   ·cases h
    exact eM [XF 0] rfl
   cases h
   exact eM [XF 0] rfl
  rintro _ rfl
  refine ww ?_
  refine ct h (fun c36 h=>ww ?_) (fun c36 h=>ww ?_)
  ·obtain⟨t37,ht37,h⟩:=bi h
   refine cN [0] (F228_ok (e0:=e0) ht37) ⟨⟨rfl,trivial⟩,trivial⟩ ?_
   refine ww ?_
   cases h
   have qx:=q1 (F228_len0 ht37)
   exact fI [XF 0] rfl
  cases h
  exact eM [XF 0] rfl
 rintro _ rfl
 refine ww ?_
 obtain⟨o38,ho,h⟩:=bi h
 refine bD (fun s=>s=⟨[(0,oc (ow 0 e0 o38)),(3,oI x3),(4,oc (.fn 196 [])),(18,oI ((XC.wrap ((fi .u64 ((XD.wrap ((XC.wrap (x1+x3))))) 1))))),(24,oI ((XC.wrap (((XC.wrap (((XC.wrap ((fi .u64 ((XD.wrap ((XC.wrap (x1+x3))))) 1))))+x2)))-o27))))],[cA e0 o38]⟩) ?_ ?_
 ·have h:=ho
  refine ww ?_
  obtain⟨o39,ho,h⟩:=bi h
  refine bD (fun s=>s=⟨[(0,oc (ow 0 e0 o33)),(1,oI x1),(3,oI x3),(4,oc (.fn 196 [])),(18,oI ((XC.wrap ((fi .u64 ((XD.wrap ((XC.wrap (x1+x3))))) 1))))),(20,oI o27),(24,oI ((XC.wrap (((XC.wrap (((XC.wrap ((fi .u64 ((XD.wrap ((XC.wrap (x1+x3))))) 1))))+x2)))-o27)))),(199,oB o39)],[cA e0 o33]⟩) ?_ ?_
  ·have h:=ho
   refine ww ?_
   refine bR h (fun g40 h=>ww ?_) (fun g40 h=>ww ?_)
   ·cases h
    exact eM [XF 0] rfl
   cases h
   exact eM [XF 0] rfl
  rintro _ rfl
  refine ww ?_
  refine ct h (fun c41 h=>ww ?_) (fun c41 h=>ww ?_)
  ·obtain⟨t42,ht42,h⟩:=bi h
   refine cN [0] (ih93 (e0:=e0) ht42) ⟨⟨rfl,trivial⟩,trivial⟩ ?_
   refine ww ?_
   cases h
   have qx:=q1 (il93_len0 ht42)
   exact fI [XF 0] rfl
  cases h
  exact eM [XF 0] rfl
 rintro _ rfl
 refine ww ?_
 obtain⟨o43,ho,h⟩:=bi h
 refine bD (fun s=>s=⟨[(0,oc (ow 0 e0 o38)),(3,oI x3),(4,oc (.fn 196 [])),(18,oI ((XC.wrap ((fi .u64 ((XD.wrap ((XC.wrap (x1+x3))))) 1))))),(24,oI ((XC.wrap (((XC.wrap (((XC.wrap ((fi .u64 ((XD.wrap ((XC.wrap (x1+x3))))) 1))))+x2)))-o27)))),(213,oB o43)],[cA e0 o38]⟩) ?_ ?_
 ·have h:=ho
  refine ww ?_
  refine bR h (fun g44 h=>ww ?_) (fun g44 h=>ww ?_)
  ·cases h
   exact eM [XF 0] rfl
  cases h
  exact eM [XF 0] rfl
 rintro _ rfl
 refine ww ?_
 refine ct h (fun c45 h=>ww ?_) (fun c45 h=>ww ?_)
 ·obtain⟨t46,ht46,h⟩:=bi h
  refine cN [0] (ih93 (e0:=e0) ht46) ⟨⟨rfl,trivial⟩,trivial⟩ ?_
  refine ww ?_
  cases h
  have qx:=q1 (il93_len0 ht46)
  exact tg [XF 0]
 cases h
 exact eF [XF 0]
def F227k:Nat→(List Entry)→Int→Int→Int→Option ((List Entry))
 |0=>fun _ _ _ _=>XG
 |k+1=>F227 (F227k k)
theorem F227k_len0{k:Nat}{x0:(List Entry)}{x1:Int}{x2:Int}{x3:Int}{r:(List Entry)}(h:F227k k x0 x1 x2 x3=XF r):r.length=x0.length:=by
 cases k with
 |zero=>cases(show(XG:Option ((List Entry)))=XF _ from h)
 |succ k=>exact F227_len0 h
theorem F227k_ok(k:Nat){x0:(List Entry)}{x1:Int}{x2:Int}{x3:Int}{r:(List Entry)}{e0:Nat}(h:F227k k x0 x1 x2 x3=XF r):aW Tryz.prog 227 [.c (ow 0 e0 x0),.c (dI x1),.c (dI x2),.c (dI x3),.c (.fn 196 [])] [cA e0 x0] (bJ []) [cA e0 r]:=by
 induction k generalizing x0 x1 x2 x3 r e0 with
 |zero=>cases(show(XG:Option ((List Entry)))=XF _ from h)
 |succ k ih=>exact F227_ok (fun h=>ih h) (fun h=>F227k_len0 h) h
end Go.Proofs.YtojbebejhgbfeaaGreat
