/- Each Go function as a function over typed data, and its walk. -/
import Derived.Test.YtondgcmdhkhkkaaGreatW0
import Derived.Test.YtondgcmdhkhkkaaGreatW4
namespace Go.Proofs.YtondgcmdhkhkkaaGreat
open Go Go.Fw Go.Shelf
set_option maxRecDepth 100000
set_option maxHeartbeats 4000000
set_option linter.unusedSimpArgs false
set_option linter.unusedVariables false
def F102_l2(x1:(List ByteArray)):List ByteArray→Nat→Option ((Bool) ⊕ (Unit))
 |[],o2_0=>some (Sum.inr (()))
 |xo2::xs,o2_0=>(rdI x1 ((o2_0:Int))).bind fun y4=>(if¬(xo2=y4)then(some false).map Sum.inl else F102_l2 x1 xs (o2_0+1))
def F102(x0:(List ByteArray))(x1:(List ByteArray)):Option (Bool):=(if¬((x0.length:Int)=(x1.length:Int))then some false else(((ck (0≤x0.length∧x0.length≤4294967290)).bind fun u6=>F102_l2 x1 x0 0:Option ((Bool) ⊕ (Unit))).bind fun o2=>match o2 with|Sum.inl f=>some f|Sum.inr po2=>some true))
def a102:AFn:=⟨26,[(.tmp 4)],
 (.seq (.reg [sq 4 (.mv (kB false))])
 (.seq (.seq (.reg [sq 6 (.mv (.t 0)),
sq 7 (.len (.t 6)),
sq 8 (.mv (.t 1)),
sq 9 (.len (.t 8)),
sq 10 (.bin .neq (.t 7) (.t 9))])
 (.cond (.t 10)
 (.seq (.reg [sq 4 (.mv (kB false))])
 .ret)
 .skip))
 (.seq (.seq (.reg [sq 5 (.mv (kI 0))])
 (.sem (.block 0 (.loop (.seq (.seq (.reg [sq 11 (.mv (.t 5)),
sq 12 (.mv (.t 0)),
sq 13 (.len (.t 12)),
sq 14 (.bin .lss (.t 11) (.t 13))])
 (.cond (.t 14)
 .skip
 (.exit 0)))
 (.seq (.block 1 (.seq (.regd [sq 17 (.mv (.t 0)),
sq 18 (.mv (.t 5)),
sd 19 (.indexA 1 (.t 17) (.t 18)) [0,1],
sd 20 (.load none (.t 19)) [0,1,2],
sq 21 (.mv (.t 1)),
sq 22 (.mv (.t 5)),
sd 23 (.indexA 1 (.t 21) (.t 22)) [4,5],
sd 24 (.load none (.t 23)) [4,5,6],
sd 25 (.bin .neq (.t 20) (.t 24)) [0,1,2,3,4,5,6,7]])
 (.cond (.t 25)
 (.seq (.reg [sq 4 (.mv (kB false))])
 .ret)
 .skip)))
 (.reg [sq 15 (.mv (.t 5)),
sq 16 (.bin .add (.t 15) (kI 1)),
sq 5 (.mv (.t 16))])))))))
 (.seq (.reg [sq 4 (.mv (kB true))])
 .ret))))⟩
theorem a102_ok:afn Tryz.prog 102=some a102.er:=by kernel_rfl
theorem F102_ok{x0 x1 r}(h:F102 x0 x1=some r):CallD Tryz.prog 102 [.c (dM (x0.map eS)),.c (dM (x1.map eS))] [] (tupV [.c (dB r)]) []:=by
 refine callS a102_ok (by simp[a102]) ?_
 rw[F102]at h
 simp only[a102,VW.down,Nat.reduceEqDiff,reduceCtorEq,Nat.reduceAdd,Nat.reduceLeDiff,Nat.reduceLT,Nat.reduceBEq,Nat.reduceSub,EE.down]
 refine condSh h (fun c1 h=>?_) (fun c1 h=>?_)
 ·refine ww ?_
  cases h
  exact eF []
 refine ww ?_
 obtain⟨o2,ho,h⟩:=bi h
 refine cutS (fun s=>∃po2,o2=Sum.inr po2∧s=⟨[],[]⟩) ?_ ?_
 ·have h0o2:=h
  have h:=ho
  clear ho
  obtain⟨_,hk,h⟩:=bi h
  have hk:=ck_some hk
  refine ww ?_
  refine bL (fun j s=>∃(o2_0:Nat),(o2_0≤x0.length∧j=x0.length-o2_0)∧s=⟨[(0,.one (.c (dM (x0.map eS)))),(1,.one (.c (dM (x1.map eS)))),(5,.one (.c (dI ((o2_0:Int)))))],[]⟩∧F102_l2 x1 (x0.drop o2_0) o2_0=some o2) (x0.length-0) [] ⟨0,⟨hk.1,rfl⟩,rfl,h⟩ ?_
  rintro _ _ ⟨o2_0,⟨hi,rfl⟩,rfl,h⟩
  refine ww ?_
  refine condS (fun c3=>?_) (fun c3=>?_)
  ·obtain⟨xo2,hxo2,hd⟩:=countY (show(o2_0:Int)<(x0.length:Int)from c3)
   rw[hd,F102_l2]at h
   refine ww ?_
   refine t_idxF (enc:=eS) (xs:=x0) rfl rfl hxo2 rfl (ww ?_)
   obtain⟨y4,hy4,h⟩:=bi h
   refine t_idxF (enc:=eS) (xs:=x1) rfl rfl hy4 rfl (ww ?_)
   refine condSh h (fun c5 h=>?_) (fun c5 h=>?_)
   ·refine ww ?_
    obtain⟨fh0o2,hfh0o2,rfl⟩:=Option.map_eq_some_iff.1 h
    have h:=hfh0o2.trans h0o2
    cases h
    exact eF []
   refine ww ?_
   rw[wrapN (by omega)]
   exact eL' (x0.length-(o2_0+1)) [] ⟨o2_0+1,⟨by omega,rfl⟩,rfl,h⟩ (by omega)
  rw[countN (show¬((o2_0:Int)<(x0.length:Int))from c3),F102_l2]at h
  refine ww ?_
  cases h
  exact eM [] ⟨_,rfl,rfl⟩
 rintro _ ⟨po2,rfl,rfl⟩
 clear ho
 dsimp only at h
 refine ww ?_
 cases h
 exact eF []
def F80_l19(x1:Meta):List Label→Nat→Option ((Bool) ⊕ (Unit))
 |[],o19_0=>some (Sum.inr (()))
 |xo19::xs,o19_0=>(rdI x1.Labels ((o19_0:Int))).bind fun y21=>(if¬(xo19.Key=y21.Key∧xo19.Value=y21.Value)then(some false).map Sum.inl else F80_l19 x1 xs (o19_0+1))
def F80_l24(x1:Meta):List Owner→Nat→Option ((Bool) ⊕ (Unit))
 |[],o24_0=>some (Sum.inr (()))
 |xo24::xs,o24_0=>(rdI x1.Owners ((o24_0:Int))).bind fun y26=>(if(nb ((decide (xo24.Kind=y26.Kind)&&(decide (xo24.Name=y26.Name)&&(decide (xo24.Uid=y26.Uid)&&((xo24.Controller==y26.Controller)&&(xo24.Block==y26.Block)))))))=true then(some false).map Sum.inl else F80_l24 x1 xs (o24_0+1))
def F80_l29(x1:Meta):List Manager→Nat→Option ((Bool) ⊕ (Unit))
 |[],o29_0=>some (Sum.inr (()))
 |xo29::xs,o29_0=>(((rdI x1.Managers ((o29_0:Int))).bind fun y32=>(if¬(xo29.Name=y32.Name)then some true else(F102 xo29.Fields y32.Fields).bind fun t34=>some (nb t34))).bind fun o31=>(if o31=true then(some false).map Sum.inl else F80_l29 x1 xs (o29_0+1)))
def F80(x0:Meta)(x1:Meta):Option (Bool):=(((F75 x0).bind fun t2=>(F75 x1).bind fun t3=>(if¬(t2=t3)then some true else(if¬(x0.Kind=x1.Kind)then some true else(if¬(x0.Namespace=x1.Namespace)then some true else(if¬(x0.Uid=x1.Uid)then some true else(if¬(x0.Version=x1.Version)then some true else(if¬(x0.Generation=x1.Generation)then some true else(if¬(x0.Created=x1.Created)then some true else(if(((x0.Deleting==x1.Deleting)!=true))=true then some true else some (decide (¬(x0.DeleteAt=x1.DeleteAt)))))))))))).bind fun o1=>(if o1=true then some false else(((if¬((x0.Labels.length:Int)=(x1.Labels.length:Int))then some true else(if¬((x0.Owners.length:Int)=(x1.Owners.length:Int))then some true else(if¬((x0.Managers.length:Int)=(x1.Managers.length:Int))then some true else(F102 x0.Finalizers x1.Finalizers).bind fun t17=>some (nb t17))))).bind fun o13=>(if o13=true then some false else(((ck (0≤x0.Labels.length∧x0.Labels.length≤4294967290)).bind fun u23=>F80_l19 x1 x0.Labels 0:Option ((Bool) ⊕ (Unit))).bind fun o19=>match o19 with|Sum.inl f=>some f|Sum.inr po19=>(((ck (0≤x0.Owners.length∧x0.Owners.length≤4294967290)).bind fun u28=>F80_l24 x1 x0.Owners 0:Option ((Bool) ⊕ (Unit))).bind fun o24=>match o24 with|Sum.inl f=>some f|Sum.inr po24=>(((ck (0≤x0.Managers.length∧x0.Managers.length≤4294967290)).bind fun u36=>F80_l29 x1 x0.Managers 0:Option ((Bool) ⊕ (Unit))).bind fun o29=>match o29 with|Sum.inl f=>some f|Sum.inr po29=>some true)))))))
def a80:AFn:=⟨174,[(.tmp 4)],
 (.seq (.reg [sq 2 (.box (.t 0)),
sq 3 (.box (.t 1)),
sq 4 (.mv (kB false))])
 (.seq (.seq (.sem (.regd [sq 8 (.load (some 13) (.t 2)),
zn 9 (.call 75 [(.t 8)]) [0] [0],
sq 10 (.load (some 13) (.t 3)),
zl 11 (.call 75 [(.t 10)]) [0,1,2] [],
sd 12 (.bin .neq (.t 9) (.t 11)) [0,1,2,3],
sd 13 (.mv (.t 12)) [0,1,2,3,4],
⟨(some 14),(some (13,false)),.fieldA 0 (.t 2),[0,1,2,3,4,5],(.new [])⟩,
⟨(some 15),(some (13,false)),.load none (.t 14),[0,1,2,3,4,5,6],(.new [])⟩,
⟨(some 16),(some (13,false)),.fieldA 0 (.t 3),[0,1,2,3,4,5],(.new [])⟩,
⟨(some 17),(some (13,false)),.load none (.t 16),[0,1,2,3,4,5,8],(.new [])⟩,
⟨(some 18),(some (13,false)),.bin .neq (.t 15) (.t 17),[0,1,2,3,4,5,6,7,8,9],(.new [])⟩,
zl 19 (.pick (.t 13) (kB true) (.t 18)) [0,1,2,3,4,5,6,7,8,9,10] [],
sd 20 (.mv (.t 19)) [0,1,2,3,4,5,6,7,8,9,10,11],
⟨(some 21),(some (20,false)),.fieldA 1 (.t 2),[0,1,2,3,4,5,6,7,8,9,10,11,12],(.new [])⟩,
⟨(some 22),(some (20,false)),.load none (.t 21),[0,1,2,3,4,5,6,7,8,9,10,11,12,13],(.new [])⟩,
⟨(some 23),(some (20,false)),.fieldA 1 (.t 3),[0,1,2,3,4,5,6,7,8,9,10,11,12],(.new [])⟩,
⟨(some 24),(some (20,false)),.load none (.t 23),[0,1,2,3,4,5,6,7,8,9,10,11,12,15],(.new [])⟩,
⟨(some 25),(some (20,false)),.bin .neq (.t 22) (.t 24),[0,1,2,3,4,5,6,7,8,9,10,11,12,13,14,15,16],(.new [])⟩,
zl 26 (.pick (.t 20) (kB true) (.t 25)) [0,1,2,3,4,5,6,7,8,9,10,11,12,13,14,15,16,17] [],
sd 27 (.mv (.t 26)) [0,1,2,3,4,5,6,7,8,9,10,11,12,13,14,15,16,17,18],
⟨(some 28),(some (27,false)),.fieldA 3 (.t 2),[0,1,2,3,4,5,6,7,8,9,10,11,12,13,14,15,16,17,18,19],(.new [])⟩,
⟨(some 29),(some (27,false)),.load none (.t 28),[0,1,2,3,4,5,6,7,8,9,10,11,12,13,14,15,16,17,18,19,20],(.new [])⟩,
⟨(some 30),(some (27,false)),.fieldA 3 (.t 3),[0,1,2,3,4,5,6,7,8,9,10,11,12,13,14,15,16,17,18,19],(.new [])⟩,
⟨(some 31),(some (27,false)),.load none (.t 30),[0,1,2,3,4,5,6,7,8,9,10,11,12,13,14,15,16,17,18,19,22],(.new [])⟩,
⟨(some 32),(some (27,false)),.bin .neq (.t 29) (.t 31),[0,1,2,3,4,5,6,7,8,9,10,11,12,13,14,15,16,17,18,19,20,21,22,23],(.new [])⟩,
zl 33 (.pick (.t 27) (kB true) (.t 32)) [0,1,2,3,4,5,6,7,8,9,10,11,12,13,14,15,16,17,18,19,20,21,22,23,24] [],
sd 34 (.mv (.t 33)) [0,1,2,3,4,5,6,7,8,9,10,11,12,13,14,15,16,17,18,19,20,21,22,23,24,25],
⟨(some 35),(some (34,false)),.fieldA 4 (.t 2),[0,1,2,3,4,5,6,7,8,9,10,11,12,13,14,15,16,17,18,19,20,21,22,23,24,25,26],(.new [])⟩,
⟨(some 36),(some (34,false)),.load none (.t 35),[0,1,2,3,4,5,6,7,8,9,10,11,12,13,14,15,16,17,18,19,20,21,22,23,24,25,26,27],(.new [])⟩,
⟨(some 37),(some (34,false)),.fieldA 4 (.t 3),[0,1,2,3,4,5,6,7,8,9,10,11,12,13,14,15,16,17,18,19,20,21,22,23,24,25,26],(.new [])⟩,
⟨(some 38),(some (34,false)),.load none (.t 37),[0,1,2,3,4,5,6,7,8,9,10,11,12,13,14,15,16,17,18,19,20,21,22,23,24,25,26,29],(.new [])⟩,
⟨(some 39),(some (34,false)),.bin .neq (.t 36) (.t 38),[0,1,2,3,4,5,6,7,8,9,10,11,12,13,14,15,16,17,18,19,20,21,22,23,24,25,26,27,28,29,30],(.new [])⟩,
zl 40 (.pick (.t 34) (kB true) (.t 39)) [0,1,2,3,4,5,6,7,8,9,10,11,12,13,14,15,16,17,18,19,20,21,22,23,24,25,26,27,28,29,30,31] [],
sd 41 (.mv (.t 40)) [0,1,2,3,4,5,6,7,8,9,10,11,12,13,14,15,16,17,18,19,20,21,22,23,24,25,26,27,28,29,30,31,32],
⟨(some 42),(some (41,false)),.fieldA 5 (.t 2),[0,1,2,3,4,5,6,7,8,9,10,11,12,13,14,15,16,17,18,19,20,21,22,23,24,25,26,27,28,29,30,31,32,33],(.new [])⟩,
⟨(some 43),(some (41,false)),.load none (.t 42),[0,1,2,3,4,5,6,7,8,9,10,11,12,13,14,15,16,17,18,19,20,21,22,23,24,25,26,27,28,29,30,31,32,33,34],(.new [])⟩,
⟨(some 44),(some (41,false)),.fieldA 5 (.t 3),[0,1,2,3,4,5,6,7,8,9,10,11,12,13,14,15,16,17,18,19,20,21,22,23,24,25,26,27,28,29,30,31,32,33],(.new [])⟩,
⟨(some 45),(some (41,false)),.load none (.t 44),[0,1,2,3,4,5,6,7,8,9,10,11,12,13,14,15,16,17,18,19,20,21,22,23,24,25,26,27,28,29,30,31,32,33,36],(.new [])⟩,
⟨(some 46),(some (41,false)),.bin .neq (.t 43) (.t 45),[0,1,2,3,4,5,6,7,8,9,10,11,12,13,14,15,16,17,18,19,20,21,22,23,24,25,26,27,28,29,30,31,32,33,34,35,36,37],(.new [])⟩,
zl 47 (.pick (.t 41) (kB true) (.t 46)) [0,1,2,3,4,5,6,7,8,9,10,11,12,13,14,15,16,17,18,19,20,21,22,23,24,25,26,27,28,29,30,31,32,33,34,35,36,37,38] [],
sd 48 (.mv (.t 47)) [0,1,2,3,4,5,6,7,8,9,10,11,12,13,14,15,16,17,18,19,20,21,22,23,24,25,26,27,28,29,30,31,32,33,34,35,36,37,38,39],
⟨(some 49),(some (48,false)),.fieldA 6 (.t 2),[0,1,2,3,4,5,6,7,8,9,10,11,12,13,14,15,16,17,18,19,20,21,22,23,24,25,26,27,28,29,30,31,32,33,34,35,36,37,38,39,40],(.new [])⟩,
⟨(some 50),(some (48,false)),.load none (.t 49),[0,1,2,3,4,5,6,7,8,9,10,11,12,13,14,15,16,17,18,19,20,21,22,23,24,25,26,27,28,29,30,31,32,33,34,35,36,37,38,39,40,41],(.new [])⟩,
⟨(some 51),(some (48,false)),.fieldA 6 (.t 3),[0,1,2,3,4,5,6,7,8,9,10,11,12,13,14,15,16,17,18,19,20,21,22,23,24,25,26,27,28,29,30,31,32,33,34,35,36,37,38,39,40],(.new [])⟩,
⟨(some 52),(some (48,false)),.load none (.t 51),[0,1,2,3,4,5,6,7,8,9,10,11,12,13,14,15,16,17,18,19,20,21,22,23,24,25,26,27,28,29,30,31,32,33,34,35,36,37,38,39,40,43],(.new [])⟩,
⟨(some 53),(some (48,false)),.bin .neq (.t 50) (.t 52),[0,1,2,3,4,5,6,7,8,9,10,11,12,13,14,15,16,17,18,19,20,21,22,23,24,25,26,27,28,29,30,31,32,33,34,35,36,37,38,39,40,41,42,43,44],(.new [])⟩,
zl 54 (.pick (.t 48) (kB true) (.t 53)) [0,1,2,3,4,5,6,7,8,9,10,11,12,13,14,15,16,17,18,19,20,21,22,23,24,25,26,27,28,29,30,31,32,33,34,35,36,37,38,39,40,41,42,43,44,45] [],
sd 55 (.mv (.t 54)) [0,1,2,3,4,5,6,7,8,9,10,11,12,13,14,15,16,17,18,19,20,21,22,23,24,25,26,27,28,29,30,31,32,33,34,35,36,37,38,39,40,41,42,43,44,45,46],
⟨(some 56),(some (55,false)),.fieldA 7 (.t 2),[0,1,2,3,4,5,6,7,8,9,10,11,12,13,14,15,16,17,18,19,20,21,22,23,24,25,26,27,28,29,30,31,32,33,34,35,36,37,38,39,40,41,42,43,44,45,46,47],(.new [])⟩,
⟨(some 57),(some (55,false)),.load none (.t 56),[0,1,2,3,4,5,6,7,8,9,10,11,12,13,14,15,16,17,18,19,20,21,22,23,24,25,26,27,28,29,30,31,32,33,34,35,36,37,38,39,40,41,42,43,44,45,46,47,48],(.new [])⟩,
⟨(some 58),(some (55,false)),.fieldA 7 (.t 3),[0,1,2,3,4,5,6,7,8,9,10,11,12,13,14,15,16,17,18,19,20,21,22,23,24,25,26,27,28,29,30,31,32,33,34,35,36,37,38,39,40,41,42,43,44,45,46,47],(.new [])⟩,
⟨(some 59),(some (55,false)),.load none (.t 58),[0,1,2,3,4,5,6,7,8,9,10,11,12,13,14,15,16,17,18,19,20,21,22,23,24,25,26,27,28,29,30,31,32,33,34,35,36,37,38,39,40,41,42,43,44,45,46,47,50],(.new [])⟩,
⟨(some 60),(some (55,false)),.beq true (.t 57) (.t 59),[0,1,2,3,4,5,6,7,8,9,10,11,12,13,14,15,16,17,18,19,20,21,22,23,24,25,26,27,28,29,30,31,32,33,34,35,36,37,38,39,40,41,42,43,44,45,46,47,48,49,50,51],(.new [])⟩,
zl 61 (.pick (.t 55) (kB true) (.t 60)) [0,1,2,3,4,5,6,7,8,9,10,11,12,13,14,15,16,17,18,19,20,21,22,23,24,25,26,27,28,29,30,31,32,33,34,35,36,37,38,39,40,41,42,43,44,45,46,47,48,49,50,51,52] [],
sd 62 (.mv (.t 61)) [0,1,2,3,4,5,6,7,8,9,10,11,12,13,14,15,16,17,18,19,20,21,22,23,24,25,26,27,28,29,30,31,32,33,34,35,36,37,38,39,40,41,42,43,44,45,46,47,48,49,50,51,52,53],
⟨(some 63),(some (62,false)),.fieldA 8 (.t 2),[0,1,2,3,4,5,6,7,8,9,10,11,12,13,14,15,16,17,18,19,20,21,22,23,24,25,26,27,28,29,30,31,32,33,34,35,36,37,38,39,40,41,42,43,44,45,46,47,48,49,50,51,52,53,54],(.new [])⟩,
⟨(some 64),(some (62,false)),.load none (.t 63),[0,1,2,3,4,5,6,7,8,9,10,11,12,13,14,15,16,17,18,19,20,21,22,23,24,25,26,27,28,29,30,31,32,33,34,35,36,37,38,39,40,41,42,43,44,45,46,47,48,49,50,51,52,53,54,55],(.new [])⟩,
⟨(some 65),(some (62,false)),.fieldA 8 (.t 3),[0,1,2,3,4,5,6,7,8,9,10,11,12,13,14,15,16,17,18,19,20,21,22,23,24,25,26,27,28,29,30,31,32,33,34,35,36,37,38,39,40,41,42,43,44,45,46,47,48,49,50,51,52,53,54],(.new [])⟩,
⟨(some 66),(some (62,false)),.load none (.t 65),[0,1,2,3,4,5,6,7,8,9,10,11,12,13,14,15,16,17,18,19,20,21,22,23,24,25,26,27,28,29,30,31,32,33,34,35,36,37,38,39,40,41,42,43,44,45,46,47,48,49,50,51,52,53,54,57],(.new [])⟩,
⟨(some 67),(some (62,false)),.bin .neq (.t 64) (.t 66),[0,1,2,3,4,5,6,7,8,9,10,11,12,13,14,15,16,17,18,19,20,21,22,23,24,25,26,27,28,29,30,31,32,33,34,35,36,37,38,39,40,41,42,43,44,45,46,47,48,49,50,51,52,53,54,55,56,57,58],(.new [])⟩,
zl 68 (.pick (.t 62) (kB true) (.t 67)) [0,1,2,3,4,5,6,7,8,9,10,11,12,13,14,15,16,17,18,19,20,21,22,23,24,25,26,27,28,29,30,31,32,33,34,35,36,37,38,39,40,41,42,43,44,45,46,47,48,49,50,51,52,53,54,55,56,57,58,59] []]))
 (.cond (.t 68)
 (.seq (.reg [sq 4 (.mv (kB false))])
 .ret)
 .skip))
 (.seq (.seq (.sem (.reg [sq 69 (.fieldA 9 (.t 2)),
sq 70 (.load none (.t 69)),
sq 71 (.len (.t 70)),
sq 72 (.fieldA 9 (.t 3)),
sq 73 (.load none (.t 72)),
sq 74 (.len (.t 73)),
sq 75 (.bin .neq (.t 71) (.t 74)),
sq 76 (.mv (.t 75)),
zg 77 76 false (.fieldA 10 (.t 2)),
zg 78 76 false (.load none (.t 77)),
zg 79 76 false (.len (.t 78)),
zg 80 76 false (.fieldA 10 (.t 3)),
zg 81 76 false (.load none (.t 80)),
zg 82 76 false (.len (.t 81)),
zg 83 76 false (.bin .neq (.t 79) (.t 82)),
sq 84 (.pick (.t 76) (kB true) (.t 83)),
sq 85 (.mv (.t 84)),
zg 86 85 false (.fieldA 12 (.t 2)),
zg 87 85 false (.load none (.t 86)),
zg 88 85 false (.len (.t 87)),
zg 89 85 false (.fieldA 12 (.t 3)),
zg 90 85 false (.load none (.t 89)),
zg 91 85 false (.len (.t 90)),
zg 92 85 false (.bin .neq (.t 88) (.t 91)),
sq 93 (.pick (.t 85) (kB true) (.t 92)),
sq 94 (.mv (.t 93)),
zg 95 94 false (.fieldA 11 (.t 2)),
zg 96 94 false (.load none (.t 95)),
zg 97 94 false (.fieldA 11 (.t 3)),
zg 98 94 false (.load none (.t 97)),
zg 99 94 false (.call 102 [(.t 96),(.t 98)]),
zg 100 94 false (.not (.t 99)),
sq 101 (.pick (.t 94) (kB true) (.t 100))]))
 (.cond (.t 101)
 (.seq (.reg [sq 4 (.mv (kB false))])
 .ret)
 .skip))
 (.seq (.seq (.reg [sq 5 (.mv (kI 0))])
 (.sem (.block 0 (.loop (.seq (.seq (.reg [sq 102 (.mv (.t 5)),
sq 103 (.fieldA 9 (.t 2)),
sq 104 (.load none (.t 103)),
sq 105 (.len (.t 104)),
sq 106 (.bin .lss (.t 102) (.t 105))])
 (.cond (.t 106)
 .skip
 (.exit 0)))
 (.seq (.block 1 (.seq (.regd [sq 109 (.fieldA 9 (.t 2)),
sd 110 (.load none (.t 109)) [0],
sq 111 (.mv (.t 5)),
sd 112 (.indexA 2 (.t 110) (.t 111)) [0,1,2],
sd 113 (.load (some 2) (.t 112)) [0,1,2,3],
sq 114 (.fieldA 9 (.t 3)),
sd 115 (.load none (.t 114)) [5],
sq 116 (.mv (.t 5)),
sd 117 (.indexA 2 (.t 115) (.t 116)) [5,6,7],
sd 118 (.load (some 2) (.t 117)) [5,6,7,8],
zl 119 (.eqs true [(0,2),(1,2)] (.t 113) (.t 118)) [0,1,2,3,4,5,6,7,8,9] []])
 (.cond (.t 119)
 (.seq (.reg [sq 4 (.mv (kB false))])
 .ret)
 .skip)))
 (.reg [sq 107 (.mv (.t 5)),
sq 108 (.bin .add (.t 107) (kI 1)),
sq 5 (.mv (.t 108))])))))))
 (.seq (.seq (.reg [sq 6 (.mv (kI 0))])
 (.sem (.block 2 (.loop (.seq (.seq (.reg [sq 120 (.mv (.t 6)),
sq 121 (.fieldA 10 (.t 2)),
sq 122 (.load none (.t 121)),
sq 123 (.len (.t 122)),
sq 124 (.bin .lss (.t 120) (.t 123))])
 (.cond (.t 124)
 .skip
 (.exit 2)))
 (.seq (.block 3 (.seq (.regd [sq 127 (.fieldA 10 (.t 2)),
sd 128 (.load none (.t 127)) [0],
sq 129 (.mv (.t 6)),
sd 130 (.indexA 5 (.t 128) (.t 129)) [0,1,2],
sd 131 (.load (some 5) (.t 130)) [0,1,2,3],
sq 132 (.fieldA 10 (.t 3)),
sd 133 (.load none (.t 132)) [5],
sq 134 (.mv (.t 6)),
sd 135 (.indexA 5 (.t 133) (.t 134)) [5,6,7],
sd 136 (.load (some 5) (.t 135)) [5,6,7,8],
zl 137 (.eqs true [(0,2),(1,2),(2,0),(3,1),(4,1)] (.t 131) (.t 136)) [0,1,2,3,4,5,6,7,8,9] []])
 (.cond (.t 137)
 (.seq (.reg [sq 4 (.mv (kB false))])
 .ret)
 .skip)))
 (.reg [sq 125 (.mv (.t 6)),
sq 126 (.bin .add (.t 125) (kI 1)),
sq 6 (.mv (.t 126))])))))))
 (.seq (.seq (.reg [sq 7 (.mv (kI 0))])
 (.sem (.block 4 (.loop (.seq (.seq (.reg [sq 138 (.mv (.t 7)),
sq 139 (.fieldA 12 (.t 2)),
sq 140 (.load none (.t 139)),
sq 141 (.len (.t 140)),
sq 142 (.bin .lss (.t 138) (.t 141))])
 (.cond (.t 142)
 .skip
 (.exit 4)))
 (.seq (.block 5 (.seq (.sem (.regd [sq 145 (.fieldA 12 (.t 2)),
sd 146 (.load none (.t 145)) [0],
sq 147 (.mv (.t 7)),
sd 148 (.indexA 2 (.t 146) (.t 147)) [0,1,2],
sd 149 (.fieldA 0 (.t 148)) [0,1,2,3],
sd 150 (.load none (.t 149)) [0,1,2,3,4],
sq 151 (.fieldA 12 (.t 3)),
sd 152 (.load none (.t 151)) [6],
sq 153 (.mv (.t 7)),
sd 154 (.indexA 2 (.t 152) (.t 153)) [6,7,8],
sd 155 (.fieldA 0 (.t 154)) [6,7,8,9],
sd 156 (.load none (.t 155)) [6,7,8,9,10],
sd 157 (.bin .neq (.t 150) (.t 156)) [0,1,2,3,4,5,6,7,8,9,10,11],
sd 158 (.mv (.t 157)) [0,1,2,3,4,5,6,7,8,9,10,11,12],
⟨(some 159),(some (158,false)),.fieldA 12 (.t 2),[0,1,2,3,4,5,6,7,8,9,10,11,12,13],(.new [])⟩,
⟨(some 160),(some (158,false)),.load none (.t 159),[0,1,2,3,4,5,6,7,8,9,10,11,12,13,14],(.new [])⟩,
⟨(some 161),(some (158,false)),.mv (.t 7),[0,1,2,3,4,5,6,7,8,9,10,11,12,13],(.new [])⟩,
⟨(some 162),(some (158,false)),.indexA 2 (.t 160) (.t 161),[0,1,2,3,4,5,6,7,8,9,10,11,12,13,14,15,16],(.new [])⟩,
⟨(some 163),(some (158,false)),.fieldA 1 (.t 162),[0,1,2,3,4,5,6,7,8,9,10,11,12,13,14,15,16,17],(.new [])⟩,
⟨(some 164),(some (158,false)),.load none (.t 163),[0,1,2,3,4,5,6,7,8,9,10,11,12,13,14,15,16,17,18],(.new [])⟩,
⟨(some 165),(some (158,false)),.fieldA 12 (.t 3),[0,1,2,3,4,5,6,7,8,9,10,11,12,13],(.new [])⟩,
⟨(some 166),(some (158,false)),.load none (.t 165),[0,1,2,3,4,5,6,7,8,9,10,11,12,13,20],(.new [])⟩,
⟨(some 167),(some (158,false)),.mv (.t 7),[0,1,2,3,4,5,6,7,8,9,10,11,12,13],(.new [])⟩,
⟨(some 168),(some (158,false)),.indexA 2 (.t 166) (.t 167),[0,1,2,3,4,5,6,7,8,9,10,11,12,13,20,21,22],(.new [])⟩,
⟨(some 169),(some (158,false)),.fieldA 1 (.t 168),[0,1,2,3,4,5,6,7,8,9,10,11,12,13,20,21,22,23],(.new [])⟩,
⟨(some 170),(some (158,false)),.load none (.t 169),[0,1,2,3,4,5,6,7,8,9,10,11,12,13,20,21,22,23,24],(.new [])⟩,
⟨(some 171),(some (158,false)),.call 102 [(.t 164),(.t 170)],[0,1,2,3,4,5,6,7,8,9,10,11,12,13,14,15,16,17,18,19,20,21,22,23,24,25],(.lone [])⟩,
⟨(some 172),(some (158,false)),.not (.t 171),[0,1,2,3,4,5,6,7,8,9,10,11,12,13,14,15,16,17,18,19,20,21,22,23,24,25,26],(.new [])⟩,
zl 173 (.pick (.t 158) (kB true) (.t 172)) [0,1,2,3,4,5,6,7,8,9,10,11,12,13,14,15,16,17,18,19,20,21,22,23,24,25,26,27] []]))
 (.cond (.t 173)
 (.seq (.reg [sq 4 (.mv (kB false))])
 .ret)
 .skip)))
 (.reg [sq 143 (.mv (.t 7)),
sq 144 (.bin .add (.t 143) (kI 1)),
sq 7 (.mv (.t 144))])))))))
 (.seq (.reg [sq 4 (.mv (kB true))])
 .ret)))))))⟩
theorem a80_ok:afn Tryz.prog 80=some a80.er:=by kernel_rfl
theorem F80_ok{x0 x1 r}(h:F80 x0 x1=some r):CallD Tryz.prog 80 [.agg [dS x0.Kind,dS x0.Namespace,dS x0.Name,dI x0.Uid,dI x0.Version,dI x0.Generation,dI x0.Created,dB x0.Deleting,dI x0.DeleteAt,dM (x0.Labels.map eLabel),dM (x0.Owners.map eOwner),dM (x0.Finalizers.map eS),dM (x0.Managers.map eManager)],.agg [dS x1.Kind,dS x1.Namespace,dS x1.Name,dI x1.Uid,dI x1.Version,dI x1.Generation,dI x1.Created,dB x1.Deleting,dI x1.DeleteAt,dM (x1.Labels.map eLabel),dM (x1.Owners.map eOwner),dM (x1.Finalizers.map eS),dM (x1.Managers.map eManager)]] [] (tupV [.c (dB r)]) []:=by
 refine callS a80_ok (by simp[a80]) ?_
 rw[F80]at h
 simp only[a80,VW.down,Nat.reduceEqDiff,reduceCtorEq,Nat.reduceAdd,Nat.reduceLeDiff,Nat.reduceLT,Nat.reduceBEq,Nat.reduceSub,EE.down]
 obtain⟨o1,ho,h⟩:=bi h
 refine cutS (fun s=>s=⟨[(2,.one (.c (.pt 0 0))),(3,.one (.c (.pt 1 0))),(68,.one (.c (dB o1)))],[some (.box [dS x0.Kind,dS x0.Namespace,dS x0.Name,dI x0.Uid,dI x0.Version,dI x0.Generation,dI x0.Created,dB x0.Deleting,dI x0.DeleteAt,dM (x0.Labels.map eLabel),dM (x0.Owners.map eOwner),dM (x0.Finalizers.map eS),dM (x0.Managers.map eManager)]),some (.box [dS x1.Kind,dS x1.Namespace,dS x1.Name,dI x1.Uid,dI x1.Version,dI x1.Generation,dI x1.Created,dB x1.Deleting,dI x1.DeleteAt,dM (x1.Labels.map eLabel),dM (x1.Owners.map eOwner),dM (x1.Finalizers.map eS),dM (x1.Managers.map eManager)])]⟩) ?_ ?_
 ·have h:=ho
  clear ho
  refine ww ?_
  obtain⟨t2,ht2,h⟩:=bi h
  refine cN [] (F75_ok ht2) trivial (ww ?_)
  obtain⟨t3,ht3,h⟩:=bi h
  refine cN [] (F75_ok ht3) trivial (ww ?_)
  refine guardDh h (fun g4 h=>?_) (fun g4 h=>?_)
  ·refine ww ?_
   cases h
   exact eM [some 0,some 1] rfl
  refine ww ?_
  refine guardDh h (fun g5 h=>?_) (fun g5 h=>?_)
  ·refine ww ?_
   cases h
   exact eM [some 0,some 1] rfl
  refine ww ?_
  refine guardDh h (fun g6 h=>?_) (fun g6 h=>?_)
  ·refine ww ?_
   cases h
   exact eM [some 0,some 1] rfl
  refine ww ?_
  refine guardDh h (fun g7 h=>?_) (fun g7 h=>?_)
  ·refine ww ?_
   cases h
   exact eM [some 0,some 1] rfl
  refine ww ?_
  refine guardDh h (fun g8 h=>?_) (fun g8 h=>?_)
  ·refine ww ?_
   cases h
   exact eM [some 0,some 1] rfl
  refine ww ?_
  refine guardDh h (fun g9 h=>?_) (fun g9 h=>?_)
  ·refine ww ?_
   cases h
   exact eM [some 0,some 1] rfl
  refine ww ?_
  refine guardDh h (fun g10 h=>?_) (fun g10 h=>?_)
  ·refine ww ?_
   cases h
   exact eM [some 0,some 1] rfl
  refine ww ?_
  refine guardDBh h (fun g11 h=>?_) (fun g11 h=>?_)
  ·refine ww ?_
   cases h
   exact eM [some 0,some 1] rfl
  refine ww ?_
  cases h
  exact eM [some 0,some 1] rfl
 rintro _ rfl
 clear ho
 refine ww ?_
 refine condBh h (fun c12 h=>?_) (fun c12 h=>?_)
 ·refine ww ?_
  cases h
  exact eF []
 refine ww ?_
 obtain⟨o13,ho,h⟩:=bi h
 refine cutS (fun s=>s=⟨[(2,.one (.c (.pt 0 0))),(3,.one (.c (.pt 1 0))),(101,.one (.c (dB o13)))],[some (.box [dS x0.Kind,dS x0.Namespace,dS x0.Name,dI x0.Uid,dI x0.Version,dI x0.Generation,dI x0.Created,dB x0.Deleting,dI x0.DeleteAt,dM (x0.Labels.map eLabel),dM (x0.Owners.map eOwner),dM (x0.Finalizers.map eS),dM (x0.Managers.map eManager)]),some (.box [dS x1.Kind,dS x1.Namespace,dS x1.Name,dI x1.Uid,dI x1.Version,dI x1.Generation,dI x1.Created,dB x1.Deleting,dI x1.DeleteAt,dM (x1.Labels.map eLabel),dM (x1.Owners.map eOwner),dM (x1.Finalizers.map eS),dM (x1.Managers.map eManager)])]⟩) ?_ ?_
 ·have h:=ho
  clear ho
  refine ww ?_
  refine guardSh h (fun g14 h=>?_) (fun g14 h=>?_)
  ·refine ww ?_
   cases h
   exact eM [some 0,some 1] rfl
  refine ww ?_
  refine guardSh h (fun g15 h=>?_) (fun g15 h=>?_)
  ·refine ww ?_
   cases h
   exact eM [some 0,some 1] rfl
  refine ww ?_
  refine guardSh h (fun g16 h=>?_) (fun g16 h=>?_)
  ·refine ww ?_
   cases h
   exact eM [some 0,some 1] rfl
  refine ww ?_
  obtain⟨t17,ht17,h⟩:=bi h
  refine cN [] (F102_ok ht17) trivial (ww ?_)
  cases h
  exact eM [some 0,some 1] rfl
 rintro _ rfl
 clear ho
 refine ww ?_
 refine condBh h (fun c18 h=>?_) (fun c18 h=>?_)
 ·refine ww ?_
  cases h
  exact eF []
 refine ww ?_
 obtain⟨o19,ho,h⟩:=bi h
 refine cutS (fun s=>∃po19,o19=Sum.inr po19∧s=⟨[(2,.one (.c (.pt 0 0))),(3,.one (.c (.pt 1 0)))],[some (.box [dS x0.Kind,dS x0.Namespace,dS x0.Name,dI x0.Uid,dI x0.Version,dI x0.Generation,dI x0.Created,dB x0.Deleting,dI x0.DeleteAt,dM (x0.Labels.map eLabel),dM (x0.Owners.map eOwner),dM (x0.Finalizers.map eS),dM (x0.Managers.map eManager)]),some (.box [dS x1.Kind,dS x1.Namespace,dS x1.Name,dI x1.Uid,dI x1.Version,dI x1.Generation,dI x1.Created,dB x1.Deleting,dI x1.DeleteAt,dM (x1.Labels.map eLabel),dM (x1.Owners.map eOwner),dM (x1.Finalizers.map eS),dM (x1.Managers.map eManager)])]⟩) ?_ ?_
 ·have h0o19:=h
  have h:=ho
  clear ho
  obtain⟨_,hk,h⟩:=bi h
  have hk:=ck_some hk
  refine ww ?_
  refine bL (fun j s=>∃(o19_0:Nat),(o19_0≤x0.Labels.length∧j=x0.Labels.length-o19_0)∧s=⟨[(2,.one (.c (.pt 0 0))),(3,.one (.c (.pt 1 0))),(5,.one (.c (dI ((o19_0:Int)))))],[some (.box [dS x0.Kind,dS x0.Namespace,dS x0.Name,dI x0.Uid,dI x0.Version,dI x0.Generation,dI x0.Created,dB x0.Deleting,dI x0.DeleteAt,dM (x0.Labels.map eLabel),dM (x0.Owners.map eOwner),dM (x0.Finalizers.map eS),dM (x0.Managers.map eManager)]),some (.box [dS x1.Kind,dS x1.Namespace,dS x1.Name,dI x1.Uid,dI x1.Version,dI x1.Generation,dI x1.Created,dB x1.Deleting,dI x1.DeleteAt,dM (x1.Labels.map eLabel),dM (x1.Owners.map eOwner),dM (x1.Finalizers.map eS),dM (x1.Managers.map eManager)])]⟩∧F80_l19 x1 (x0.Labels.drop o19_0) o19_0=some o19) (x0.Labels.length-0) [some 0,some 1] ⟨0,⟨hk.1,rfl⟩,rfl,h⟩ ?_
  rintro _ _ ⟨o19_0,⟨hi,rfl⟩,rfl,h⟩
  refine ww ?_
  refine condS (fun c20=>?_) (fun c20=>?_)
  ·obtain⟨xo19,hxo19,hd⟩:=countY (show(o19_0:Int)<(x0.Labels.length:Int)from c20)
   rw[hd,F80_l19]at h
   refine ww ?_
   refine t_idxF (enc:=eLabel) (xs:=x0.Labels) rfl rfl hxo19 rfl (ww ?_)
   obtain⟨y21,hy21,h⟩:=bi h
   refine t_idxF (enc:=eLabel) (xs:=x1.Labels) rfl rfl hy21 rfl (ww ?_)
   refine condSh h (fun c22 h=>?_) (fun c22 h=>?_)
   ·refine ww ?_
    obtain⟨fh0o19,hfh0o19,rfl⟩:=Option.map_eq_some_iff.1 h
    have h:=hfh0o19.trans h0o19
    cases h
    exact eF []
   refine ww ?_
   rw[wrapN (by omega)]
   exact eL' (x0.Labels.length-(o19_0+1)) [some 0,some 1] ⟨o19_0+1,⟨by omega,rfl⟩,rfl,h⟩ (by omega)
  rw[countN (show¬((o19_0:Int)<(x0.Labels.length:Int))from c20),F80_l19]at h
  refine ww ?_
  cases h
  exact eM [some 0,some 1] ⟨_,rfl,rfl⟩
 rintro _ ⟨po19,rfl,rfl⟩
 clear ho
 dsimp only at h
 refine ww ?_
 obtain⟨o24,ho,h⟩:=bi h
 refine cutS (fun s=>∃po24,o24=Sum.inr po24∧s=⟨[(2,.one (.c (.pt 0 0))),(3,.one (.c (.pt 1 0)))],[some (.box [dS x0.Kind,dS x0.Namespace,dS x0.Name,dI x0.Uid,dI x0.Version,dI x0.Generation,dI x0.Created,dB x0.Deleting,dI x0.DeleteAt,dM (x0.Labels.map eLabel),dM (x0.Owners.map eOwner),dM (x0.Finalizers.map eS),dM (x0.Managers.map eManager)]),some (.box [dS x1.Kind,dS x1.Namespace,dS x1.Name,dI x1.Uid,dI x1.Version,dI x1.Generation,dI x1.Created,dB x1.Deleting,dI x1.DeleteAt,dM (x1.Labels.map eLabel),dM (x1.Owners.map eOwner),dM (x1.Finalizers.map eS),dM (x1.Managers.map eManager)])]⟩) ?_ ?_
 ·have h0o24:=h
  have h:=ho
  clear ho
  obtain⟨_,hk,h⟩:=bi h
  have hk:=ck_some hk
  refine ww ?_
  refine bL (fun j s=>∃(o24_0:Nat),(o24_0≤x0.Owners.length∧j=x0.Owners.length-o24_0)∧s=⟨[(2,.one (.c (.pt 0 0))),(3,.one (.c (.pt 1 0))),(6,.one (.c (dI ((o24_0:Int)))))],[some (.box [dS x0.Kind,dS x0.Namespace,dS x0.Name,dI x0.Uid,dI x0.Version,dI x0.Generation,dI x0.Created,dB x0.Deleting,dI x0.DeleteAt,dM (x0.Labels.map eLabel),dM (x0.Owners.map eOwner),dM (x0.Finalizers.map eS),dM (x0.Managers.map eManager)]),some (.box [dS x1.Kind,dS x1.Namespace,dS x1.Name,dI x1.Uid,dI x1.Version,dI x1.Generation,dI x1.Created,dB x1.Deleting,dI x1.DeleteAt,dM (x1.Labels.map eLabel),dM (x1.Owners.map eOwner),dM (x1.Finalizers.map eS),dM (x1.Managers.map eManager)])]⟩∧F80_l24 x1 (x0.Owners.drop o24_0) o24_0=some o24) (x0.Owners.length-0) [some 0,some 1] ⟨0,⟨hk.1,rfl⟩,rfl,h⟩ ?_
  rintro _ _ ⟨o24_0,⟨hi,rfl⟩,rfl,h⟩
  refine ww ?_
  refine condS (fun c25=>?_) (fun c25=>?_)
  ·obtain⟨xo24,hxo24,hd⟩:=countY (show(o24_0:Int)<(x0.Owners.length:Int)from c25)
   rw[hd,F80_l24]at h
   refine ww ?_
   refine t_idxF (enc:=eOwner) (xs:=x0.Owners) rfl rfl hxo24 rfl (ww ?_)
   obtain⟨y26,hy26,h⟩:=bi h
   refine t_idxF (enc:=eOwner) (xs:=x1.Owners) rfl rfl hy26 rfl (ww ?_)
   refine condBh h (fun c27 h=>?_) (fun c27 h=>?_)
   ·refine ww ?_
    obtain⟨fh0o24,hfh0o24,rfl⟩:=Option.map_eq_some_iff.1 h
    have h:=hfh0o24.trans h0o24
    cases h
    exact eF []
   refine ww ?_
   rw[wrapN (by omega)]
   exact eL' (x0.Owners.length-(o24_0+1)) [some 0,some 1] ⟨o24_0+1,⟨by omega,rfl⟩,rfl,h⟩ (by omega)
  rw[countN (show¬((o24_0:Int)<(x0.Owners.length:Int))from c25),F80_l24]at h
  refine ww ?_
  cases h
  exact eM [some 0,some 1] ⟨_,rfl,rfl⟩
 rintro _ ⟨po24,rfl,rfl⟩
 clear ho
 dsimp only at h
 refine ww ?_
 obtain⟨o29,ho,h⟩:=bi h
 refine cutS (fun s=>∃po29,o29=Sum.inr po29∧s=⟨[],[]⟩) ?_ ?_
 ·have h0o29:=h
  have h:=ho
  clear ho
  obtain⟨_,hk,h⟩:=bi h
  have hk:=ck_some hk
  refine ww ?_
  refine bL (fun j s=>∃(o29_0:Nat),(o29_0≤x0.Managers.length∧j=x0.Managers.length-o29_0)∧s=⟨[(2,.one (.c (.pt 0 0))),(3,.one (.c (.pt 1 0))),(7,.one (.c (dI ((o29_0:Int)))))],[some (.box [dS x0.Kind,dS x0.Namespace,dS x0.Name,dI x0.Uid,dI x0.Version,dI x0.Generation,dI x0.Created,dB x0.Deleting,dI x0.DeleteAt,dM (x0.Labels.map eLabel),dM (x0.Owners.map eOwner),dM (x0.Finalizers.map eS),dM (x0.Managers.map eManager)]),some (.box [dS x1.Kind,dS x1.Namespace,dS x1.Name,dI x1.Uid,dI x1.Version,dI x1.Generation,dI x1.Created,dB x1.Deleting,dI x1.DeleteAt,dM (x1.Labels.map eLabel),dM (x1.Owners.map eOwner),dM (x1.Finalizers.map eS),dM (x1.Managers.map eManager)])]⟩∧F80_l29 x1 (x0.Managers.drop o29_0) o29_0=some o29) (x0.Managers.length-0) [some 0,some 1] ⟨0,⟨hk.1,rfl⟩,rfl,h⟩ ?_
  rintro _ _ ⟨o29_0,⟨hi,rfl⟩,rfl,h⟩
  refine ww ?_
  refine condS (fun c30=>?_) (fun c30=>?_)
  ·obtain⟨xo29,hxo29,hd⟩:=countY (show(o29_0:Int)<(x0.Managers.length:Int)from c30)
   rw[hd,F80_l29]at h
   refine ww ?_
   obtain⟨o31,ho,h⟩:=bi h
   refine cutS (fun s=>s=⟨[(2,.one (.c (.pt 0 0))),(3,.one (.c (.pt 1 0))),(7,.one (.c (dI ((o29_0:Int))))),(173,.one (.c (dB o31)))],[some (.box [dS x0.Kind,dS x0.Namespace,dS x0.Name,dI x0.Uid,dI x0.Version,dI x0.Generation,dI x0.Created,dB x0.Deleting,dI x0.DeleteAt,dM (x0.Labels.map eLabel),dM (x0.Owners.map eOwner),dM (x0.Finalizers.map eS),dM (x0.Managers.map eManager)]),some (.box [dS x1.Kind,dS x1.Namespace,dS x1.Name,dI x1.Uid,dI x1.Version,dI x1.Generation,dI x1.Created,dB x1.Deleting,dI x1.DeleteAt,dM (x1.Labels.map eLabel),dM (x1.Owners.map eOwner),dM (x1.Finalizers.map eS),dM (x1.Managers.map eManager)])]⟩) ?_ ?_
   ·have h:=ho
    clear ho
    refine ww ?_
    refine t_idxF (enc:=eManager) (xs:=x0.Managers) rfl rfl hxo29 rfl (ww ?_)
    obtain⟨y32,hy32,h⟩:=bi h
    refine t_idxF (enc:=eManager) (xs:=x1.Managers) rfl rfl hy32 rfl (ww ?_)
    refine guardDh h (fun g33 h=>?_) (fun g33 h=>?_)
    ·refine ww ?_
     cases h
     exact eM [some 0,some 1] rfl
    refine ww ?_
    refine t_idxF (enc:=eManager) (xs:=x0.Managers) rfl rfl hxo29 rfl (ww ?_)
    refine t_idxF (enc:=eManager) (xs:=x1.Managers) rfl rfl hy32 rfl (ww ?_)
    obtain⟨t34,ht34,h⟩:=bi h
    refine cN [] (F102_ok ht34) trivial (ww ?_)
    cases h
    exact eM [some 0,some 1] rfl
   rintro _ rfl
   clear ho
   refine ww ?_
   refine condBh h (fun c35 h=>?_) (fun c35 h=>?_)
   ·refine ww ?_
    obtain⟨fh0o29,hfh0o29,rfl⟩:=Option.map_eq_some_iff.1 h
    have h:=hfh0o29.trans h0o29
    cases h
    exact eF []
   refine ww ?_
   rw[wrapN (by omega)]
   exact eL' (x0.Managers.length-(o29_0+1)) [some 0,some 1] ⟨o29_0+1,⟨by omega,rfl⟩,rfl,h⟩ (by omega)
  rw[countN (show¬((o29_0:Int)<(x0.Managers.length:Int))from c30),F80_l29]at h
  refine ww ?_
  cases h
  exact eM [] ⟨_,rfl,rfl⟩
 rintro _ ⟨po29,rfl,rfl⟩
 clear ho
 dsimp only at h
 refine ww ?_
 cases h
 exact eF []
def F125(x0:Bool)(x1:Bool):Option (Int):=(if x0=true then some ((-1))else(if x1=true then some 1 else some 0))
def a125:AFn:=⟨7,[(.tmp 4)],
 (.seq (.reg [sq 4 (.mv (kI 0))])
 (.seq (.seq (.reg [sq 5 (.mv (.t 0))])
 (.cond (.t 5)
 (.seq (.reg [sq 4 (.mv (kI (-1)))])
 .ret)
 .skip))
 (.seq (.seq (.reg [sq 6 (.mv (.t 1))])
 (.cond (.t 6)
 (.seq (.reg [sq 4 (.mv (kI 1))])
 .ret)
 .skip))
 (.seq (.reg [sq 4 (.mv (kI 0))])
 .ret))))⟩
theorem a125_ok:afn Tryz.prog 125=some a125.er:=by kernel_rfl
theorem F125_ok{x0 x1 r}(h:F125 x0 x1=some r):CallD Tryz.prog 125 [.c (dB x0),.c (dB x1)] [] (tupV [.c (dI r)]) []:=by
 refine callS a125_ok (by simp[a125]) ?_
 rw[F125]at h
 simp only[a125,VW.down,Nat.reduceEqDiff,reduceCtorEq,Nat.reduceAdd,Nat.reduceLeDiff,Nat.reduceLT,Nat.reduceBEq,Nat.reduceSub,EE.down]
 refine condBh h (fun c1 h=>?_) (fun c1 h=>?_)
 ·refine ww ?_
  cases h
  exact eF []
 refine ww ?_
 refine condBh h (fun c2 h=>?_) (fun c2 h=>?_)
 ·refine ww ?_
  cases h
  exact eF []
 refine ww ?_
 cases h
 exact eF []
def F103_l8(rc119:TValue→TValue→Option (Int))(x0:TValue)(x1:TValue):Nat→Int→Int→Option (Int)
 |0,_,_=>none
 |k+1,o8_0,o8_1=>(((if o8_1<(x0.List_.length:Int)then(if o8_1<(x1.List_.length:Int)then some (decide (o8_0=0))else some false)else some false)).bind fun o9=>(if o9=true then(rdI x0.List_ o8_1).bind fun y13=>(rdI x1.List_ o8_1).bind fun y14=>(rc119 y13 y14).bind fun t15=>F103_l8 rc119 x0 x1 k t15 ((IntKind.i64.wrap (o8_1+1)))else some o8_0))
def F103_l19(rc119:TValue→TValue→Option (Int))(x0:TValue)(x1:TValue):Nat→Int→Int→Option (Int)
 |0,_,_=>none
 |k+1,o19_0,o19_1=>(((if o19_1<(x0.Fields.length:Int)then(if o19_1<(x1.Fields.length:Int)then some (decide (o19_0=0))else some false)else some false)).bind fun o20=>(if o20=true then(((rdI x0.Fields o19_1).bind fun y25=>(rdI x1.Fields o19_1).bind fun y26=>(F125 (Op.bytesLess y25.Name.toList y26.Name.toList) (nb (Op.bytesLess y25.Name.toList y26.Name.toList||decide (y25.Name=y26.Name)))).bind fun t27=>(if t27=0 then(rc119 y25.V y26.V).bind fun t29=>some t29 else some t27)).bind fun o24=>F103_l19 rc119 x0 x1 k o24 ((IntKind.i64.wrap (o19_1+1))))else some o19_0))
def F103(rc119:TValue→TValue→Option (Int))(x0:TValue)(x1:TValue):Option (Int):=(F125 (decide (x0.Kind<x1.Kind)) (decide (x1.Kind<x0.Kind))).bind fun t1=>(((if t1=0 then(F125 (decide (x0.N<x1.N)) (decide (x1.N<x0.N))).bind fun t4=>some t4 else some t1)).bind fun o2=>(((if o2=0 then(F125 (Op.bytesLess x0.S.toList x1.S.toList) (nb (Op.bytesLess x0.S.toList x1.S.toList||decide (x0.S=x1.S)))).bind fun t7=>some t7 else some o2)).bind fun o5=>((F103_l8 rc119 x0 x1 1099511627776 o5 0).bind fun o8=>(((if o8=0 then(F125 (decide ((x0.List_.length:Int)<(x1.List_.length:Int))) (decide ((x1.List_.length:Int)<(x0.List_.length:Int)))).bind fun t18=>some t18 else some o8)).bind fun o16=>((F103_l19 rc119 x0 x1 1099511627776 o16 0).bind fun o19=>(if o19=0 then(F125 (decide ((x0.Fields.length:Int)<(x1.Fields.length:Int))) (decide ((x1.Fields.length:Int)<(x0.Fields.length:Int)))).bind fun t31=>some t31 else some o19))))))
def a103:AFn:=⟨169,[(.tmp 4)],
 (.seq (.reg [sq 2 (.box (.t 0)),
sq 3 (.box (.t 1)),
sq 4 (.mv (kI 0))])
 (.seq (.reg [sq 8 (.fieldA 0 (.t 2)),
sq 9 (.load none (.t 8)),
sq 10 (.fieldA 0 (.t 3)),
sq 11 (.load none (.t 10)),
sq 12 (.bin .lss (.t 9) (.t 11)),
sq 13 (.fieldA 0 (.t 2)),
sq 14 (.load none (.t 13)),
sq 15 (.fieldA 0 (.t 3)),
sq 16 (.load none (.t 15)),
sq 17 (.bin .gtr (.t 14) (.t 16)),
sq 18 (.call 125 [(.t 12),(.t 17)]),
sq 5 (.mv (.t 18))])
 (.seq (.sem (.seq (.reg [sq 19 (.mv (.t 5)),
sq 20 (.bin .eql (.t 19) (kI 0))])
 (.cond (.t 20)
 (.reg [sq 21 (.fieldA 1 (.t 2)),
sq 22 (.load none (.t 21)),
sq 23 (.fieldA 1 (.t 3)),
sq 24 (.load none (.t 23)),
sq 25 (.bin .lss (.t 22) (.t 24)),
sq 26 (.fieldA 1 (.t 2)),
sq 27 (.load none (.t 26)),
sq 28 (.fieldA 1 (.t 3)),
sq 29 (.load none (.t 28)),
sq 30 (.bin .gtr (.t 27) (.t 29)),
sq 31 (.call 125 [(.t 25),(.t 30)]),
sq 5 (.mv (.t 31))])
 .skip)))
 (.seq (.sem (.seq (.reg [sq 32 (.mv (.t 5)),
sq 33 (.bin .eql (.t 32) (kI 0))])
 (.cond (.t 33)
 (.reg [sq 34 (.fieldA 2 (.t 2)),
sq 35 (.load none (.t 34)),
sq 36 (.fieldA 2 (.t 3)),
sq 37 (.load none (.t 36)),
sq 38 (.bin .lss (.t 35) (.t 37)),
sq 39 (.fieldA 2 (.t 2)),
sq 40 (.load none (.t 39)),
sq 41 (.fieldA 2 (.t 3)),
sq 42 (.load none (.t 41)),
sq 43 (.bin .gtr (.t 40) (.t 42)),
sq 44 (.call 125 [(.t 38),(.t 43)]),
sq 5 (.mv (.t 44))])
 .skip)))
 (.seq (.seq (.reg [sq 6 (.mv (kI 0))])
 (.sem (.block 0 (.loop (.seq (.seq (.sem (.reg [sq 45 (.mv (.t 6)),
sq 46 (.fieldA 3 (.t 2)),
sq 47 (.load none (.t 46)),
sq 48 (.len (.t 47)),
sq 49 (.bin .lss (.t 45) (.t 48)),
sq 50 (.mv (.t 49)),
zg 51 50 true (.mv (.t 6)),
zg 52 50 true (.fieldA 3 (.t 3)),
zg 53 50 true (.load none (.t 52)),
zg 54 50 true (.len (.t 53)),
zg 55 50 true (.bin .lss (.t 51) (.t 54)),
sq 56 (.pick (.t 50) (.t 55) (kB false)),
sq 57 (.mv (.t 56)),
zg 58 57 true (.mv (.t 5)),
zg 59 57 true (.bin .eql (.t 58) (kI 0)),
sq 60 (.pick (.t 57) (.t 59) (kB false))]))
 (.cond (.t 60)
 .skip
 (.exit 0)))
 (.seq (.block 1 (.regd [sq 63 (.fieldA 3 (.t 2)),
sd 64 (.load none (.t 63)) [0],
sq 65 (.mv (.t 6)),
sd 66 (.indexA 5 (.t 64) (.t 65)) [0,1,2],
sd 67 (.load (some 5) (.t 66)) [0,1,2,3],
sq 68 (.fieldA 3 (.t 3)),
sd 69 (.load none (.t 68)) [5],
sq 70 (.mv (.t 6)),
sd 71 (.indexA 5 (.t 69) (.t 70)) [5,6,7],
sd 72 (.load (some 5) (.t 71)) [5,6,7,8],
zl 73 (.call 103 [(.t 67),(.t 72)]) [0,1,2,3,4,5,6,7,8,9] [],
sd 5 (.mv (.t 73)) [0,1,2,3,4,5,6,7,8,9,10]]))
 (.reg [sq 61 (.mv (.t 6)),
sq 62 (.bin .add (.t 61) (kI 1)),
sq 6 (.mv (.t 62))])))))))
 (.seq (.sem (.seq (.reg [sq 74 (.mv (.t 5)),
sq 75 (.bin .eql (.t 74) (kI 0))])
 (.cond (.t 75)
 (.reg [sq 76 (.fieldA 3 (.t 2)),
sq 77 (.load none (.t 76)),
sq 78 (.len (.t 77)),
sq 79 (.fieldA 3 (.t 3)),
sq 80 (.load none (.t 79)),
sq 81 (.len (.t 80)),
sq 82 (.bin .lss (.t 78) (.t 81)),
sq 83 (.fieldA 3 (.t 2)),
sq 84 (.load none (.t 83)),
sq 85 (.len (.t 84)),
sq 86 (.fieldA 3 (.t 3)),
sq 87 (.load none (.t 86)),
sq 88 (.len (.t 87)),
sq 89 (.bin .gtr (.t 85) (.t 88)),
sq 90 (.call 125 [(.t 82),(.t 89)]),
sq 5 (.mv (.t 90))])
 .skip)))
 (.seq (.seq (.reg [sq 7 (.mv (kI 0))])
 (.sem (.block 2 (.loop (.seq (.seq (.sem (.reg [sq 91 (.mv (.t 7)),
sq 92 (.fieldA 4 (.t 2)),
sq 93 (.load none (.t 92)),
sq 94 (.len (.t 93)),
sq 95 (.bin .lss (.t 91) (.t 94)),
sq 96 (.mv (.t 95)),
zg 97 96 true (.mv (.t 7)),
zg 98 96 true (.fieldA 4 (.t 3)),
zg 99 96 true (.load none (.t 98)),
zg 100 96 true (.len (.t 99)),
zg 101 96 true (.bin .lss (.t 97) (.t 100)),
sq 102 (.pick (.t 96) (.t 101) (kB false)),
sq 103 (.mv (.t 102)),
zg 104 103 true (.mv (.t 5)),
zg 105 103 true (.bin .eql (.t 104) (kI 0)),
sq 106 (.pick (.t 103) (.t 105) (kB false))]))
 (.cond (.t 106)
 .skip
 (.exit 2)))
 (.seq (.sem (.block 3 (.seq (.regd [sq 109 (.fieldA 4 (.t 2)),
sd 110 (.load none (.t 109)) [0],
sq 111 (.mv (.t 7)),
sd 112 (.indexA 6 (.t 110) (.t 111)) [0,1,2],
sd 113 (.fieldA 0 (.t 112)) [0,1,2,3],
sd 114 (.load none (.t 113)) [0,1,2,3,4],
sq 115 (.fieldA 4 (.t 3)),
sd 116 (.load none (.t 115)) [6],
sq 117 (.mv (.t 7)),
sd 118 (.indexA 6 (.t 116) (.t 117)) [6,7,8],
sd 119 (.fieldA 0 (.t 118)) [6,7,8,9],
sd 120 (.load none (.t 119)) [6,7,8,9,10],
sd 121 (.bin .lss (.t 114) (.t 120)) [0,1,2,3,4,5,6,7,8,9,10,11],
sq 122 (.fieldA 4 (.t 2)),
sd 123 (.load none (.t 122)) [13],
sq 124 (.mv (.t 7)),
sd 125 (.indexA 6 (.t 123) (.t 124)) [13,14,15],
sd 126 (.fieldA 0 (.t 125)) [13,14,15,16],
sd 127 (.load none (.t 126)) [13,14,15,16,17],
sq 128 (.fieldA 4 (.t 3)),
sd 129 (.load none (.t 128)) [19],
sq 130 (.mv (.t 7)),
sd 131 (.indexA 6 (.t 129) (.t 130)) [19,20,21],
sd 132 (.fieldA 0 (.t 131)) [19,20,21,22],
sd 133 (.load none (.t 132)) [19,20,21,22,23],
sd 134 (.bin .gtr (.t 127) (.t 133)) [13,14,15,16,17,18,19,20,21,22,23,24],
zl 135 (.call 125 [(.t 121),(.t 134)]) [0,1,2,3,4,5,6,7,8,9,10,11,12,13,14,15,16,17,18,19,20,21,22,23,24,25] [],
sd 5 (.mv (.t 135)) [0,1,2,3,4,5,6,7,8,9,10,11,12,13,14,15,16,17,18,19,20,21,22,23,24,25,26]])
 (.seq (.reg [sq 136 (.mv (.t 5)),
sq 137 (.bin .eql (.t 136) (kI 0))])
 (.cond (.t 137)
 (.regd [sq 138 (.fieldA 4 (.t 2)),
sd 139 (.load none (.t 138)) [0],
sq 140 (.mv (.t 7)),
sd 141 (.indexA 6 (.t 139) (.t 140)) [0,1,2],
sd 142 (.fieldA 1 (.t 141)) [0,1,2,3],
sd 143 (.load (some 5) (.t 142)) [0,1,2,3,4],
sq 144 (.fieldA 4 (.t 3)),
sd 145 (.load none (.t 144)) [6],
sq 146 (.mv (.t 7)),
sd 147 (.indexA 6 (.t 145) (.t 146)) [6,7,8],
sd 148 (.fieldA 1 (.t 147)) [6,7,8,9],
sd 149 (.load (some 5) (.t 148)) [6,7,8,9,10],
zl 150 (.call 103 [(.t 143),(.t 149)]) [0,1,2,3,4,5,6,7,8,9,10,11] [],
sd 5 (.mv (.t 150)) [0,1,2,3,4,5,6,7,8,9,10,11,12]])
 .skip)))))
 (.reg [sq 107 (.mv (.t 7)),
sq 108 (.bin .add (.t 107) (kI 1)),
sq 7 (.mv (.t 108))])))))))
 (.seq (.seq (.reg [sq 151 (.mv (.t 5)),
sq 152 (.bin .eql (.t 151) (kI 0))])
 (.cond (.t 152)
 (.reg [sq 153 (.fieldA 4 (.t 2)),
sq 154 (.load none (.t 153)),
sq 155 (.len (.t 154)),
sq 156 (.fieldA 4 (.t 3)),
sq 157 (.load none (.t 156)),
sq 158 (.len (.t 157)),
sq 159 (.bin .lss (.t 155) (.t 158)),
sq 160 (.fieldA 4 (.t 2)),
sq 161 (.load none (.t 160)),
sq 162 (.len (.t 161)),
sq 163 (.fieldA 4 (.t 3)),
sq 164 (.load none (.t 163)),
sq 165 (.len (.t 164)),
sq 166 (.bin .gtr (.t 162) (.t 165)),
sq 167 (.call 125 [(.t 159),(.t 166)]),
sq 5 (.mv (.t 167))])
 .skip))
 (.seq (.reg [sq 168 (.mv (.t 5)),
sq 4 (.mv (.t 168))])
 .ret)))))))))⟩
theorem a103_ok:afn Tryz.prog 103=some a103.er:=by kernel_rfl
theorem F103_ok{rc119:TValue→TValue→Option (Int)}(ih119:∀{x0:TValue} {x1:TValue} {r:Int} (h:rc119 x0 x1=some r),CallD Tryz.prog 103 [.agg [dI x0.Kind,dI x0.N,dS x0.S,dM (x0.List_.map eTValue),dM (x0.Fields.map eTField)],.agg [dI x1.Kind,dI x1.N,dS x1.S,dM (x1.List_.map eTValue),dM (x1.Fields.map eTField)]] [] (tupV [.c (dI r)]) []){x0:TValue}{x1:TValue}{r:Int}(h:F103 rc119 x0 x1=some r):CallD Tryz.prog 103 [.agg [dI x0.Kind,dI x0.N,dS x0.S,dM (x0.List_.map eTValue),dM (x0.Fields.map eTField)],.agg [dI x1.Kind,dI x1.N,dS x1.S,dM (x1.List_.map eTValue),dM (x1.Fields.map eTField)]] [] (tupV [.c (dI r)]) []:=by
 refine callS a103_ok (by simp[a103]) ?_
 rw[F103]at h
 simp only[a103,VW.down,Nat.reduceEqDiff,reduceCtorEq,Nat.reduceAdd,Nat.reduceLeDiff,Nat.reduceLT,Nat.reduceBEq,Nat.reduceSub,EE.down]
 obtain⟨t1,ht1,h⟩:=bi h
 refine cN [] (F125_ok ht1) trivial (ww ?_)
 obtain⟨o2,ho,h⟩:=bi h
 refine cutS (fun s=>s=⟨[(2,.one (.c (.pt 0 0))),(3,.one (.c (.pt 1 0))),(5,.one (.c (dI o2)))],[some (.box [dI x0.Kind,dI x0.N,dS x0.S,dM (x0.List_.map eTValue),dM (x0.Fields.map eTField)]),some (.box [dI x1.Kind,dI x1.N,dS x1.S,dM (x1.List_.map eTValue),dM (x1.Fields.map eTField)])]⟩) ?_ ?_
 ·have h:=ho
  clear ho
  refine ww ?_
  refine condSh h (fun c3 h=>?_) (fun c3 h=>?_)
  ·refine ww ?_
   obtain⟨t4,ht4,h⟩:=bi h
   refine cN [] (F125_ok ht4) trivial (ww ?_)
   cases h
   exact eM [some 0,some 1] rfl
  refine ww ?_
  cases h
  exact eM [some 0,some 1] rfl
 rintro _ rfl
 clear ho
 refine ww ?_
 obtain⟨o5,ho,h⟩:=bi h
 refine cutS (fun s=>s=⟨[(2,.one (.c (.pt 0 0))),(3,.one (.c (.pt 1 0))),(5,.one (.c (dI o5)))],[some (.box [dI x0.Kind,dI x0.N,dS x0.S,dM (x0.List_.map eTValue),dM (x0.Fields.map eTField)]),some (.box [dI x1.Kind,dI x1.N,dS x1.S,dM (x1.List_.map eTValue),dM (x1.Fields.map eTField)])]⟩) ?_ ?_
 ·have h:=ho
  clear ho
  refine ww ?_
  refine condSh h (fun c6 h=>?_) (fun c6 h=>?_)
  ·refine ww ?_
   obtain⟨t7,ht7,h⟩:=bi h
   refine cN [] (F125_ok ht7) trivial (ww ?_)
   cases h
   exact eM [some 0,some 1] rfl
  refine ww ?_
  cases h
  exact eM [some 0,some 1] rfl
 rintro _ rfl
 clear ho
 refine ww ?_
 obtain⟨o8,ho,h⟩:=bi h
 refine cutS (fun s=>s=⟨[(2,.one (.c (.pt 0 0))),(3,.one (.c (.pt 1 0))),(5,.one (.c (dI o8)))],[some (.box [dI x0.Kind,dI x0.N,dS x0.S,dM (x0.List_.map eTValue),dM (x0.Fields.map eTField)]),some (.box [dI x1.Kind,dI x1.N,dS x1.S,dM (x1.List_.map eTValue),dM (x1.Fields.map eTField)])]⟩) ?_ ?_
 ·have h:=ho
  clear ho
  refine ww ?_
  refine bL (fun j s=>∃(o8_0:Int) (o8_1:Int),s=⟨[(2,.one (.c (.pt 0 0))),(3,.one (.c (.pt 1 0))),(5,.one (.c (dI o8_0))),(6,.one (.c (dI o8_1)))],[some (.box [dI x0.Kind,dI x0.N,dS x0.S,dM (x0.List_.map eTValue),dM (x0.Fields.map eTField)]),some (.box [dI x1.Kind,dI x1.N,dS x1.S,dM (x1.List_.map eTValue),dM (x1.Fields.map eTField)])]⟩∧F103_l8 rc119 x0 x1 j o8_0 o8_1=some o8) 1099511627776 [some 0,some 1] ⟨o5,0,rfl,h⟩ ?_
  rintro j _ ⟨o8_0,o8_1,rfl,h⟩
  cases j with
  |zero=>cases(show(none:Option _)=some _ from h)
  |succ j=>
   rw[F103_l8]at h
   refine ww ?_
   obtain⟨o9,ho,h⟩:=bi h
   refine cutS (fun s=>s=⟨[(2,.one (.c (.pt 0 0))),(3,.one (.c (.pt 1 0))),(5,.one (.c (dI o8_0))),(6,.one (.c (dI o8_1))),(60,.one (.c (dB o9)))],[some (.box [dI x0.Kind,dI x0.N,dS x0.S,dM (x0.List_.map eTValue),dM (x0.Fields.map eTField)]),some (.box [dI x1.Kind,dI x1.N,dS x1.S,dM (x1.List_.map eTValue),dM (x1.Fields.map eTField)])]⟩) ?_ ?_
   ·have h:=ho
    clear ho
    refine ww ?_
    refine guardSh h (fun g10 h=>?_) (fun g10 h=>?_)
    ·refine ww ?_
     refine guardSh h (fun g11 h=>?_) (fun g11 h=>?_)
     ·refine ww ?_
      cases h
      exact eM [some 0,some 1] rfl
     ·refine ww ?_
      cases h
      exact eM [some 0,some 1] rfl
    ·refine ww ?_
     cases h
     exact eM [some 0,some 1] rfl
   ·rintro _ rfl
    clear ho
    refine ww ?_
    refine condBh h (fun c12 h=>?_) (fun c12 h=>?_)
    ·refine ww ?_
     obtain⟨y13,hy13,h⟩:=bi h
     refine t_idxF (enc:=eTValue) (xs:=x0.List_) rfl rfl hy13 (by rw[eTValue_u];rfl) (ww ?_)
     obtain⟨y14,hy14,h⟩:=bi h
     refine t_idxF (enc:=eTValue) (xs:=x1.List_) rfl rfl hy14 (by rw[eTValue_u];rfl) (ww ?_)
     obtain⟨t15,ht15,h⟩:=bi h
     refine cN [] (ih119 ht15) trivial (ww ?_)
     exact eL' j [some 0,some 1] ⟨t15,(IntKind.i64.wrap (o8_1+1)),rfl,h⟩ (Nat.lt_succ_self _)
    ·refine ww ?_
     cases h
     exact eM [some 0,some 1] rfl
 rintro _ rfl
 clear ho
 refine ww ?_
 obtain⟨o16,ho,h⟩:=bi h
 refine cutS (fun s=>s=⟨[(2,.one (.c (.pt 0 0))),(3,.one (.c (.pt 1 0))),(5,.one (.c (dI o16)))],[some (.box [dI x0.Kind,dI x0.N,dS x0.S,dM (x0.List_.map eTValue),dM (x0.Fields.map eTField)]),some (.box [dI x1.Kind,dI x1.N,dS x1.S,dM (x1.List_.map eTValue),dM (x1.Fields.map eTField)])]⟩) ?_ ?_
 ·have h:=ho
  clear ho
  refine ww ?_
  refine condSh h (fun c17 h=>?_) (fun c17 h=>?_)
  ·refine ww ?_
   obtain⟨t18,ht18,h⟩:=bi h
   refine cN [] (F125_ok ht18) trivial (ww ?_)
   cases h
   exact eM [some 0,some 1] rfl
  refine ww ?_
  cases h
  exact eM [some 0,some 1] rfl
 rintro _ rfl
 clear ho
 refine ww ?_
 obtain⟨o19,ho,h⟩:=bi h
 refine cutS (fun s=>s=⟨[(2,.one (.c (.pt 0 0))),(3,.one (.c (.pt 1 0))),(5,.one (.c (dI o19)))],[some (.box [dI x0.Kind,dI x0.N,dS x0.S,dM (x0.List_.map eTValue),dM (x0.Fields.map eTField)]),some (.box [dI x1.Kind,dI x1.N,dS x1.S,dM (x1.List_.map eTValue),dM (x1.Fields.map eTField)])]⟩) ?_ ?_
 ·have h:=ho
  clear ho
  refine ww ?_
  refine bL (fun j s=>∃(o19_0:Int) (o19_1:Int),s=⟨[(2,.one (.c (.pt 0 0))),(3,.one (.c (.pt 1 0))),(5,.one (.c (dI o19_0))),(7,.one (.c (dI o19_1)))],[some (.box [dI x0.Kind,dI x0.N,dS x0.S,dM (x0.List_.map eTValue),dM (x0.Fields.map eTField)]),some (.box [dI x1.Kind,dI x1.N,dS x1.S,dM (x1.List_.map eTValue),dM (x1.Fields.map eTField)])]⟩∧F103_l19 rc119 x0 x1 j o19_0 o19_1=some o19) 1099511627776 [some 0,some 1] ⟨o16,0,rfl,h⟩ ?_
  rintro j _ ⟨o19_0,o19_1,rfl,h⟩
  cases j with
  |zero=>cases(show(none:Option _)=some _ from h)
  |succ j=>
   rw[F103_l19]at h
   refine ww ?_
   obtain⟨o20,ho,h⟩:=bi h
   refine cutS (fun s=>s=⟨[(2,.one (.c (.pt 0 0))),(3,.one (.c (.pt 1 0))),(5,.one (.c (dI o19_0))),(7,.one (.c (dI o19_1))),(106,.one (.c (dB o20)))],[some (.box [dI x0.Kind,dI x0.N,dS x0.S,dM (x0.List_.map eTValue),dM (x0.Fields.map eTField)]),some (.box [dI x1.Kind,dI x1.N,dS x1.S,dM (x1.List_.map eTValue),dM (x1.Fields.map eTField)])]⟩) ?_ ?_
   ·have h:=ho
    clear ho
    refine ww ?_
    refine guardSh h (fun g21 h=>?_) (fun g21 h=>?_)
    ·refine ww ?_
     refine guardSh h (fun g22 h=>?_) (fun g22 h=>?_)
     ·refine ww ?_
      cases h
      exact eM [some 0,some 1] rfl
     ·refine ww ?_
      cases h
      exact eM [some 0,some 1] rfl
    ·refine ww ?_
     cases h
     exact eM [some 0,some 1] rfl
   ·rintro _ rfl
    clear ho
    refine ww ?_
    refine condBh h (fun c23 h=>?_) (fun c23 h=>?_)
    ·refine ww ?_
     obtain⟨o24,ho,h⟩:=bi h
     refine cutS (fun s=>s=⟨[(2,.one (.c (.pt 0 0))),(3,.one (.c (.pt 1 0))),(5,.one (.c (dI o24))),(7,.one (.c (dI o19_1)))],[some (.box [dI x0.Kind,dI x0.N,dS x0.S,dM (x0.List_.map eTValue),dM (x0.Fields.map eTField)]),some (.box [dI x1.Kind,dI x1.N,dS x1.S,dM (x1.List_.map eTValue),dM (x1.Fields.map eTField)])]⟩) ?_ ?_
     ·have h:=ho
      clear ho
      refine ww ?_
      obtain⟨y25,hy25,h⟩:=bi h
      refine t_idxF (enc:=eTField) (xs:=x0.Fields) rfl rfl hy25 (by rw[eTField_u];rfl) (ww ?_)
      obtain⟨y26,hy26,h⟩:=bi h
      refine t_idxF (enc:=eTField) (xs:=x1.Fields) rfl rfl hy26 (by rw[eTField_u];rfl) (ww ?_)
      refine t_idxF (enc:=eTField) (xs:=x0.Fields) rfl rfl hy25 (by rw[eTField_u];rfl) (ww ?_)
      refine t_idxF (enc:=eTField) (xs:=x1.Fields) rfl rfl hy26 (by rw[eTField_u];rfl) (ww ?_)
      obtain⟨t27,ht27,h⟩:=bi h
      refine cN [] (F125_ok ht27) trivial (ww ?_)
      refine condSh h (fun c28 h=>?_) (fun c28 h=>?_)
      ·refine ww ?_
       refine t_idxF (enc:=eTField) (xs:=x0.Fields) rfl rfl hy25 (by rw[eTField_u];rfl) (ww ?_)
       refine t_idxF (enc:=eTField) (xs:=x1.Fields) rfl rfl hy26 (by rw[eTField_u];rfl) (ww ?_)
       obtain⟨t29,ht29,h⟩:=bi h
       refine cN [] (ih119 ht29) trivial (ww ?_)
       cases h
       exact eM [some 0,some 1] rfl
      ·refine ww ?_
       cases h
       exact eM [some 0,some 1] rfl
     ·rintro _ rfl
      clear ho
      refine ww ?_
      exact eL' j [some 0,some 1] ⟨o24,(IntKind.i64.wrap (o19_1+1)),rfl,h⟩ (Nat.lt_succ_self _)
    ·refine ww ?_
     cases h
     exact eM [some 0,some 1] rfl
 rintro _ rfl
 clear ho
 refine ww ?_
 refine condSh h (fun c30 h=>?_) (fun c30 h=>?_)
 ·refine ww ?_
  obtain⟨t31,ht31,h⟩:=bi h
  refine cN [] (F125_ok ht31) trivial (ww ?_)
  cases h
  exact eF []
 refine ww ?_
 cases h
 exact eF []
def F103k:Nat→TValue→TValue→Option (Int)
 |0=>fun _ _=>none
 |k+1=>F103 (F103k k)
theorem F103k_ok(k:Nat){x0:TValue}{x1:TValue}{r:Int}(h:F103k k x0 x1=some r):CallD Tryz.prog 103 [.agg [dI x0.Kind,dI x0.N,dS x0.S,dM (x0.List_.map eTValue),dM (x0.Fields.map eTField)],.agg [dI x1.Kind,dI x1.N,dS x1.S,dM (x1.List_.map eTValue),dM (x1.Fields.map eTField)]] [] (tupV [.c (dI r)]) []:=by
 induction k generalizing x0 x1 r with
 |zero=>cases(show(none:Option (Int))=some _ from h)
 |succ k ih=>exact F103_ok (fun h=>ih h) h
def F81(x0:TValue)(x1:TValue):Option (Bool):=(F103k 1099511627776 x0 x1).bind fun t1=>some (decide (t1=0))
def a81:AFn:=⟨9,[(.tmp 4)],
 (.seq (.reg [sq 2 (.box (.t 0)),
sq 3 (.box (.t 1)),
sq 4 (.mv (kB false))])
 (.seq (.reg [sq 5 (.load (some 5) (.t 2)),
sq 6 (.load (some 5) (.t 3)),
sq 7 (.call 103 [(.t 5),(.t 6)]),
sq 8 (.bin .eql (.t 7) (kI 0)),
sq 4 (.mv (.t 8))])
 .ret))⟩
theorem a81_ok:afn Tryz.prog 81=some a81.er:=by kernel_rfl
theorem F81_ok{x0 x1 r}(h:F81 x0 x1=some r):CallD Tryz.prog 81 [.agg [dI x0.Kind,dI x0.N,dS x0.S,dM (x0.List_.map eTValue),dM (x0.Fields.map eTField)],.agg [dI x1.Kind,dI x1.N,dS x1.S,dM (x1.List_.map eTValue),dM (x1.Fields.map eTField)]] [] (tupV [.c (dB r)]) []:=by
 refine callS a81_ok (by simp[a81]) ?_
 rw[F81]at h
 simp only[a81,VW.down,Nat.reduceEqDiff,reduceCtorEq,Nat.reduceAdd,Nat.reduceLeDiff,Nat.reduceLT,Nat.reduceBEq,Nat.reduceSub,EE.down]
 obtain⟨t1,ht1,h⟩:=bi h
 refine cN [] (F103k_ok 1099511627776 ht1) trivial (ww ?_)
 cases h
 exact eF []
def F45(x0:Object)(x1:Object):Option (Bool):=(((F80 x0.Meta x1.Meta).bind fun t2=>(if t2=true then(F81 x0.Spec x1.Spec).bind fun t4=>(if t4=true then(F81 x0.Status x1.Status).bind fun t6=>some t6 else some false)else some false)).bind fun o1=>some o1)
def a45:AFn:=⟨24,[(.tmp 4)],
 (.seq (.reg [sq 2 (.box (.t 0)),
sq 3 (.box (.t 1)),
sq 4 (.mv (kB false))])
 (.seq (.sem (.reg [sq 5 (.fieldA 0 (.t 2)),
sq 6 (.load (some 13) (.t 5)),
sq 7 (.fieldA 0 (.t 3)),
sq 8 (.load (some 13) (.t 7)),
sq 9 (.call 80 [(.t 6),(.t 8)]),
sq 10 (.mv (.t 9)),
zg 11 10 true (.fieldA 13 (.t 2)),
zg 12 10 true (.load (some 5) (.t 11)),
zg 13 10 true (.fieldA 13 (.t 3)),
zg 14 10 true (.load (some 5) (.t 13)),
zg 15 10 true (.call 81 [(.t 12),(.t 14)]),
sq 16 (.pick (.t 10) (.t 15) (kB false)),
sq 17 (.mv (.t 16)),
zg 18 17 true (.fieldA 18 (.t 2)),
zg 19 17 true (.load (some 5) (.t 18)),
zg 20 17 true (.fieldA 18 (.t 3)),
zg 21 17 true (.load (some 5) (.t 20)),
zg 22 17 true (.call 81 [(.t 19),(.t 21)]),
sq 23 (.pick (.t 17) (.t 22) (kB false)),
sq 4 (.mv (.t 23))]))
 .ret))⟩
theorem a45_ok:afn Tryz.prog 45=some a45.er:=by kernel_rfl
theorem F45_ok{x0 x1 r}(h:F45 x0 x1=some r):CallD Tryz.prog 45 [.agg [dS x0.Meta.Kind,dS x0.Meta.Namespace,dS x0.Meta.Name,dI x0.Meta.Uid,dI x0.Meta.Version,dI x0.Meta.Generation,dI x0.Meta.Created,dB x0.Meta.Deleting,dI x0.Meta.DeleteAt,dM (x0.Meta.Labels.map eLabel),dM (x0.Meta.Owners.map eOwner),dM (x0.Meta.Finalizers.map eS),dM (x0.Meta.Managers.map eManager),dI x0.Spec.Kind,dI x0.Spec.N,dS x0.Spec.S,dM (x0.Spec.List_.map eTValue),dM (x0.Spec.Fields.map eTField),dI x0.Status.Kind,dI x0.Status.N,dS x0.Status.S,dM (x0.Status.List_.map eTValue),dM (x0.Status.Fields.map eTField)],.agg [dS x1.Meta.Kind,dS x1.Meta.Namespace,dS x1.Meta.Name,dI x1.Meta.Uid,dI x1.Meta.Version,dI x1.Meta.Generation,dI x1.Meta.Created,dB x1.Meta.Deleting,dI x1.Meta.DeleteAt,dM (x1.Meta.Labels.map eLabel),dM (x1.Meta.Owners.map eOwner),dM (x1.Meta.Finalizers.map eS),dM (x1.Meta.Managers.map eManager),dI x1.Spec.Kind,dI x1.Spec.N,dS x1.Spec.S,dM (x1.Spec.List_.map eTValue),dM (x1.Spec.Fields.map eTField),dI x1.Status.Kind,dI x1.Status.N,dS x1.Status.S,dM (x1.Status.List_.map eTValue),dM (x1.Status.Fields.map eTField)]] [] (tupV [.c (dB r)]) []:=by
 refine callS a45_ok (by simp[a45]) ?_
 rw[F45]at h
 simp only[a45,VW.down,Nat.reduceEqDiff,reduceCtorEq,Nat.reduceAdd,Nat.reduceLeDiff,Nat.reduceLT,Nat.reduceBEq,Nat.reduceSub,EE.down]
 obtain⟨o1,ho,h⟩:=bi h
 refine cutS (fun s=>s=⟨[(4,.one (.c (dB o1)))],[]⟩) ?_ ?_
 ·have h:=ho
  clear ho
  refine ww ?_
  obtain⟨t2,ht2,h⟩:=bi h
  refine cN [] (F80_ok ht2) trivial (ww ?_)
  refine guardSBh h (fun g3 h=>?_) (fun g3 h=>?_)
  ·refine ww ?_
   obtain⟨t4,ht4,h⟩:=bi h
   refine cN [] (F81_ok ht4) trivial (ww ?_)
   refine guardSBh h (fun g5 h=>?_) (fun g5 h=>?_)
   ·refine ww ?_
    obtain⟨t6,ht6,h⟩:=bi h
    refine cN [] (F81_ok ht6) trivial (ww ?_)
    cases h
    exact eM [] rfl
   refine ww ?_
   cases h
   exact eM [] rfl
  refine ww ?_
  cases h
  exact eM [] rfl
 rintro _ rfl
 clear ho
 refine ww ?_
 cases h
 exact eF []
end Go.Proofs.YtondgcmdhkhkkaaGreat
