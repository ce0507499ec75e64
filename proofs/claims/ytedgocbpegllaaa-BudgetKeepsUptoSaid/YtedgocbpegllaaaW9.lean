/- Each Go function as a function over typed data, and its walk. -/
import Derived.Test.YtedgocbpegllaaaW0
import Derived.Test.YtedgocbpegllaaaW6
namespace Go.Proofs.Ytedgocbpegllaaa
open Go Go.Fw Go.Shelf
set_option maxRecDepth 100000
set_option maxHeartbeats 4000000
set_option linter.unusedSimpArgs false
set_option linter.unusedVariables false
def F5kd_l1(ex:Int)(now:Int)(pods:List Pod):List Budget→Nat→(List Budget)→Option ((List Budget))
 |[],o1_1,o1_0=>some o1_0
 |xo1::xs,o1_1,o1_0=>(F11 xo1 pods ex now).bind fun t3=>(apI o1_0 ([(⟨(⟨xo1.Meta.Kind,xo1.Meta.Namespace,xo1.Meta.Name,xo1.Meta.Uid,xo1.Meta.Version,xo1.Meta.Generation,xo1.Meta.Created,xo1.Meta.Deleting,xo1.Meta.DeleteAt,t3.1,t3.2.1,t3.2.2.1,t3.2.2.2.1⟩:Meta),t3.2.2.2.2.1,t3.2.2.2.2.2.1,t3.2.2.2.2.2.2.1,xo1.Meta.Generation,t3.2.2.2.2.2.2.2.1,t3.2.2.2.2.2.2.2.2.1,(if(1000000000000000:Int)<(if ex<0 then 0 else ex)then(1000000000000000:Int)else(if ex<0 then 0 else ex)),t3.2.2.2.2.2.2.2.2.2.1,t3.2.2.2.2.2.2.2.2.2.2⟩:Budget)])).bind fun a4=>F5kd_l1 ex now pods xs (o1_1+1) a4
def cF5kd:AC:=(.seq (.reg [Qe 12 0])
 (.sem (.block 0 (.loop (.seq (.seq (.reg [Qa 46 12,
Qa 47 0,
Qh 48 47,
Qn 49 46 48])
 (.cond (.t 49)
 .skip
 (.exit 0)))
 (.seq (.block 1 (.reg [Qa 52 11,
Qa 53 0,
Qa 54 12,
Qp 55 22 53 54,
Qc 56 22 55,
Qa 57 1,
Qa 58 3,
Qa 59 4,
sq 60 (.call 11 [(.t 56),(.t 57),(.t 58),(.t 59)]),
sq 61 (.bslice 22 [(.t 60)]),
sq 62 (.app 22 328 (.t 52) (.t 61)),
Qa 11 62]))
 (.reg [Qa 50 12,
Qm 51 50 1,
Qa 12 51])))))))
def F5kd(l:List Budget)(pods:List Pod)(order:List Int)(ex:Int)(now:Int):Option ((List Budget)):=(((ck (0≤l.length∧l.length≤4294967290)).bind fun u5=>F5kd_l1 ex now pods l 0 ([])).bind fun o1=>some o1)
theorem F5kd_ok{l pods order ex now r}(h:F5kd l pods order ex now=some r):sK Try.prog 169 0 cF5kd [] (sM 169 0 (fun s=>s=⟨[(1,oc (dM (pods.map ePod))),(2,oc (dM (order.map (eK .u8)))),(4,oc (dI now)),(11,oc (dM (r.map eBudget)))],[]⟩) (xQ 169 0 (fun _ _=>False) (fun _=>False)))
 ⟨[(0,oc (dM (l.map eBudget))),(1,oc (dM (pods.map ePod))),(2,oc (dM (order.map (eK .u8)))),(3,oc (dI ex)),(4,oc (dI now)),(11,oc (dN))],[]⟩:=by
 rw[F5kd]at h
 simp only[cF5kd,VW.down,Nat.reduceEqDiff,reduceCtorEq,Nat.reduceAdd,Nat.reduceLeDiff,Nat.reduceLT,Nat.reduceBEq,Nat.reduceSub,EE.down]
 obtain⟨o1,ho,h⟩:=bi h
 refine cutS (fun s=>s=⟨[(1,oc (dM (pods.map ePod))),(2,oc (dM (order.map (eK .u8)))),(4,oc (dI now)),(11,oc (.own 0 0 0 (o1.length) none))],[some (.arr 0 22 (o1.map eBudget))]⟩) ?_ ?_
 ·have h:=ho
  clear ho
  obtain⟨_,hk,h⟩:=bi h
  have hk:=ck_some hk
  refine ww ?_
  refine bL (fun j s=>∃(o1_1:Nat) (o1_0:List Budget),(o1_1≤l.length∧j=l.length-o1_1)∧s=⟨[(0,oc (dM (l.map eBudget))),(1,oc (dM (pods.map ePod))),(2,oc (dM (order.map (eK .u8)))),(3,oc (dI ex)),(4,oc (dI now)),(11,oc (.own 0 0 0 (o1_0.length) none)),(12,oc (dI ((o1_1:Int))))],[some (.arr 0 22 (o1_0.map eBudget))]⟩∧F5kd_l1 ex now pods (l.drop o1_1) o1_1 o1_0=some o1) (l.length-0) [none] ⟨0,[],⟨hk.1,rfl⟩,rfl,h⟩ ?_
  rintro _ _ ⟨o1_1,o1_0,⟨hi,rfl⟩,rfl,h⟩
  refine ww ?_
  refine condS (fun c2=>?_) (fun c2=>?_)
  ·obtain⟨xo1,hxo1,hd⟩:=countY (show(o1_1:Int)<(l.length:Int)from c2)
   rw[hd,F5kd_l1]at h
   refine ww ?_
   refine t_idxF (enc:=eBudget) (xs:=l) rfl rfl hxo1 rfl (ww ?_)
   obtain⟨t3,ht3,h⟩:=bi h
   refine cN [] (F11_ok ht3) trivial (ww ?_)
   refine t_bslice (enc:=eBudget) (ys:=[(⟨(⟨xo1.Meta.Kind,xo1.Meta.Namespace,xo1.Meta.Name,xo1.Meta.Uid,xo1.Meta.Version,xo1.Meta.Generation,xo1.Meta.Created,xo1.Meta.Deleting,xo1.Meta.DeleteAt,t3.1,t3.2.1,t3.2.2.1,t3.2.2.2.1⟩:Meta),t3.2.2.2.2.1,t3.2.2.2.2.2.1,t3.2.2.2.2.2.2.1,xo1.Meta.Generation,t3.2.2.2.2.2.2.2.1,t3.2.2.2.2.2.2.2.2.1,(if(1000000000000000:Int)<(if ex<0 then 0 else ex)then(1000000000000000:Int)else(if ex<0 then 0 else ex)),t3.2.2.2.2.2.2.2.2.2.1,t3.2.2.2.2.2.2.2.2.2.2⟩:Budget)]) rfl rfl (by simp[A1.cells]) (by first|rfl|(simp only[List.drop_zero,take_mapL];rfl)|(simp only[lit,List.map_cons,List.map_nil,List.drop_zero,take_mapL,EE.down];done)|(simp only[lit,List.map_cons,List.map_nil,List.drop_zero,take_mapL,EE.down];rfl)) (ww ?_)
   obtain⟨a4,ha4,h⟩:=bi h
   refine t_app (enc:=eBudget) (xs:=o1_0) rfl rfl (by first|rfl|simp only[List.length_set]|exact(clrL_len (slI_len (by assumption))).symm) rfl (rows_full (enc:=eBudget) (by first|rfl|simp only[List.length_set]|exact(clrL_len (slI_len (by assumption))).symm) rfl) ha4 (ww ?_)
   rw[wrapN (by omega)]
   exact eL' (l.length-(o1_1+1)) [some 0] ⟨o1_1+1,a4,⟨by omega,rfl⟩,rfl,h⟩ (by omega)
  ·rw[countN (show¬((o1_1:Int)<(l.length:Int))from c2),F5kd_l1]at h
   refine ww ?_
   cases h
   exact eM [some 0] rfl
 ·rintro _ rfl
  clear ho
  refine ww ?_
  cases h
  exact eM [] rfl
end Go.Proofs.Ytedgocbpegllaaa
