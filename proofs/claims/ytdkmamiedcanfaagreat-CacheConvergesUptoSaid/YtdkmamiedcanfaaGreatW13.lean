/- Each Go function as a function over typed data, and its walk. -/
import Derived.Test.YtdkmamiedcanfaaGreatW0
import Derived.Test.YtdkmamiedcanfaaGreatW1
import Derived.Test.YtdkmamiedcanfaaGreatW11
namespace Go.Proofs.YtdkmamiedcanfaaGreat
open Go Go.Fw Go.Shelf
set_option maxRecDepth 100000
set_option maxHeartbeats 4000000
set_option linter.unusedSimpArgs false
set_option linter.unusedVariables false
def F20_l2:List TOp→Nat→Int→Int→Int→(List Object)→(List Object)→(List Change)→Option (Ag)
 |[],o2_6,o2_0,o2_1,o2_2,o2_3,o2_4,o2_5=>some ((⟨o2_0,o2_1,o2_2,o2_3,o2_4,o2_5⟩:Ag))
 |xo2::xs,o2_6,o2_0,o2_1,o2_2,o2_3,o2_4,o2_5=>(F44 ((⟨o2_0,o2_1,o2_2,o2_3,o2_4,o2_5⟩:Ag)) xo2).bind fun t4=>F20_l2 xs (o2_6+1) t4.1 t4.2.1 t4.2.2.1 t4.2.2.2.1 t4.2.2.2.2.1 t4.2.2.2.2.2.1
def F20(x0:(List TOp)):Option (Ag):=(F43).bind fun t1=>(((ck (0≤x0.length∧x0.length≤4294967290)).bind fun u5=>F20_l2 x0 0 0 0 1 ([]) ([]) ([])).bind fun o2=>some ((⟨(o2).Rev,(o2).As,(o2).Am,(o2).Bt,(o2).Aa,(o2).Ac⟩:Ag)))
def a20:AFn:=⟨23,[(.cell 2 (some 6))],
 (.seq (.reg [zl 2 (.zbox [dI 0,dI 0,dI 0,dN,dN,dN]) [] []])
 (.seq (.reg [sq 5 (.call 43 []),
sq 3 (.zbox [dI 0,dI 0,dI 0,dN,dN,dN]),
su (.store 6 (.t 3) (.t 5))])
 (.seq (.seq (.reg [Qe 4 0])
 (.sem (.block 0 (.loop (.seq (.seq (.reg [Qa 6 4,
Qa 7 0,
Qh 8 7,
Qn 9 6 8])
 (.cond (.t 9)
 .skip
 (.exit 0)))
 (.seq (.block 1 (.regd [Qc 13 6 3,
Qa 14 0,
Qa 15 4,
sd 16 (.indexA 28 (.t 14) (.t 15)) [1,2],
sd 17 (.load (some 28) (.t 16)) [1,2,3],
zl 18 (.call 44 [(.t 13),(.t 17)]) [0,1,2,3,4] [],
sd 12 (.mv (.t 18)) [0,1,2,3,4,5],
sd 19 (.ext (.t 12) 0) [0,1,2,3,4,5,6],
sd 20 (.ext (.t 12) 1) [0,1,2,3,4,5,6],
sd 21 (.ext (.t 12) 2) [0,1,2,3,4,5,6],
⟨none,none,.store 6 (.t 3) (.t 19),[0,1,2,3,4,5,6,7],(.lone [])⟩]))
 (.reg [Qa 10 4,
Qm 11 10 1,
Qa 4 11])))))))
 (.seq (.reg [Qc 22 6 3,
⟨none,none,.store 6 (.t 2) (.t 22),[],(.lone [3])⟩])
 .ret))))⟩
theorem F20_ok{x0 r}(h:F20 x0=some r):An Tryz.prog 20 [.c (dM (x0.map EX))] [] (AL [.agg (AO (r))]) []:=by
 rw[F20]at h
 refine zc a20 (by kernel_rfl) rfl (ww ?_)
 obtain⟨t1,ht1,h⟩:=bi h
 refine cN [] (F43_ok ht1) trivial (ww ?_)
 obtain⟨o2,ho,h⟩:=bi h
 refine AB (fun s=>s=⟨[(2,Pz 0),(3,Pz 1)],[xb [dI 0,dI 0,dI 0,dN,dN,dN],xb (AO (o2))]⟩) ?_ ?_
 ·have h:=ho
  clear ho
  obtain⟨_,hk,h⟩:=bi h
  have hk:=AS hk
  refine ww ?_
  refine bL (fun j s=>∃(o2_6:Nat) (o2_0:Int) (o2_1:Int) (o2_2:Int) (o2_3:List Object) (o2_4:List Object) (o2_5:List Change),(o2_6≤x0.length∧j=x0.length-o2_6)∧s=⟨[(0,oc (dM (x0.map EX))),(2,Pz 0),(3,Pz 1),(4,oc (dI ((o2_6:Int))))],[xb [dI 0,dI 0,dI 0,dN,dN,dN],xb [dI o2_0,dI o2_1,dI o2_2,dM (o2_3.map Ad),dM (o2_4.map Ad),dM (o2_5.map A9)]]⟩∧F20_l2 (x0.drop o2_6) o2_6 o2_0 o2_1 o2_2 o2_3 o2_4 o2_5=some o2) (x0.length-0) [some 0,some 1] ⟨0,0,0,1,[],[],[],⟨hk.1,rfl⟩,rfl,h⟩ ?_
  rintro _ _ ⟨o2_6,o2_0,o2_1,o2_2,o2_3,o2_4,o2_5,⟨hi,rfl⟩,rfl,h⟩
  refine ww ?_
  refine Bg (fun c3=>?_) (fun c3=>?_)
  ·obtain⟨xo2,hxo2,hd⟩:=A5 (show(o2_6:Int)<(x0.length:Int)from c3)
   rw[hd,F20_l2]at h
   refine ww ?_
   refine Az (enc:=EX) (xs:=x0) rfl rfl hxo2 rfl (ww ?_)
   obtain⟨t4,ht4,h⟩:=bi h
   refine cN [] (F44_ok ht4) trivial (ww ?_)
   rw[AW (by omega)]
   exact eL' (x0.length-(o2_6+1)) [some 0,some 1] ⟨o2_6+1,t4.1,t4.2.1,t4.2.2.1,t4.2.2.2.1,t4.2.2.2.2.1,t4.2.2.2.2.2.1,⟨by omega,rfl⟩,rfl,h⟩ (by omega)
  rw[A6 (show¬((o2_6:Int)<(x0.length:Int))from c3),F20_l2]at h
  refine ww ?_
  cases h
  exact eM [some 0,some 1] rfl
 rintro _ rfl
 clear ho
 refine ww ?_
 cases h
 exact eF []
end Go.Proofs.YtdkmamiedcanfaaGreat
