/- Each Go function as a function over typed data, and its walk. -/
import Derived.Test.YtdkmamiedcanfaaGreatW0
import Derived.Test.YtdkmamiedcanfaaGreatW7
import Derived.Test.YtdkmamiedcanfaaGreatW11
import Derived.Test.YtdkmamiedcanfaaGreatW12
import Derived.Test.YtdkmamiedcanfaaGreatW14
import Derived.Test.YtdkmamiedcanfaaGreatW20
namespace Go.Proofs.YtdkmamiedcanfaaGreat
open Go Go.Fw Go.Shelf
set_option maxRecDepth 100000
set_option maxHeartbeats 4000000
set_option linter.unusedSimpArgs false
set_option linter.unusedVariables false
def F4(x0:Cache)(x1:(List Event))(x2:Int):Option (Bool):=(((F8 x0).bind fun t2=>(if(nb t2)=true then some true else(F9 x1).bind fun t4=>some (nb t4))).bind fun o1=>(if o1=true then(F10).bind fun t6=>some t6 else(((F11 x0 x1).bind fun t8=>some ((t8.1,t8.2.1,t8.2.2))).bind fun o7=>(((F11 ((⟨(⟨x0.Filter.Kind,x0.Filter.Namespace,o7.1⟩:Filter),o7.2.1,x0.Synced,o7.2.2⟩:Cache)) x1).bind fun t10=>(F15 ((⟨(⟨x0.Filter.Kind,x0.Filter.Namespace,t10.1⟩:Filter),t10.2.1,x0.Synced,t10.2.2⟩:Cache)) ((⟨(⟨x0.Filter.Kind,x0.Filter.Namespace,o7.1⟩:Filter),o7.2.1,x0.Synced,o7.2.2⟩:Cache))).bind fun t11=>(if t11=true then(slI x1 0 ((if(x1.length:Int)<(IntKind.i64.wrap x2)then(x1.length:Int)else(IntKind.i64.wrap x2)))).bind fun s13=>(F11 x0 s13).bind fun t14=>(slI x1 ((if(x1.length:Int)<(IntKind.i64.wrap x2)then(x1.length:Int)else(IntKind.i64.wrap x2))) ((x1.length:Int))).bind fun s15=>(F11 ((⟨(⟨x0.Filter.Kind,x0.Filter.Namespace,t14.1⟩:Filter),t14.2.1,x0.Synced,t14.2.2⟩:Cache)) s15).bind fun t16=>(F15 ((⟨(⟨x0.Filter.Kind,x0.Filter.Namespace,t16.1⟩:Filter),t16.2.1,x0.Synced,t16.2.2⟩:Cache)) ((⟨(⟨x0.Filter.Kind,x0.Filter.Namespace,o7.1⟩:Filter),o7.2.1,x0.Synced,o7.2.2⟩:Cache))).bind fun t17=>(if t17=true then(F10).bind fun t19=>some t19 else some false)else some false)).bind fun o9=>some o9))))
def a4:AFn:=⟨47,[(.tmp 6)],
 (.seq (.reg [sq 3 (.box (.t 0)),
sq 6 (.mv (kB false))])
 (.seq (.seq (.sem (.reg [sq 9 (.load (some 6) (.t 3)),
sq 10 (.call 8 [(.t 9)]),
sq 11 (.not (.t 10)),
sq 12 (.mv (.t 11)),
zg 13 12 false (.mv (.t 1)),
zg 14 12 false (.call 9 [(.t 13)]),
zg 15 12 false (.not (.t 14)),
sq 16 (.pick (.t 12) (kB true) (.t 15))]))
 (.cond (.t 16)
 (.seq (.reg [sq 17 (.call 10 []),
sq 6 (.mv (.t 17))])
 .ret)
 .skip))
 (.seq (.reg [sq 18 (.mv (.t 2)),
sq 19 (.conv .i64 (.t 18)),
sq 20 (.mv (.t 1)),
sq 21 (.len (.t 20)),
sq 22 (.min (.t 19) (.t 21)),
sq 7 (.mv (.t 22))])
 (.seq (.sem (.reg [sq 23 (.load (some 6) (.t 3)),
sq 24 (.mv (.t 1)),
sq 25 (.call 11 [(.t 23),(.t 24)]),
sq 8 (.zbox [dS ⟨#[]⟩,dS ⟨#[]⟩,dN,dI 0,dB false,dN]),
su (.store 6 (.t 8) (.t 25))]))
 (.seq (.sem (.regd [sq 26 (.load (some 6) (.t 8)),
sq 27 (.mv (.t 1)),
zn 28 (.call 11 [(.t 26),(.t 27)]) [0,1] [0,1],
sq 29 (.load (some 6) (.t 8)),
zl 30 (.call 15 [(.t 28),(.t 29)]) [0,1,2,3] [],
sd 31 (.mv (.t 30)) [0,1,2,3,4],
⟨(some 32),(some (31,true)),.load (some 6) (.t 3),[0,1,2,3,4,5],(.new [])⟩,
⟨(some 33),(some (31,true)),.mv (.t 1),[0,1,2,3,4,5],(.new [])⟩,
⟨(some 34),(some (31,true)),.mv (.t 7),[0,1,2,3,4,5],(.new [])⟩,
⟨(some 35),(some (31,true)),.slice 25 (.t 33) none (some (.t 34)) none,[0,1,2,3,4,5,7,8],(.new [])⟩,
⟨(some 36),(some (31,true)),.call 11 [(.t 32),(.t 35)],[0,1,2,3,4,5,6,7,8,9],(.new [6,7,8,9])⟩,
⟨(some 37),(some (31,true)),.mv (.t 1),[0,1,2,3,4,5],(.new [])⟩,
⟨(some 38),(some (31,true)),.mv (.t 7),[0,1,2,3,4,5],(.new [])⟩,
⟨(some 39),(some (31,true)),.slice 25 (.t 37) (some (.t 38)) none none,[0,1,2,3,4,5,11,12],(.new [])⟩,
⟨(some 40),(some (31,true)),.call 11 [(.t 36),(.t 39)],[0,1,2,3,4,5,6,7,8,9,10,11,12,13],(.new [6,7,8,9,10,11,12,13])⟩,
⟨(some 41),(some (31,true)),.load (some 6) (.t 8),[0,1,2,3,4,5],(.new [])⟩,
⟨(some 42),(some (31,true)),.call 15 [(.t 40),(.t 41)],[0,1,2,3,4,5,6,7,8,9,10,11,12,13,14,15],(.lone [])⟩,
zl 43 (.pick (.t 31) (.t 42) (kB false)) [0,1,2,3,4,5,6,7,8,9,10,11,12,13,14,15,16] [],
sd 44 (.mv (.t 43)) [0,1,2,3,4,5,6,7,8,9,10,11,12,13,14,15,16,17],
⟨(some 45),(some (44,true)),.call 10 [],[0,1,2,3,4,5,6,7,8,9,10,11,12,13,14,15,16,17,18],(.lone [])⟩,
zl 46 (.pick (.t 44) (.t 45) (kB false)) [0,1,2,3,4,5,6,7,8,9,10,11,12,13,14,15,16,17,18,19] [],
sd 6 (.mv (.t 46)) [0,1,2,3,4,5,6,7,8,9,10,11,12,13,14,15,16,17,18,19,20]]))
 .ret)))))⟩
theorem F4_ok{x0 x1 x2 r}(h:F4 x0 x1 x2=some r):CallD Tryz.prog 4 [.agg [dS x0.Filter.Kind,dS x0.Filter.Namespace,dM (x0.Filter.Selector.map eRequirement),dI x0.Rev,dB x0.Synced,dM (x0.Objects.map eObject)],.c (dM (x1.map eEvent)),.c (.d (.v (.int .u8 x2)))] [] (tupV [.c (dB r)]) []:=by
 rw[F4]at h
 refine zc a4 (by kernel_rfl) rfl (ww ?_)
 obtain⟨o1,ho,h⟩:=bi h
 refine cutS (fun s=>s=⟨[(1,.one (.c (dM (x1.map eEvent)))),(2,.one (.c (.d (.v (.int .u8 x2))))),(3,.one (.c (.pt 0 0))),(16,.one (.c (dB o1)))],[some (.box [dS x0.Filter.Kind,dS x0.Filter.Namespace,dM (x0.Filter.Selector.map eRequirement),dI x0.Rev,dB x0.Synced,dM (x0.Objects.map eObject)])]⟩) ?_ ?_
 ·have h:=ho
  clear ho
  refine ww ?_
  obtain⟨t2,ht2,h⟩:=bi h
  refine cN [] (F8_ok ht2) trivial (ww ?_)
  refine guardSBh h (fun g3 h=>?_) (fun g3 h=>?_)
  ·refine ww ?_
   cases h
   exact eM [some 0] rfl
  refine ww ?_
  obtain⟨t4,ht4,h⟩:=bi h
  refine cN [] (F9_ok ht4) trivial (ww ?_)
  cases h
  exact eM [some 0] rfl
 rintro _ rfl
 clear ho
 refine ww ?_
 refine condBh h (fun c5 h=>?_) (fun c5 h=>?_)
 ·refine ww ?_
  obtain⟨t6,ht6,h⟩:=bi h
  refine cN [] (F10_ok ht6) trivial (ww ?_)
  cases h
  exact eF []
 refine ww ?_
 obtain⟨o7,ho,h⟩:=bi h
 refine cutS (fun s=>s=⟨[(1,.one (.c (dM (x1.map eEvent)))),(3,.one (.c (.pt 0 0))),(7,.one (.c (dI ((if(x1.length:Int)<(IntKind.i64.wrap x2)then(x1.length:Int)else(IntKind.i64.wrap x2)))))),(8,.one (.c (.pt 1 0)))],[some (.box [dS x0.Filter.Kind,dS x0.Filter.Namespace,dM (x0.Filter.Selector.map eRequirement),dI x0.Rev,dB x0.Synced,dM (x0.Objects.map eObject)]),some (.box [dS x0.Filter.Kind,dS x0.Filter.Namespace,dM (o7.1.map eRequirement),dI o7.2.1,dB x0.Synced,dM (o7.2.2.map eObject)])]⟩) ?_ ?_
 ·have h:=ho
  clear ho
  refine ww ?_
  obtain⟨t8,ht8,h⟩:=bi h
  refine cN [] (F11_ok ht8) trivial (ww ?_)
  cases h
  exact eM [some 0,some 3] rfl
 rintro _ rfl
 clear ho
 refine ww ?_
 obtain⟨o9,ho,h⟩:=bi h
 refine cutS (fun s=>s=⟨[(6,.one (.c (dB o9)))],[]⟩) ?_ ?_
 ·have h:=ho
  clear ho
  refine ww ?_
  obtain⟨t10,ht10,h⟩:=bi h
  refine cN [] (F11_ok ht10) trivial (ww ?_)
  refine kD_new (by simp[wrs,allW,hset]) (ww ?_)
  obtain⟨t11,ht11,h⟩:=bi h
  refine callX_bor (F15_ok ht11) (by simp only[borAs,bors,hp,List.getElem?_cons_zero,List.getElem?_cons_succ,Option.join_some,List.drop_zero,bor_full',true_and,Nat.zero_add,List.length_map,Nat.le_refl,nrm,List.length_cons,List.length_nil,Nat.reduceAdd,Nat.reduceLeDiff,List.take_succ_cons,List.take_zero,List.take_nil,List.map_cons,List.map_nil,List.length_set,EE.down]) rfl ?_
  refine ww ?_
  refine guardDBh h (fun g12 h=>?_) (fun g12 h=>?_)
  ·refine ww ?_
   obtain⟨s13,hs13,h⟩:=bi h
   refine t_slice (enc:=eEvent) (xs:=x1) rfl rfl rfl (fun _=>rfl) hs13 (ww ?_)
   obtain⟨t14,ht14,h⟩:=bi h
   refine cN [] (F11_ok ht14) trivial (ww ?_)
   refine kD_new (by simp[wrs,allW,hset]) (ww ?_)
   obtain⟨s15,hs15,h⟩:=bi h
   refine t_slice (enc:=eEvent) (xs:=x1) rfl rfl rfl (fun _=>rfl) hs15 (ww ?_)
   obtain⟨t16,ht16,h⟩:=bi h
   refine callX_gen (as1:=[.agg [dS x0.Filter.Kind,dS x0.Filter.Namespace,dM (t14.1.map eRequirement),dI t14.2.1,dB x0.Synced,dM (t14.2.2.map eObject)],.c (dM (s15.map eEvent))]) [(4,.arr 1 3 []),(5,.arr 1 23 [])] [some 0,some 1,some 2,some 3,none,none] [] (F11_ok ht16) ⟨?_,rfl,?_⟩ ?_ ?_ ?_ ?_ ?_ ?_ ?_ ?_
   ·simp only[ZZ.down,Nat.reduceEqDiff,reduceCtorEq,Nat.reduceAdd,Nat.reduceLeDiff,Nat.reduceLT,Nat.reduceBNe,EE.down]
   ·simp only[ZZ.down,Nat.reduceEqDiff,reduceCtorEq,Nat.reduceAdd,Nat.reduceLeDiff,Nat.reduceLT,Nat.reduceBNe,EE.down]
   ·simp only[ZZ.down,Nat.reduceEqDiff,reduceCtorEq,Nat.reduceAdd,Nat.reduceLeDiff,Nat.reduceLT,Nat.reduceBNe,EE.down]
   ·rfl
   ·rfl
   ·simp[liveAll,A1.live,C.live]
   ·rfl
   ·decide
   ·exact trivial
   refine ww ?_
   refine kD_own (by simp[wrs,allW,hset,ownW]) (ww ?_)
   obtain⟨t17,ht17,h⟩:=bi h
   refine callX_bor (F15_ok ht17) (by simp only[borAs,bors,hp,List.getElem?_cons_zero,List.getElem?_cons_succ,Option.join_some,List.drop_zero,bor_full',true_and,Nat.zero_add,List.length_map,Nat.le_refl,nrm,List.length_cons,List.length_nil,Nat.reduceAdd,Nat.reduceLeDiff,List.take_succ_cons,List.take_zero,List.take_nil,List.map_cons,List.map_nil,List.length_set,EE.down]) rfl ?_
   refine ww ?_
   refine guardDBh h (fun g18 h=>?_) (fun g18 h=>?_)
   ·refine ww ?_
    obtain⟨t19,ht19,h⟩:=bi h
    refine cN [] (F10_ok ht19) trivial (ww ?_)
    cases h
    exact eM [] rfl
   refine ww ?_
   cases h
   exact eM [] rfl
  refine ww ?_
  cases h
  exact eM [] rfl
 rintro _ rfl
 clear ho
 refine ww ?_
 cases h
 exact eF []
end Go.Proofs.YtdkmamiedcanfaaGreat
