/- Each Go function as a function over typed data, and its walk. -/
import Derived.Test.YtojbebejhgbfeaaGreatW0
import Derived.Test.YtojbebejhgbfeaaGreatW1
import Derived.Test.YtojbebejhgbfeaaGreatW2
import Derived.Test.YtojbebejhgbfeaaGreatW3
import Derived.Test.YtojbebejhgbfeaaGreatW4
import Derived.Test.YtojbebejhgbfeaaGreatW5
import Derived.Test.YtojbebejhgbfeaaGreatW6
import Derived.Test.YtojbebejhgbfeaaGreatW7
import Derived.Test.YtojbebejhgbfeaaGreatW8
import Derived.Test.YtojbebejhgbfeaaGreatW9
import Derived.Test.YtojbebejhgbfeaaGreatW11
import Derived.Test.YtojbebejhgbfeaaGreatW12
import Derived.Test.YtojbebejhgbfeaaGreatW14
import Derived.Test.YtojbebejhgbfeaaGreatW15
open List renaming set_cons_zero->XC,set_cons_succ->XD,length_map->XF,append_nil->XG,map_cons->XH,length_set->XI,length_cons->XJ,map_append->XK,map_nil->XL,length_append->XM,length_eq_zero_iff->XN,length_nil->XO,singleton_append->XP,append_assoc->XQ
open Nat renaming reduceLeDiff->XR,reduceEqDiff->XS,reduceBNe->XU,reduceAdd->XV,reduceLT->XW,le_refl->XX
open Option renaming some->XY,none->XZ,bind_some->X0,bind->X1
open Go.Proofs.Tryz renaming prog->X2
open Sum renaming inr->X3,inl->X4
open Bool renaming true->X5,false->X6
namespace Go.Proofs.YtojbebejhgbfeaaGreat
open Go Go.Fw Go.Shelf
set_option maxRecDepth 100000
set_option maxHeartbeats 4000000
set_option linter.unusedSimpArgs false
set_option linter.unusedVariables false
def Jm:AC:=(.sem (.seq (.sem (.reg [Qa 16 5,
Qb 17 0 16,
Qc 18 36 17,
Qk 19 62 18,
Qq 20 19,
Qa 21 20,
Qv 22 21 X5 5,
Qs 23 21 X5 0 22,
Qs 24 21 X5 34 23,
Qt 25 21 X5 24,
Qi 26 21 25]))
 (.cond (.t 26)
 (.seq (.sem (.seq (.regd [Qa 27 0,
sd 28 (.fieldA 0 (.t 27)) [0],
sd 29 (.fieldA 0 (.t 28)) [0,1],
sd 30 (.fieldA 24 (.t 29)) [0,1,2],
sd 31 (.load XZ (.t 30)) [0,1,2,3],
Qa 32 5,
sd 33 (.fieldA 0 (.t 32)) [5],
sd 34 (.fieldA 35 (.t 33)) [5,6],
sd 35 (.load XZ (.t 34)) [5,6,7],
sd 36 (.bin .geq (.t 31) (.t 35)) [0,1,2,3,4,5,6,7,8]])
 (.cond (.t 36)
 (.reg [Qa 37 0,
Qa 38 5,
zl 39 (.call 85 [(.t 37),(.t 38)]) [] []])
 .skip)))
 (.seq (.seq (.reg [Qa 40 5,
Qb 41 0 40,
Qb 42 0 41,
Qb 43 23 42,
Qb 44 5 43,
Qd 45 44,
sq 46 (.call 87 [(.t 45),(.f 88)]),
Qq 47 46])
 (.cond (.t 47)
 (.exit 1)
 .skip))
 (.reg [Qa 48 5,
Qb 49 0 48,
Qb 50 0 49,
Qb 51 23 50,
Qb 52 1 51,
⟨XZ,XZ,.store 1 (.t 52) (kB X6),[],(.lone [48,49,50,51])⟩])))
 (.seq (.reg [Qa 53 5,
Qb 54 0 53,
Qc 55 36 54,
Qk 56 62 55,
Qq 57 56])
 (.cond (.t 57)
 (.reg [Qa 58 0,
Qa 59 5,
zl 60 (.call 89 [(.t 58),(.t 59)]) [] []])
 .skip)))))
def F45e(e1:Nat)(b0:aj)(pods:List au)(ls:List au)(i:Int)(x:af):Option ((Unit) ⊕ (Int×Bool×Int×Int×(List ag)×(List aF)×(List cp))):=(((((F62 x).bind fun t3=>(if(nb t3)=X5 then XY x.bh else XY X6)).bind fun o2=>(if o2=X5 then(((if x.bK≤b0.ah.cl then(F85 b0 x).bind fun t8=>XY ((t8.1,t8.2))else XY ((x.an.ae.ad,x.aq)))).bind fun o6=>(F87 o6.1).bind fun t9=>(if(nb t9)=X5 then(XY (X4 (()))).map X4 else XY (X3 ((x.an.ae.bC,X6,x.an.ae.bf,x.an.ae.bu,o6.1,x.aK,o6.2)))))else(F62 x).bind fun t11=>(if(nb t11)=X5 then(F89 b0 x).bind fun t13=>XY (X3 ((t13.1,t13.2.1,t13.2.2.1,t13.2.2.2.1,t13.2.2.2.2.1,t13.2.2.2.2.2,x.aq)))else XY (X3 ((x.an.ae.bC,x.an.ae.bd,x.an.ae.bf,x.an.ae.bu,x.an.ae.ad,x.aK,x.aq)))))):Option (((Unit) ⊕ (Int×Bool×Int×Int×(List ag)×(List aF)×(List cp))) ⊕ (Int×Bool×Int×Int×(List ag)×(List aF)×(List cp)))).bind fun o1=>match o1 with|X4 f=>XY f|X3 po1=>XY (X3 ((po1.1,po1.2.1,po1.2.2.1,po1.2.2.2.1,po1.2.2.2.2.1,po1.2.2.2.2.2.1,po1.2.2.2.2.2.2))))
theorem F45e_ok{e1 b0 pods ls i x r}(h:F45e e1 b0 pods ls i x=XY r):sK X2 73 2 Jm [] (sM 73 2 (fun s=>∃o1,r=X3 (o1)∧s=⟨[(0,Pz 0),(2,oc (ow 2 0 ls)),(5,Pz 3),(10,oc (ow 1 e1 pods)),(11,oI (pods.length:Int)),(12,oI i)],[xb (cj b0),ai e1 pods,ai 0 ls,xb (kh x (dI o1.1) (dB o1.2.1) (dI o1.2.2.1) (dI o1.2.2.2.1) (ow 4 0 o1.2.2.2.2.1) (ow 5 0 o1.2.2.2.2.2.1) (ow 6 0 o1.2.2.2.2.2.2)),aE 0 o1.2.2.2.2.1,aU 0 o1.2.2.2.2.2.1,bQ 0 o1.2.2.2.2.2.2]⟩) (xQ 73 2 (fun xi s=>xi=1∧∃o0,r=X4 o0∧s=⟨[(0,Pz 0),(2,oc (ow 2 0 ls)),(10,oc (ow 1 e1 pods)),(11,oI (pods.length:Int)),(12,oI i)],[xb (cj b0),ai e1 pods,ai 0 ls]⟩) (fun _=>False)))
 ⟨[(0,Pz 0),(2,oc (ow 2 0 ls)),(5,Pz 3),(10,oc (ow 1 e1 pods)),(11,oI (pods.length:Int)),(12,oI i)],[xb (cj b0),ai e1 pods,ai 0 ls,xb (bj x (ow 4 0 x.an.ae.ad) (ow 5 0 x.aK) (ow 6 0 x.aq)),aE 0 x.an.ae.ad,aU 0 x.aK,bQ 0 x.aq]⟩:=by
 rw[F45e]at h
 unfold Jm
 refine ww ?_
 obtain⟨o1,ho,h⟩:=bi h
 refine bD (fun s=>∃po1,o1=X3 po1∧s=⟨[(0,Pz 0),(2,oc (ow 2 0 ls)),(5,Pz 3),(10,oc (ow 1 e1 pods)),(11,oI (pods.length:Int)),(12,oI i)],[xb (cj b0),ai e1 pods,ai 0 ls,xb (kh x (dI po1.1) (dB po1.2.1) (dI po1.2.2.1) (dI po1.2.2.2.1) (ow 4 0 po1.2.2.2.2.1) (ow 5 0 po1.2.2.2.2.2.1) (ow 6 0 po1.2.2.2.2.2.2)),aE 0 po1.2.2.2.2.1,aU 0 po1.2.2.2.2.2.1,bQ 0 po1.2.2.2.2.2.2]⟩) ?_ ?_
 ·have h0o1:=h
  have h:=ho
  refine ww ?_
  obtain⟨o2,ho,h⟩:=bi h
  refine bD (fun s=>s=⟨[(0,Pz 0),(2,oc (ow 2 0 ls)),(5,Pz 3),(10,oc (ow 1 e1 pods)),(11,oI (pods.length:Int)),(12,oI i),(26,oB o2)],[xb (cj b0),ai e1 pods,ai 0 ls,xb (bj x (ow 4 0 x.an.ae.ad) (ow 5 0 x.aK) (ow 6 0 x.aq)),aE 0 x.an.ae.ad,aU 0 x.aK,bQ 0 x.aq]⟩) ?_ ?_
  ·have h:=ho
   refine ww ?_
   obtain⟨t3,ht3,h⟩:=bi h
   refine cB (F62_ok ht3) rfl ?_
   refine ww ?_
   refine dK h (fun g4 h=>ww ?_) (fun g4 h=>?_)
   ·cases h
    exact eM i7 rfl
   ·refine ww ?_
    cases h
    exact eM i7 rfl
  ·rintro _ rfl
   refine ww ?_
   refine ct h (fun c5 h=>ww ?_) (fun c5 h=>?_)
   ·obtain⟨o6,ho,h⟩:=bi h
    refine bD (fun s=>s=⟨[(0,Pz 0),(2,oc (ow 2 0 ls)),(5,Pz 3),(10,oc (ow 1 e1 pods)),(11,oI (pods.length:Int)),(12,oI i)],[xb (cj b0),ai e1 pods,ai 0 ls,xb (bj x (ow 4 0 o6.1) (ow 5 0 x.aK) (ow 6 0 o6.2)),aE 0 o6.1,aU 0 x.aK,bQ 0 o6.2]⟩) ?_ ?_
    ·have h:=ho
     refine ww ?_
     refine bG h (fun c7 h=>ww ?_) (fun c7 h=>?_)
     ·obtain⟨t8,ht8,h⟩:=bi h
      refine cN [0,3,4,5,6] (F85_ok (e2:=0) (e3:=0) (e4:=0) ht8) ⟨⟨(by first|rfl|(simp only[XI];rfl)),by simp[bw.live,C.live,hp]⟩,⟨⟨(by first|rfl|(simp only[XI];rfl)),by simp[bw.live,C.live,hp]⟩,⟨⟨rfl,trivial⟩,⟨⟨rfl,trivial⟩,⟨⟨rfl,trivial⟩,trivial⟩⟩⟩⟩⟩ ?_
      refine ww ?_
      cases h
      have qx:=q2 (F85_len2 ht8) (F85_len4 ht8)
      exact fI i7 rfl
     ·refine ww ?_
      cases h
      exact eM i7 rfl
    ·rintro _ rfl
     refine ww ?_
     obtain⟨t9,ht9,h⟩:=bi h
     refine cB (F87_ok ht9) rfl ?_
     refine ww ?_
     refine ct h (fun c10 h=>ww ?_) (fun c10 h=>?_)
     ·obtain⟨fh0o1,hfh0o1,rfl⟩:=Option.map_eq_some_iff.1 h
      have h:=hfh0o1.trans h0o1
      cases h
      exact eX i3 ⟨rfl,_,rfl,rfl⟩
     ·refine ww ?_
      cases h
      exact eM i7 ⟨_,rfl,rfl⟩
   ·refine ww ?_
    obtain⟨t11,ht11,h⟩:=bi h
    refine cB (F62_ok ht11) rfl ?_
    refine ww ?_
    refine ct h (fun c12 h=>ww ?_) (fun c12 h=>?_)
    ·obtain⟨t13,ht13,h⟩:=bi h
     refine cN [0,3,4,5,6] (F89_ok (e2:=0) (e3:=0) (e4:=0) ht13) ⟨⟨(by first|rfl|(simp only[XI];rfl)),by simp[bw.live,C.live,hp]⟩,⟨⟨(by first|rfl|(simp only[XI];rfl)),by simp[bw.live,C.live,hp]⟩,⟨⟨rfl,trivial⟩,⟨⟨rfl,trivial⟩,⟨⟨rfl,trivial⟩,trivial⟩⟩⟩⟩⟩ ?_
     refine ww ?_
     cases h
     have qx:=q2 (F89_len2 ht13) (F89_len3 ht13)
     exact fI i7 ⟨_,rfl,rfl⟩
    ·refine ww ?_
     cases h
     exact eM i7 ⟨_,rfl,rfl⟩
 ·rintro _ ⟨po1,rfl,rfl⟩
  dsimp only at h
  refine ww ?_
  cases h
  exact eM i7 ⟨_,rfl,rfl⟩
def rC(b0:aj)(pods:List au)(e1:Nat):List C:=(aA b0 (.own 1 e1 0 (pods.length) XZ))
def NG(b0:aj)(ls:List au):List C:=(aA b0 (.own 2 0 0 (ls.length) XZ))
abbrev aH(e1:Nat)(b0:aj)(pods:List au)(ls:List au)(i:Int):St:=⟨[(0,Pz 0),(2,oc (.own 2 0 0 (ls.length) XZ)),(10,oc (.own 1 e1 0 (pods.length) XZ)),(11,oI (pods.length:Int)),(12,oI i)],[xb (cj b0),XY (.arr e1 36 (pods.map aS)),XY (.arr 0 36 (ls.map aS))]⟩
abbrev aY(e1:Nat)(b0:aj)(pods:List au)(ls:List au)(i:Int)(y:au):St:=⟨[(0,Pz 0),(2,oc (.own 2 0 0 (ls.length) XZ)),(4,Pz 3),(10,oc (.own 1 e1 0 (pods.length) XZ)),(11,oI (pods.length:Int)),(12,oI i)],[xb (cj b0),XY (.arr e1 36 (pods.map aS)),XY (.arr 0 36 (ls.map aS)),xb (cv y)]⟩
abbrev aX(e1:Nat)(b0:aj)(pods:List au)(ls:List au)(i:Int)(x:af):St:=⟨[(0,Pz 0),(2,oc (.own 2 0 0 (ls.length) XZ)),(4,Pz 3),(10,oc (.own 1 e1 0 (pods.length) XZ)),(11,oI (pods.length:Int)),(12,oI i)],[xb (cj b0),XY (.arr e1 36 (pods.map aS)),XY (.arr 0 36 (ls.map aS)),xb (bj x (.own 4 0 0 (x.an.ae.ad.length) XZ) (.own 5 0 0 (x.aK.length) XZ) (.own 6 0 0 (x.aq.length) XZ)),XY (.arr 0 7 (x.an.ae.ad.map aC)),XY (.arr 0 4 (x.aK.map cu)),XY (.arr 0 2 (x.aq.map fm))]⟩
abbrev Pw(e1:Nat)(b0:aj)(pods:List au)(ls:List au)(i:Int)(x:af):St:=⟨[(0,Pz 0),(2,oc (.own 2 0 0 (ls.length) XZ)),(5,Pz 3),(10,oc (.own 1 e1 0 (pods.length) XZ)),(11,oI (pods.length:Int)),(12,oI i)],[xb (cj b0),XY (.arr e1 36 (pods.map aS)),XY (.arr 0 36 (ls.map aS)),xb (bj x (.own 4 0 0 (x.an.ae.ad.length) XZ) (.own 5 0 0 (x.aK.length) XZ) (.own 6 0 0 (x.aq.length) XZ)),XY (.arr 0 7 (x.an.ae.ad.map aC)),XY (.arr 0 4 (x.aK.map cu)),XY (.arr 0 2 (x.aq.map fm))]⟩
abbrev Oj(e1:Nat)(b0:aj)(pods:List au)(ls:List au)(i:Int)(y:au):St:=⟨[(0,Pz 0),(2,oc (.own 2 0 0 (ls.length) XZ)),(5,Pz 3),(10,oc (.own 1 e1 0 (pods.length) XZ)),(11,oI (pods.length:Int)),(12,oI i)],[xb (cj b0),XY (.arr e1 36 (pods.map aS)),XY (.arr 0 36 (ls.map aS)),xb (cv y)]⟩
def Ra:AC:= .seq Jj (.seq (.cond (.t 13) .skip (.exit 0)) (.seq (.block 1 (.seq Jo (.seq Jn (.seq Jm Jl)))) Jk))
def a45:dG:=⟨73,[],.seq Jq (.seq (.seq Jp (.block 0 (.loop Ra))) E7)⟩
theorem a45_ok:nv X2 45=XY a45.er:=by kernel_rfl
def oU(b0:aj)(x:af):Option (Option af):=(F45e 0 b0 [] [] 0 x).bind fun o=>match o with
 | .inl _=>XY XZ
 | .inr r=>XY (XY ⟨⟨x.an.ak,x.an.Spec,⟨r.1,r.2.1,r.2.2.1,x.an.ae.Started,r.2.2.2.1,r.2.2.2.2.1,x.an.ae.bS,x.an.ae.bg,x.an.ae.b7⟩⟩,r.2.2.2.2.2.1,r.2.2.2.2.2.2,x.bh,x.bK⟩)
def je(b0:aj):List af→Option (List af)
 |[]=>XY []
 |x::r=>(oU b0 x).bind fun o=>(je b0 r).bind fun l=>XY (o.toList++l)
def F45(b0:aj)(ps:List af):Option (List af):=(ck (ps.length≤4294967290)).bind fun _=>je b0 ps
section
variable {B:pr} {e1:Nat} {b0:aj} {pods ls:List au} {i:Int} {x:af} {u1 u2 u3:Value} {A C:List (Option AE)}
theorem Q9:Te 73 2 B (fun s' l'=>s'=aX e1 b0 pods ls i x∧l'=A++XZ::XZ::XZ::C) (aY e1 b0 pods ls i (oV x u1 u2 u3)) (A++NY x u1::NX x u2::NW x u3::C):=by
 refine(Te.mu (p:=3) (j:=28) (i:=A.length) (u:=u1) rfl rfl (Bb A _ _ rfl)).trans ?_
 rintro _ _ ⟨rfl,rfl⟩
 rw[Cp A _ _ _ rfl]
 refine(Te.mu (p:=3) (j:=32) (i:=A.length+1) (u:=u2) rfl rfl (Ba A _ _ _ rfl)).trans ?_
 rintro _ _ ⟨rfl,rfl⟩
 rw[Co A _ _ _ _ rfl]
 refine(Te.mu (p:=3) (j:=33) (i:=A.length+2) (u:=u3) rfl rfl (A9 A _ _ _ _ rfl)).trans ?_
 rintro _ _ ⟨rfl,rfl⟩
 rw[Cm A _ _ _ _ _ rfl]
 refine Te.refl ⟨?_,rfl⟩
 simp only[XF]
 rfl
theorem Q7:Te 73 2 B (fun s' l'=>∃v1 v2 v3,s'=Oj e1 b0 pods ls i (oV x v1 v2 v3)∧l'=A++NY x v1::NX x v2::NW x v3::C) (Pw e1 b0 pods ls i x) (A++XZ::XZ::XZ::C):=by
 refine(Te.ml (p:=3) (j:=28) (i:=A.length) (id:=4) (e:=0) (sz:=7) (rows:=x.an.ae.ad.map aC) rfl (by simp only[XF];rfl) rfl (Bb A _ _ rfl)).trans ?_
 rintro _ _ ⟨v1,rfl,rfl⟩
 rw[Cp A _ _ _ rfl]
 refine(Te.ml (p:=3) (j:=32) (i:=A.length+1) (id:=5) (e:=0) (sz:=4) (rows:=x.aK.map cu) rfl (by simp only[XF];rfl) rfl (Ba A _ _ _ rfl)).trans ?_
 rintro _ _ ⟨v2,rfl,rfl⟩
 rw[Co A _ _ _ _ rfl]
 refine(Te.ml (p:=3) (j:=33) (i:=A.length+2) (id:=6) (e:=0) (sz:=2) (rows:=x.aq.map fm) rfl (by simp only[XF];rfl) rfl (A9 A _ _ _ _ rfl)).trans ?_
 rintro _ _ ⟨v3,rfl,rfl⟩
 rw[Cm A _ _ _ _ _ rfl]
 refine(Te.view (s':=Oj e1 b0 pods ls i (oV x v1 v2 v3)) (eV i4 (by simp only[ZZ.down,XS,reduceCtorEq,XV,XR,XW,XU,EE.down,Oj,Pw,cH,oV,XD,XC]) (by simp only[ZZ.down,XS,reduceCtorEq,XV,XR,XW,XU,EE.down,Oj,Pw,cH,oV,XD,XC]) (by simp only[ZZ.down,XS,reduceCtorEq,XV,XR,XW,XU,EE.down,Oj,Pw,cH,oV,XD,XC]))).trans ?_
 rintro _ _ ⟨rfl,rfl⟩
 exact Te.refl ⟨v1,v2,v3,rfl,rfl⟩
end
theorem Ad{b0:aj}:∀{l r:List af},je b0 l=XY r→r.length≤l.length
 |[],r,h=>by cases h;exact XX _
 |x::l,r,h=>by
  obtain⟨o,_,h⟩:=bi h
  obtain⟨q,h2,h⟩:=bi h
  cases h
  have:=Ad h2
  cases o<;>simp<;>omega
theorem F45_ok{b0:aj}{ds:List DP}{r:List af}{e1:Nat}(h:∀u,F45 (fB b0 u) (ds.map DP.p)=XY r):jI X2 45 [.c (.pt 0 0)] [xb (rC b0 (ds.map DP.r) e1),XY (.arr e1 36 (rowsOf ds))] (cG ds) fun res H l=>
 ∃ds':List DP,ds'.map DP.p=r∧res=bJ []∧H=[xb (NG b0 (ds'.map DP.r)),XY (.arr e1 36 (rowsOf ds)),XY (.arr 0 36 (rowsOf ds'))]∧l=cG ds':=by
 refine iJ a45_ok (by simp[a45]) fun B=>?_
 refine VE.dV (F45a_ok (e1:=e1) (b0:=b0) (pods:=ds.map DP.r) rfl) (fun s hs=>?_) xN gr
 subst hs
 refine VE.seq (VE.dV (F45b_ok (e1:=e1) (b0:=b0) (pods:=ds.map DP.r) rfl) (fun s hs=>?_) xN gr)
 subst hs
 refine VE.tell (Te.Nw (p:=0) (j:=25) rfl rfl) ?_
 rintro _ _ ⟨u,rfl,rfl⟩
 obtain⟨_,hk,hl⟩:=bi (h u)
 have hk:(ds.map DP.p).length≤4294967290:=cr hk
 rw[XF]at hk
 refine VE.tell (Te.view (s':=aH e1 (fB b0 u) (ds.map DP.r) [] 0) (eV [XY 0,XY 1,XZ] (by simp only[ZZ.down,XS,reduceCtorEq,XV,XR,XW,XU,EE.down,aH,fB,cH,XD,XC,XL]) (by simp only[ZZ.down,XS,reduceCtorEq,XV,XR,XW,XU,EE.down,aH,fB,cH,XD,XC,XL]) (by simp only[ZZ.down,XS,reduceCtorEq,XV,XR,XW,XU,EE.down,aH,fB,cH,XD,XC,XL,XO]))) ?_
 rintro _ _ ⟨rfl,rfl⟩
 refine VE.block (VE.loop (fun k s l=>∃(os rest:List DP) (i:Nat) (r':List af),ds.length=i+rest.length∧ds.drop i=rest∧k=rest.length∧s=aH e1 (fB b0 u) (ds.map DP.r) (os.map DP.r) i∧l=cG (os++rest)∧je (fB b0 u) (rest.map DP.p)=XY r'∧os.map DP.p++r'=r∧os.length≤i)
  ⟨ds.length,[],ds,0,r,by simp,rfl,rfl,rfl,rfl,hl,rfl,XX _⟩ ?_)
 rintro k _ _ ⟨os,rest,i,r',h1,h2,rfl,rfl,rfl,h6,h7,h8⟩
 refine VE.dV (F45h_ok (e1:=e1) (b0:=fB b0 u) (pods:=ds.map DP.r) (ls:=os.map DP.r) (i:=i) rfl) (fun s hs=>?_) xN gr
 subst hs
 refine VE.seq (VE.cond (t:=decide ((i:Int)<((ds.map DP.r).length:Int))) rfl (fun ht=>?_) fun ht=>?_)
 ·have ht:=of_decide_eq_true ht
  rw[XF]at ht
  cases rest with
  |nil=>simp only[XO]at h1;omega
  |cons d rest=>
   refine VE.skip ?_
   refine VE.tell (Te.view (s':=aH e1 (fB b0 u) (ds.map DP.r) (os.map DP.r) i) (eV i3)) ?_
   rintro _ _ ⟨rfl,rfl⟩
   refine VE.seq (VE.block ?_)
   have hd:ds=ds.take i++d::rest:=by rw[←h2,List.take_append_drop]
   have hrow:cI (ds.map DP.r) (i:Int)=XY d.r:=by
    rw[hd,XK,XH]
    exact nL (by rw[XF,List.length_take];omega)
   refine VE.dV (F45c_ok (e1:=e1) (b0:=fB b0 u) (pods:=ds.map DP.r) (ls:=os.map DP.r) (i:=i) (r:=d.r) (by simp only[F45c,hrow,X0])) (fun s hs=>?_) xN gr
   rw[fS]
   refine VE.tell (J:=fun s' l'=>s'=aX e1 (fB b0 u) (ds.map DP.r) (os.map DP.r) i d.p∧l'=cG os++XZ::XZ::XZ::cG rest) (by subst hs;exact Q9) ?_
   rintro _ _ ⟨rfl,rfl⟩
   refine VE.dV (F45d_ok (e1:=e1) (b0:=fB b0 u) (pods:=ds.map DP.r) (ls:=os.map DP.r) (i:=i) (x:=d.p) rfl) (fun s hs=>?_) xN gr
   subst hs
   obtain⟨o,ho,h6⟩:=bi h6
   obtain⟨r2,hr2,h6⟩:=bi h6
   cases h6
   obtain⟨o1,ho1,ho⟩:=bi ho
   have back:∀(os':List DP),os'.length≤i+1→os'.map DP.p++r2=r→Te 73 2 B (tG (fun s' l'=>∃k',k'<(d::rest).length∧∃(os rest:List DP) (i:Nat) (r':List af),ds.length=i+rest.length∧ds.drop i=rest∧k'=rest.length∧s'=aH e1 (fB b0 u) (ds.map DP.r) (os.map DP.r) i∧l'=cG (os++rest)∧je (fB b0 u) (rest.map DP.p)=XY r'∧os.map DP.p++r'=r∧os.length≤i) (qv 0 (tG (fun s l=>VE X2 73 2 B E7 (zr [] fun res H l=>∃ds':List DP,ds'.map DP.p=r∧res=bJ []∧H=[xb (NG b0 (ds'.map DP.r)),XY (.arr e1 36 (rowsOf ds)),XY (.arr 0 36 (rowsOf ds'))]∧l=cG ds') s l) (zr [] fun res H l=>∃ds':List DP,ds'.map DP.p=r∧res=bJ []∧H=[xb (NG b0 (ds'.map DP.r)),XY (.arr e1 36 (rowsOf ds)),XY (.arr 0 36 (rowsOf ds'))]∧l=cG ds'))) .normal) (aH e1 (fB b0 u) (ds.map DP.r) (os'.map DP.r) (IntKind.i64.wrap ((i:Int)+1))) (cG (os'++rest)):=by
    intro os' q1 q2
    rw[kA (by omega)]
    refine Te.refl ⟨rest.length,by simp,os',rest,i+1,r2,by simp only[XJ]at h1;omega,?_,rfl,rfl,rfl,hr2,q2,q1⟩
    rw[←List.drop_drop,h2];rfl
   refine VE.dV (F45e_ok (e1:=e1) (b0:=fB b0 u) (pods:=ds.map DP.r) (ls:=os.map DP.r) (i:=i) (x:=d.p) (r:=o1) ho1) ?_ ?_ gr
   ·rintro s ⟨q,rfl,hs⟩
    cases ho
    refine VE.tell (J:=fun s' l'=>∃v1 v2 v3,s'=Oj e1 (fB b0 u) (ds.map DP.r) (os.map DP.r) i (oV ⟨⟨d.p.an.ak,d.p.an.Spec,⟨q.1,q.2.1,q.2.2.1,d.p.an.ae.Started,q.2.2.2.1,q.2.2.2.2.1,d.p.an.ae.bS,d.p.an.ae.bg,d.p.an.ae.b7⟩⟩,q.2.2.2.2.2.1,q.2.2.2.2.2.2,d.p.bh,d.p.bK⟩ v1 v2 v3)∧l'=cG os++NY ⟨⟨d.p.an.ak,d.p.an.Spec,⟨q.1,q.2.1,q.2.2.1,d.p.an.ae.Started,q.2.2.2.1,q.2.2.2.2.1,d.p.an.ae.bS,d.p.an.ae.bg,d.p.an.ae.b7⟩⟩,q.2.2.2.2.2.1,q.2.2.2.2.2.2,d.p.bh,d.p.bK⟩ v1::NX ⟨⟨d.p.an.ak,d.p.an.Spec,⟨q.1,q.2.1,q.2.2.1,d.p.an.ae.Started,q.2.2.2.1,q.2.2.2.2.1,d.p.an.ae.bS,d.p.an.ae.bg,d.p.an.ae.b7⟩⟩,q.2.2.2.2.2.1,q.2.2.2.2.2.2,d.p.bh,d.p.bK⟩ v2::NW ⟨⟨d.p.an.ak,d.p.an.Spec,⟨q.1,q.2.1,q.2.2.1,d.p.an.ae.Started,q.2.2.2.1,q.2.2.2.2.1,d.p.an.ae.bS,d.p.an.ae.bg,d.p.an.ae.b7⟩⟩,q.2.2.2.2.2.1,q.2.2.2.2.2.2,d.p.bh,d.p.bK⟩ v3::cG rest) (by subst hs;exact Q7) ?_
    rintro _ _ ⟨v1,v2,v3,rfl,rfl⟩
    have hap:jz (os.map DP.r) [oV ⟨⟨d.p.an.ak,d.p.an.Spec,⟨q.1,q.2.1,q.2.2.1,d.p.an.ae.Started,q.2.2.2.1,q.2.2.2.2.1,d.p.an.ae.bS,d.p.an.ae.bg,d.p.an.ae.b7⟩⟩,q.2.2.2.2.2.1,q.2.2.2.2.2.2,d.p.bh,d.p.bK⟩ v1 v2 v3]=XY (os.map DP.r++[oV ⟨⟨d.p.an.ak,d.p.an.Spec,⟨q.1,q.2.1,q.2.2.1,d.p.an.ae.Started,q.2.2.2.1,q.2.2.2.2.1,d.p.an.ae.bS,d.p.an.ae.bg,d.p.an.ae.b7⟩⟩,q.2.2.2.2.2.1,q.2.2.2.2.2.2,d.p.bh,d.p.bK⟩ v1 v2 v3]):=by
     unfold jz;rw[if_pos];simp;omega
    refine VE.pc (F45f_ok (e1:=e1) (b0:=fB b0 u) (pods:=ds.map DP.r) (ls:=os.map DP.r) (i:=i) (by unfold F45f;exact(congrArg (X1 · _) hap).trans rfl)) (fun s hs=>Te.refl ?_) xN gr
    subst hs
    refine VE.pc (F45g_ok (e1:=e1) (b0:=fB b0 u) (pods:=ds.map DP.r) (i:=i) rfl) (fun s hs=>?_) xN gr
    subst hs
    have:=back (os++[⟨⟨⟨d.p.an.ak,d.p.an.Spec,⟨q.1,q.2.1,q.2.2.1,d.p.an.ae.Started,q.2.2.2.1,q.2.2.2.2.1,d.p.an.ae.bS,d.p.an.ae.bg,d.p.an.ae.b7⟩⟩,q.2.2.2.2.2.1,q.2.2.2.2.2.2,d.p.bh,d.p.bK⟩,v1,v2,v3⟩]) (by simp;omega) (by rw[←h7];simp)
    rw[XK,XQ,XP,fS]at this
    exact this
   ·rintro i' s ⟨rfl,q,rfl,rfl⟩
    cases ho
    refine(Te.N1 (cG os) (cG rest)).trans ?_
    rintro _ _ ⟨rfl,rfl⟩
    refine Te.refl (jx ?_)
    refine VE.pc (F45g_ok (e1:=e1) (b0:=fB b0 u) (pods:=ds.map DP.r) (ls:=os.map DP.r) (i:=i) rfl) (fun s hs=>?_) xN gr
    subst hs
    have:=back os (by omega) (by rw[←h7];rfl)
    rw[kG]at this
    exact this
 ·have ht:=of_decide_eq_false ht
  rw[XF]at ht
  have hr0:rest=[]:=XN.1 (by omega)
  subst hr0
  cases h6
  refine VE.exit (iw (iw (jx ?_)))
  refine VE.tell (Te.view (s':=⟨[(0,Pz 0),(2,oc (.own 2 0 0 (os.map DP.r).length XZ))],(aH e1 (fB b0 u) (ds.map DP.r) (os.map DP.r) i).heap⟩) (eV i3)) ?_
  rintro _ _ ⟨rfl,rfl⟩
  refine VE.pc (F45z_ok (e1:=e1) (b0:=fB b0 u) (pods:=ds.map DP.r) (ls:=os.map DP.r) rfl) (fun s hs=>Te.refl ?_) xN gr
  subst hs
  exact⟨os,by rw[←h7,XG],rfl,rfl,by rw[XG]⟩
def JK:AC:=(.reg [Qa 9 0,
Qb 10 2 3,
Qd 11 10,
Ql 12 39 9 11,
Qa 8 12,
Qo 13 8 0,
Qo 14 8 1,
Qa 4 13,
Qa 5 14])
def F41b(e1:Nat)(b0:aj)(pods:List au)(v:aN):Option (Int×Bool):=(F39 v.aV ((⟨(⟨b0.ah.Node,b0.ah.cl,pods,b0.ah.aM,b0.ah.bW,b0.ah.bO,b0.ah.b8⟩:jn)⟩:gM))).bind fun t1=>XY ((t1.1,t1.2))
theorem F41b_ok{e1 b0 pods v r}(h:F41b e1 b0 pods v=XY r):sK X2 83 2 JK [] (sM 83 2 (fun s=>s=⟨[(0,Pz 0),(3,Pz 2),(4,oI r.1),(5,oB r.2)],[xb (aA b0 (ow 1 e1 pods)),ai e1 pods,xb (aZ v)]⟩) (xQ 83 2 (fun _ _=>False) (fun _=>False)))
 ⟨[(0,Pz 0),(3,Pz 2)],[xb (aA b0 (ow 1 e1 pods)),ai e1 pods,xb (aZ v)]⟩:=by
 rw[F41b]at h
 unfold JK
 refine ww ?_
 obtain⟨t1,ht1,h⟩:=bi h
 refine cN [0,1] (F39_ok (e1:=e1) ht1) ⟨⟨(by first|rfl|(simp only[XI];rfl)),by simp[bw.live,C.live,hp]⟩,⟨⟨rfl,trivial⟩,trivial⟩⟩ ?_
 refine ww ?_
 cases h
 exact eM i3 rfl
abbrev QY(e1:Nat)(b0:aj)(pods:List au)(v:aN)(k:Int)(j:Int):St:=⟨[(0,Pz 0),(3,Pz 2),(6,oc (.pe 1 e1 k.toNat 0)),(7,oI j)],[xb (aA b0 (.own 1 e1 0 (pods.length) XZ)),XY (.arr e1 36 (pods.map aS)),xb (aZ v)]⟩
abbrev PW(e1:Nat)(b0:aj)(dd:List au)(v:aN)(j:Int)(x:af):St:=⟨[(0,Pz 0),(3,Pz 2),(6,Pz 3),(7,oI j)],[xb (cj b0),XY (.arr e1 36 (dd.map aS)),xb (aZ v),xb (bj x (.own 4 0 0 (x.an.ae.ad.length) XZ) (.own 5 0 0 (x.aK.length) XZ) (.own 6 0 0 (x.aq.length) XZ)),XY (.arr 0 7 (x.an.ae.ad.map aC)),XY (.arr 0 4 (x.aK.map cu)),XY (.arr 0 2 (x.aq.map fm))]⟩
abbrev QX(e1:Nat)(b0:aj)(dd:List au)(v:aN)(x:af):St:=⟨[(0,Pz 0)],[xb (cj b0),XY (.arr e1 36 (dd.map aS)),xb (aZ v),xb (bj x (.own 4 0 0 (x.an.ae.ad.length) XZ) (.own 5 0 0 (x.aK.length) XZ) (.own 6 0 0 (x.aq.length) XZ)),XY (.arr 0 7 (x.an.ae.ad.map aC)),XY (.arr 0 4 (x.aK.map cu)),XY (.arr 0 2 (x.aq.map fm))]⟩
def a41:dG:=⟨83,[],.seq JL (.seq JK (.seq JJ (.seq JI (.seq JH wI))))⟩
theorem a41_ok:nv X2 41=XY a41.er:=by kernel_rfl
def nu(x:af)(n:ByteArray):Option Int:=F78 (oV x (.bool X5) (.bool X5) (.bool X5)) n
def KT(x:af)(q:List ag×List aF×List cp):af:=⟨⟨x.an.ak,x.an.Spec,⟨x.an.ae.bC,x.an.ae.bd,x.an.ae.bf,x.an.ae.Started,x.an.ae.bu,q.1,x.an.ae.bS,x.an.ae.bg,x.an.ae.b7⟩⟩,q.2.1,q.2.2,x.bh,x.bK⟩
def Bi(b:aj)(ps:List af)(key:ByteArray)(k:Int)(ok:Bool):Prop:=∀es:List DP,es.map DP.p=ps→F39 key (mR b (es.map DP.r))=XY (k,ok)
def atR(b:aj)(ps:List af)(v:aN)(r:List af):Prop:=
 ∃k ok,Bi b ps v.aV k ok∧(ok=X6∧r=ps∨ok=X5∧∃x f,cI ps k=XY x∧F62 x=XY f∧(f=X5∧r=ps∨f=X6∧∃j q,nu x v.aP=XY j∧(∀u,F30041f 0 (fB b u) [] v j x=XY q)∧r=ps.set k.toNat (KT x q)))
theorem F41_ok{b0:aj}{ds:List DP}{v:aN}{r:List af}{e1:Nat}(h:atR b0 (ds.map DP.p) v r):jI X2 41 [.c (.pt 0 0),.agg ((bN v).map C.d)] [xb (rC b0 (ds.map DP.r) e1),XY (.arr e1 36 (rowsOf ds))] (cG ds) (NH b0 r rC):=by
 refine iJ a41_ok (by simp[a41]) fun B=>?_
 have fin:∀(ds':List DP) (e':Nat) (sl:List (Nat×AV)) (eb:Option bw),ds'.map DP.p=r→lk sl 0=XY (Pz 0)→Te 83 2 B (zr [] (NH b0 r rC) .normal) ⟨sl,[xb (rC b0 (ds'.map DP.r) e'),XY (.arr e' 36 (rowsOf ds')),eb]⟩ (cG ds'):=by
  intro ds' e' sl eb hr hsl
  refine(Te.to 2 ⟨[(0,Pz 0)],[xb (rC b0 (ds'.map DP.r) e'),XY (.arr e' 36 (rowsOf ds'))]⟩ ⟨hsl,trivial⟩ rfl rfl rfl rfl).trans ?_
  rintro _ _ ⟨rfl,rfl⟩
  exact Te.refl ⟨ds',e',hr,rfl,rfl,rfl⟩
 refine VE.dV (F41a_ok (e1:=e1) (b0:=b0) (pods:=ds.map DP.r) (v:=v) rfl) (fun s hs=>?_) xN gr
 subst hs
 obtain⟨k,ok,hf,h⟩:=h
 refine VE.dV (F41b_ok (e1:=e1) (b0:=b0) (pods:=ds.map DP.r) (v:=v) (r:=(k,ok)) ((congrArg (X1 · _) (hf ds rfl)).trans rfl)) (fun s hs=>?_) xN gr
 subst hs
 rcases h with⟨rfl,rfl⟩|⟨rfl,x,f,hx,hfx,h⟩
 ·refine VE.dV (F41c_ok (e1:=e1) (b0:=b0) (pods:=ds.map DP.r) (v:=v) (k:=k) (ok:=X6) (r:= .inl ()) rfl) (fun s hs=>?_) xN (fun s hs=>?_)
  ·obtain⟨o,ho,_⟩:=hs;cases ho
  ·obtain⟨o,_,rfl⟩:=hs
   exact Te.refl ⟨ds,e1,rfl,rfl,rfl,rfl⟩
 ·obtain⟨A,d,C,rfl,hA,rfl,hrow,hk0⟩:=yI hx
  have hcF:∀o,o=(if f=X5 then X4 ()else X3 ())→F41c e1 b0 ((A++d::C).map DP.r) v k X5=XY o:=by
   rintro _ rfl
   simp only[F41c,nb,hrow,X0]
   refine(congrArg (X1 · _) (show _=XY f from ?_)).trans ?_
   ·exact(congrArg (X1 · _) (show F10062 d.r=XY f from hfx)).trans rfl
   ·cases f<;>rfl
  refine VE.dV (F41c_ok (e1:=e1) (b0:=b0) (pods:=(A++d::C).map DP.r) (v:=v) (k:=k) (ok:=X5) (hcF _ rfl)) (fun s hs=>?_) xN (fun s hs=>?_)
  ·obtain⟨o,ho,rfl⟩:=hs
   rcases h with⟨rfl,rfl⟩|⟨rfl,j,q,hj,hq,rfl⟩
   ·cases ho
   ·refine VE.dV (F41d_ok (e1:=e1) (b0:=b0) (pods:=(A++d::C).map DP.r) (v:=v) (k:=k) (r:=()) (by simp only[F41d,hrow,X0])) (fun s hs=>?_) xN gr
    subst hs
    refine VE.dV (F41e_ok (e1:=e1) (b0:=b0) (pods:=(A++d::C).map DP.r) (v:=v) (k:=k) (r:=j) (by
     simp only[F41e,hrow,X0]
     exact(congrArg (X1 · _) (show F78 _ _=XY j from hj)).trans rfl)) (fun s hs=>?_) xN gr
    subst hs
    rw[fS]
    refine VE.post (R':=fun e s' l'=>e= .normal∧∃(ds':List DP) (e':Nat) (sl:List (Nat×AV)) (eb:Option bw),ds'.map DP.p=(List.map DP.p (A++d::C)).set k.toNat (KT d.p q)∧lk sl 0=XY (Pz 0)∧s'=⟨sl,[xb (rC b0 (ds'.map DP.r) e'),XY (.arr e' 36 (rowsOf ds')),eb]⟩∧l'=cG ds') ?_ ?_
    ·refine VE.M6 (t:=6) (gf:=0) (q:=1) (e:=e1) (jm:=25) (N:=3) (k:=k.toNat) (x:=d.p) (u1:=d.u1) (u2:=d.u2) (u3:=d.u3) (A:=cG A) (D:=cG C) rfl rfl rfl rfl rfl (sJ A C d hA) rfl fun um B'=>?_
     refine VE.tell (Te.to 7 (PW (e1+1) (fB b0 um) [] v j d.p) ⟨rfl,rfl,rfl,rfl,trivial⟩ rfl rfl rfl rfl) ?_
     rintro _ _ ⟨rfl,rfl⟩
     refine VE.pc (F30041f_ok (e1:=e1+1) (b0:=fB b0 um) (dd:=[]) (v:=v) (j:=j) (x:=d.p) (r:=q) (hq um)) (fun s hs=>?_) xN gr
     subst hs
     refine Te.refl ⟨KT d.p q,[xb ((fx (fB b0 um)).map Fw.C.d),XY (.arr (e1+1) 36 []),xb ((bN v).map Fw.C.d)],(fx (fB b0 um)).map Fw.C.d,[(0,Pz 0)],rfl,rfl,rfl,rfl,rfl,⟨rfl,trivial⟩,rfl,rfl,rfl,fun v1 v2 v3=>⟨rfl,A++⟨KT d.p q,v1,v2,v3⟩::C,e1+2,[(0,Pz 0)],xb ((bN v).map Fw.C.d),?_,rfl,?_,(fS A C ⟨KT d.p q,v1,v2,v3⟩).symm⟩⟩
     ·rw[XK,XH,XK,XH,uV _ _ _ _ (by rw[XF,hA])]
     ·unfold rC;rw[←yY A C d ⟨KT d.p q,v1,v2,v3⟩,←pU A C d ⟨KT d.p q,v1,v2,v3⟩ hA];rfl
    ·rintro e s' l' ⟨rfl,ds',e',sl,eb,g1,g2,rfl,rfl⟩
     exact fin ds' e' sl eb g1 g2
  ·obtain⟨o,ho,rfl⟩:=hs
   rcases h with⟨rfl,rfl⟩|⟨rfl,_⟩
   ·exact Te.refl ⟨A++d::C,e1,rfl,rfl,rfl,rfl⟩
   ·cases ho
abbrev Fq(e1:Nat)(b0:aj)(pods:List au)(n:Int)(i:Int):St:=⟨[(0,Pz 0),(11,oI n),(12,oI i)],[xb (aA b0 (.own 1 e1 0 (pods.length) XZ)),XY (.arr e1 36 (pods.map aS))]⟩
abbrev QW(e1:Nat)(b0:aj)(pods:List au)(n:Int)(i:Int):St:=⟨[(0,Pz 0),(3,oc (.pe 1 e1 i.toNat 0)),(11,oI n),(12,oI i)],[xb (aA b0 (.own 1 e1 0 (pods.length) XZ)),XY (.arr e1 36 (pods.map aS))]⟩
abbrev PU(e1:Nat)(b0:aj)(dd:List au)(n:Int)(i:Int)(x:af):St:=⟨[(0,Pz 0),(3,Pz 2),(11,oI n),(12,oI i)],[xb (cj b0),XY (.arr e1 36 (dd.map aS)),xb (bj x (.own 3 0 0 (x.an.ae.ad.length) XZ) (.own 4 0 0 (x.aK.length) XZ) (.own 5 0 0 (x.aq.length) XZ)),XY (.arr 0 7 (x.an.ae.ad.map aC)),XY (.arr 0 4 (x.aK.map cu)),XY (.arr 0 2 (x.aq.map fm))]⟩
abbrev QV(e1:Nat)(b0:aj)(dd:List au)(n:Int)(i:Int)(x:af):St:=⟨[(0,Pz 0),(11,oI n),(12,oI i)],[xb (cj b0),XY (.arr e1 36 (dd.map aS)),xb (bj x (.own 3 0 0 (x.an.ae.ad.length) XZ) (.own 4 0 0 (x.aK.length) XZ) (.own 5 0 0 (x.aq.length) XZ)),XY (.arr 0 7 (x.an.ae.ad.map aC)),XY (.arr 0 4 (x.aK.map cu)),XY (.arr 0 2 (x.aq.map fm))]⟩
def QG:AC:= .seq Jr (.seq (.cond (.t 13) .skip (.exit 0)) (.seq (.block 1 (.seq Ju (.seq Jt wG))) Js))
def a44:dG:=⟨43,[],.seq Jv (.block 0 (.loop QG))⟩
theorem a44_ok:nv X2 44=XY a44.er:=by kernel_rfl
def Gs(x:af)(q:List aF):af:=⟨x.an,q,x.aq,x.bh,x.bK⟩
def ng(b:aj):List af→List af→Prop
 |[],r=>r=[]
 |x::l,r=>∃q r',(∀u,F30044f 0 (fB b u) [] 0 0 x=XY q)∧ng b l r'∧r=Gs x q::r'
theorem F44_ok{b0:aj}{ds:List DP}{r:List af}{e1:Nat}(hk:ds.length≤4294967290)(h:ng b0 (ds.map DP.p) r):jI X2 44 [.c (.pt 0 0)] [xb (rC b0 (ds.map DP.r) e1),XY (.arr e1 36 (rowsOf ds))] (cG ds) (NH b0 r rC):=by
 refine iJ a44_ok (by simp[a44]) fun B=>?_
 refine VE.dV (F44a_ok (e1:=e1) (b0:=b0) (pods:=ds.map DP.r) rfl) (fun s hs=>?_) xN gr
 subst hs
 refine VE.block (VE.loop (fun j s l=>∃(os rest:List DP) (e:Nat) (r':List af),ds.length=os.length+rest.length∧j=rest.length∧s=Fq e b0 ((os++rest).map DP.r) (ds.length:Nat) (os.length:Nat)∧l=cG (os++rest)∧ng b0 (rest.map DP.p) r'∧os.map DP.p++r'=r)
  ⟨ds.length,[],ds,e1,r,by simp,rfl,by simp[Fq,rowsOf],rfl,h,rfl⟩ ?_)
 rintro j _ _ ⟨os,rest,e,r',h1,rfl,rfl,rfl,h4,h5⟩
 refine VE.dV (F44h_ok (e1:=e) (b0:=b0) (pods:=(os++rest).map DP.r) (n:=(ds.length:Nat)) (i:=(os.length:Nat)) rfl) (fun s hs=>?_) xN gr
 subst hs
 refine VE.seq (VE.cond (t:=decide ((os.length:Int)<(ds.length:Int))) rfl (fun ht=>?_) fun ht=>?_)
 ·have ht:=of_decide_eq_true ht
  cases rest with
  |nil=>simp only[XO]at h1;omega
  |cons d rest=>
   refine VE.skip ?_
   refine VE.tell (Te.to 2 (Fq e b0 ((os++d::rest).map DP.r) (ds.length:Nat) (os.length:Nat)) ⟨rfl,rfl,rfl,trivial⟩ rfl rfl rfl rfl) ?_
   rintro _ _ ⟨rfl,rfl⟩
   have hrow:cI ((os++d::rest).map DP.r) ((os.length:Nat):Int)=XY d.r:=by
    rw[XK,XH]
    exact nL (by simp)
   obtain⟨q,r2,hq,h4,rfl⟩:=h4
   refine VE.seq (VE.block ?_)
   refine VE.dV (F44b_ok (e1:=e) (b0:=b0) (pods:=(os++d::rest).map DP.r) (n:=(ds.length:Nat)) (i:=(os.length:Nat)) rfl) (fun s hs=>?_) xN gr
   subst hs
   refine VE.dV (F44c_ok (e1:=e) (b0:=b0) (pods:=(os++d::rest).map DP.r) (n:=(ds.length:Nat)) (i:=(os.length:Nat)) (r:=()) (by simp only[F44c,hrow,X0])) (fun s hs=>?_) xN gr
   subst hs
   rw[fS]
   refine VE.post (R':=fun ex s' l'=>ex= .normal∧∃v1 v2 v3,s'=Fq (e+2) b0 ((os++⟨Gs d.p q,v1,v2,v3⟩::rest).map DP.r) (ds.length:Nat) (os.length:Nat)∧l'=cG (os++⟨Gs d.p q,v1,v2,v3⟩::rest)) ?_ ?_
   ·refine VE.M6 (t:=3) (gf:=0) (q:=1) (e:=e) (jm:=25) (N:=2) (k:=os.length) (x:=d.p) (u1:=d.u1) (u2:=d.u2) (u3:=d.u3) (A:=cG os) (D:=cG rest) rfl rfl rfl rfl rfl (sJ os rest d rfl) rfl fun um B'=>?_
    refine VE.tell (Te.to 6 (PU (e+1) (fB b0 um) [] (ds.length:Nat) (os.length:Nat) d.p) ⟨rfl,rfl,rfl,rfl,trivial⟩ rfl rfl rfl rfl) ?_
    rintro _ _ ⟨rfl,rfl⟩
    refine VE.pc (F30044f_ok (e1:=e+1) (b0:=fB b0 um) (dd:=[]) (n:=(ds.length:Nat)) (i:=(os.length:Nat)) (x:=d.p) (r:=q) (hq um)) (fun s hs=>?_) xN gr
    subst hs
    refine Te.refl ⟨Gs d.p q,[xb ((fx (fB b0 um)).map Fw.C.d),XY (.arr (e+1) 36 [])],(fx (fB b0 um)).map Fw.C.d,(Fq e b0 [] (ds.length:Nat) (os.length:Nat)).aO,rfl,rfl,rfl,rfl,rfl,⟨rfl,rfl,rfl,trivial⟩,rfl,rfl,rfl,fun v1 v2 v3=>⟨rfl,v1,v2,v3,?_,(fS os rest ⟨Gs d.p q,v1,v2,v3⟩).symm⟩⟩
    have hr:=pU os rest d ⟨Gs d.p q,v1,v2,v3⟩ rfl
    unfold rowsOf at hr
    unfold Fq;rw[←yY os rest d ⟨Gs d.p q,v1,v2,v3⟩,←hr];rfl
   ·rintro ex s' l' ⟨rfl,v1,v2,v3,rfl,rfl⟩
    refine Te.refl (VE.pc (F44g_ok (e1:=e+2) (b0:=b0) (pods:=(os++⟨Gs d.p q,v1,v2,v3⟩::rest).map DP.r) (n:=(ds.length:Nat)) (i:=(os.length:Nat)) rfl) (fun s hs=>?_) xN gr)
    subst hs
    simp only[XJ]at h1
    rw[kA (by omega)]
    refine Te.refl ⟨rest.length,by simp,os++[⟨Gs d.p q,v1,v2,v3⟩],rest,e+2,r2,by simp;omega,rfl,?_,?_,h4,by simpa using h5⟩
    ·rw[XQ,XP,XM];rfl
    ·rw[XQ,XP]
 ·have ht:=of_decide_eq_false ht
  have hr0:rest=[]:=XN.1 (by omega)
  subst hr0
  cases h4
  refine VE.exit (iw (iw (jx ?_)))
  exact⟨os,e,by rw[←h5,XG],rfl,by rw[XG];rfl,by rw[XG]⟩
def wE:AC:=(.reg [Qa 12 0,
Qk 13 117 12,
Qa 11 13,
Qo 14 11 0,
Qo 15 11 1,
sq 7 (.zbox [dI 0,dI 0,dI 0]),
Qa 6 14,
su (.store 3 (.t 7) (.t 15))])
def F30075b(e1:Nat)(b0:aj)(pods:List au)(i:Int)(v:an):Option (Int×aD):=(F117 ((⟨(⟨b0.ah.Node,b0.ah.cl,pods,b0.ah.aM,b0.ah.bW,b0.ah.bO,b0.ah.b8⟩:jn)⟩:gM))).bind fun t1=>XY ((t1.1,t1.2))
theorem F30075b_ok{e1 b0 pods i v r}(h:F30075b e1 b0 pods i v=XY r):sK X2 128 2 wE [] (sM 128 2 (fun s=>s=⟨[(0,Pz 0),(1,oI i),(5,Pz 2),(6,oI r.1),(7,Pz 3)],[xb (aA b0 (ow 1 e1 pods)),ai e1 pods,xb (jD v),xb (b6 (r.2))]⟩) (xQ 128 2 (fun _ _=>False) (fun _=>False)))
 ⟨[(0,Pz 0),(1,oI i),(5,Pz 2)],[xb (aA b0 (ow 1 e1 pods)),ai e1 pods,xb (jD v)]⟩:=by
 rw[F30075b]at h
 unfold wE
 refine ww ?_
 obtain⟨t1,ht1,h⟩:=bi h
 refine cN [0,1] (F117_ok (e1:=e1) ht1) ⟨⟨(by first|rfl|(simp only[XI];rfl)),by simp[bw.live,C.live,hp]⟩,⟨⟨rfl,trivial⟩,trivial⟩⟩ ?_
 refine ww ?_
 cases h
 exact eM i4 rfl
def a75:dG:=⟨128,[],.seq wF (.seq wE (.seq wD (.seq wC (.seq wB I2))))⟩
theorem a75_ok:nv X2 75=XY a75.er:=by kernel_rfl
def yu(b:aj)(m:Int):aj:=⟨⟨b.ah.Node,b.ah.cl,b.ah.bq,b.ah.aM,b.ah.bW,b.ah.bO,m⟩⟩
abbrev QI:=Int×Int×Int×List ag×Int×ByteArray×List aF×List cp
def r7(b:aj)(v:an)(t:QI):af:=⟨⟨v.ak,v.Spec,⟨t.2.1,X6,0,b.ah.cl,t.2.2.1,t.2.2.2.1,t.2.2.2.2.1,⟨#[]⟩,t.2.2.2.2.2.1⟩⟩,t.2.2.2.2.2.2.1,t.2.2.2.2.2.2.2,X6,0⟩
def Pm(b:aj)(ps:List af)(i:Int)(v:an)(b':aj)(r:List af):Prop:=
 ∃n su t,(∀es:List DP,es.map DP.p=ps→F117 (mR b (es.map DP.r))=XY (n,su))∧F30075e 0 b [] i v n su=XY t∧b'=yu b t.1∧lL ps i (r7 b v t)=XY r
theorem F75_ok{b0 b':aj}{ds:List DP}{v:an}{i:Int}{r:List af}{e1:Nat}(h:Pm b0 (ds.map DP.p) i v b' r):jI X2 75 [.c (.pt 0 0),.c (dI i),.agg ((wu v).map C.d)] [xb (rC b0 (ds.map DP.r) e1),XY (.arr e1 36 (rowsOf ds))] (cG ds) (NH b' r rC):=by
 refine iJ a75_ok (by simp[a75]) fun B=>?_
 obtain⟨n,su,t,h1,h2,rfl,h3⟩:=h
 refine VE.dV (F30075a_ok (e1:=e1) (b0:=b0) (pods:=ds.map DP.r) (i:=i) (v:=v) rfl) (fun s hs=>?_) xN gr
 subst hs
 refine VE.dV (F30075b_ok (e1:=e1) (b0:=b0) (pods:=ds.map DP.r) (i:=i) (v:=v) (r:=(n,su)) ((congrArg (X1 · _) (h1 ds rfl)).trans rfl)) (fun s hs=>?_) xN gr
 subst hs
 refine VE.dV (F30075c_ok (e1:=e1) (b0:=b0) (pods:=ds.map DP.r) (i:=i) (v:=v) (n:=n) (su:=su) rfl) (fun s hs=>?_) xN gr
 subst hs
 refine VE.dV (F30075d_ok (e1:=e1) (b0:=b0) (pods:=ds.map DP.r) (i:=i) (v:=v) (n:=n) (su:=su) rfl) (fun s hs=>?_) xN gr
 subst hs
 refine VE.dV (F30075e_ok (e1:=e1) (b0:=b0) (pods:=ds.map DP.r) (i:=i) (v:=v) (n:=n) (su:=su) (r:=t) h2) (fun s hs=>?_) xN gr
 subst hs
 obtain⟨A,C,rfl,rfl,hi⟩:=Ip h3
 rw[kG]
 refine VE.tell (Te.QO (cG A) (cG C)) ?_
 rintro _ _ ⟨rfl,rfl⟩
 refine VE.tell (Te.to 6 ⟨[(0,Pz 0),(1,oI i),(8,Pz 2)],[xb (rC (yu b0 t.1) ((A++C).map DP.r) e1),XY (.arr e1 36 (rowsOf (A++C)))]++xb (CN (r7 b0 v t) (2+1) (2+2) (2+3))::wK (r7 b0 v t)⟩ ⟨rfl,rfl,rfl,trivial⟩ rfl rfl rfl rfl) ?_
 rintro _ _ ⟨rfl,rfl⟩
 refine VE.tell (Te.wi (N:=2) _ rfl) ?_
 rintro _ _ ⟨v1,v2,v3,rfl,rfl⟩
 refine VE.tell (Te.to 3 ⟨[(0,Pz 0),(1,oI i),(8,Pz 2)],[xb (rC (yu b0 t.1) ((A++C).map DP.r) e1),XY (.arr e1 36 (rowsOf (A++C))),xb (ny (r7 b0 v t) v1 v2 v3)]⟩ ⟨rfl,rfl,rfl,trivial⟩ rfl rfl rfl rfl) ?_
 rintro _ _ ⟨rfl,rfl⟩
 refine VE.pc (F75f_ok (e1:=e1) (b0:=yu b0 t.1) (pods:=(A++C).map DP.r) (i:=i) (y:=oV (r7 b0 v t) v1 v2 v3) (r:=(A++⟨r7 b0 v t,v1,v2,v3⟩::C).map DP.r) ((congrArg (X1 · _) (hi ⟨r7 b0 v t,v1,v2,v3⟩)).trans rfl)) (fun s hs=>?_) xN gr
 subst hs
 exact Te.refl ⟨A++⟨r7 b0 v t,v1,v2,v3⟩::C,e1+1,by simp,rfl,rfl,(fS A C ⟨r7 b0 v t,v1,v2,v3⟩).symm⟩
def Mj:cq:=Qc 33 36 32
def Mi:cq:=⟨XZ,XZ,.store 36 (.t 57) (.t 56),[0,1,2,3,4,5,6,7],(.lone [])⟩
abbrev uK(e1:Nat)(b0:aj)(mx:List Gv)(n:Int)(i:Int):St:=⟨[(3,Pz 0),(27,oc (.own 1 e1 0 (mx.length) XZ)),(28,oI n),(29,oI i)],[xb (aA b0 (.own 1 e1 0 (mx.length) XZ)),XY (.arr e1 36 (mx.map jC))]⟩
def QF:AC:= .seq JW (.seq (.cond (.t 30) .skip (.exit 0)) (.seq (.block 1 (.seq (.reg (opsOf JY++([Mj]++opsOf JX))) (.seq JV (.seq JU (.regd (opsOf E8++[Mi])))))) JT))
def Pk:dG:=⟨60,[.tmp 2],.seq J3 (.seq J2 (.seq J1 (.seq J0 (.seq (.seq JZ (.block 0 (.loop QF))) (.seq JS .ret)))))⟩
theorem L4:nv X2 37=XY Pk.er:=by kernel_rfl
def lh(a:ah):aj:=⟨⟨a.Node,a.cl,.bool X5,a.aM,a.bW,a.bO,a.b8⟩⟩
def AM(x:af):Prop:=x.an.ae.ad.length≤4294967290∧x.aK.length≤4294967290∧x.aq.length≤4294967290
def pn(a:ah):Prop:=a.aM.length≤4294967290∧a.bq.length≤4294967290∧∀x∈a.bq,AM x
theorem oE{α:Type}{xs:List α}(h:xs.length≤4294967290):gw xs=XY xs:=if_pos h
def Q5(a:ah)(res:AV)(H:List (Option bw))(l:List (Option AE)):Prop:=
 ∃ds:List DP,ds.map DP.p=a.bq∧res=bJ [.c (.pt 0 0)]∧H=[xb (rC (lh a) (ds.map DP.r) 0),XY (.arr 0 36 (rowsOf ds))]∧l=cG ds
theorem L6{a:ah}(h:pn a):jI X2 37 [.agg ((iZ a).map C.d)] [] [] (Q5 a):=by
 refine iJ L4 (by simp[Pk]) fun B=>?_
 obtain⟨hI,hP,hx⟩:=h
 refine VE.dV (F37a_ok (a:=a) rfl) (fun s hs=>?_) xN gr
 subst hs
 refine VE.dV (F37b_ok (a:=a) rfl) (fun s hs=>?_) xN gr
 subst hs
 refine VE.dV (F37c_ok (a:=a) (r:=a.aM) (by unfold F37c;rw[oE hI];rfl)) (fun s hs=>?_) xN gr
 subst hs
 refine VE.dV (F37d_ok (a:=a) (il:=a.aM) (r:=a.bq) (by unfold F37d;rw[oE hP];rfl)) (fun s hs=>?_) xN gr
 subst hs
 refine VE.tell (Te.view (s':=⟨[(3,Pz 0)],[xb (((fx (lh a)).map C.d).set 25 (.own 1 0 0 a.bq.length XZ)),XY (.arr 0 36 (a.bq.map bT))]⟩) (eV i2 (by simp only[ZZ.down,XS,reduceCtorEq,XV,XR,XW,XU,EE.down,fx,lh,XH,XL,XD,XC]) (by simp only[ZZ.down,XS,reduceCtorEq,XV,XR,XW,XU,EE.down,fx,lh,XH,XL,XD,XC]) (by simp only[ZZ.down,XS,reduceCtorEq,XV,XR,XW,XU,EE.down,fx,lh,XH,XL,XD,XC]))) ?_
 rintro _ _ ⟨rfl,rfl⟩
 generalize hps:a.bq=ps at hP hx⊢
 have e0:ps.length=(lK [] ps).length:=by simp[lK]
 rw[←LC ps,show ps.length=(lK [] ps).length from e0]
 refine VE.seq (VE.dV (F37e_ok (e1:=0) (b0:=lh a) (mx:=lK [] ps) rfl) (fun s hs=>?_) xN gr)
 subst hs
 refine VE.block (VE.loop (fun j s l=>∃(os:List DP) (rest:List af),ps=os.map DP.p++rest∧j=rest.length∧s=uK 0 (lh a) (lK os rest) (ps.length:Nat) (os.length:Nat)∧l=cG os)
  ⟨ps.length,[],ps,rfl,rfl,by rw[e0];rfl,rfl⟩ ?_)
 rintro j _ _ ⟨os,rest,h1,rfl,rfl,rfl⟩
 have hl:ps.length=os.length+rest.length:=by rw[h1];simp
 refine VE.dV (F37h_ok (e1:=0) (b0:=lh a) (mx:=lK os rest) (n:=(ps.length:Nat)) (i:=(os.length:Nat)) rfl) (fun s hs=>?_) xN gr
 subst hs
 refine VE.seq (VE.cond (t:=decide ((os.length:Int)<(ps.length:Int))) rfl (fun ht=>?_) fun ht=>?_)
 ·have ht:=of_decide_eq_true ht
  cases rest with
  |nil=>simp only[XO]at hl;omega
  |cons x rest=>
   have hpx:AM x:=hx x (by rw[h1];simp)
   refine VE.skip ?_
   refine VE.tell (Te.to 2 (uK 0 (lh a) (lK os (x::rest)) (ps.length:Nat) (os.length:Nat)) ⟨rfl,rfl,rfl,rfl,trivial⟩ rfl rfl rfl rfl) ?_
   rintro _ _ ⟨rfl,rfl⟩
   refine VE.seq (VE.block (VE.post (R':=fun ex s' l'=>ex= .normal∧∃v1 v2 v3,B9 (uK 0 (lh a) (lK (os++[DP.mk x v1 v2 v3]) rest) (ps.length:Nat) (os.length:Nat)).aO s'.aO∧s'.heap=(uK 0 (lh a) (lK (os++[DP.mk x v1 v2 v3]) rest) (ps.length:Nat) (os.length:Nat)).heap∧l'=cG (os++[DP.mk x v1 v2 v3])) ?_ ?_))
   ·have hr:=ND os x rest
    refine VE.seq (VE.ws (SE.append (SE.pc (F37f_ok (e1:=0) (b0:=lh a) (mx:=lK os (x::rest)) (n:=(ps.length:Nat)) (i:=(os.length:Nat)) (r:=()) (by simp only[F37f,hr,X0])) fun s hs=>?_)))
    subst hs
    refine Te.refl (SE.append (SE.OW (st:=Mj) (d:=33) (p:=32) (q:=1) (e:=0) (k:=os.length) (r:=bT x) rfl rfl rfl rfl rfl (EK os x rest) rfl ?_))
    refine SE.tell (Te.to 2 ⟨[(3,Pz 0),(27,oc (.own 1 0 0 (lK os (x::rest)).length XZ)),(28,oI (ps.length:Nat)),(29,oI (os.length:Nat)),(31,oI (os.length:Nat)),(33,.one (.agg ((bT x).map C.d)))],(uK 0 (lh a) (lK os (x::rest)) (ps.length:Nat) (os.length:Nat)).heap⟩ ⟨rfl,rfl,rfl,rfl,rfl,rfl,trivial⟩ rfl rfl rfl rfl) ?_
    rintro _ _ ⟨rfl,rfl⟩
    refine SE.pc (F37g_ok (e1:=0) (b0:=lh a) (mx:=lK os (x::rest)) (n:=(ps.length:Nat)) (i:=(os.length:Nat)) (x:=x) rfl) fun s hs=>?_
    subst hs
    refine Te.refl (VE.dV (F37k_ok (e1:=0) (b0:=lh a) (mx:=lK os (x::rest)) (n:=(ps.length:Nat)) (i:=(os.length:Nat)) (x:=x) (r:=x.an.ae.ad) (by unfold F37k;rw[oE hpx.1];rfl)) (fun s hs=>?_) xN gr)
    subst hs
    refine VE.dV (F37l_ok (e1:=0) (b0:=lh a) (mx:=lK os (x::rest)) (n:=(ps.length:Nat)) (i:=(os.length:Nat)) (x:=x) (kc:=x.an.ae.ad) (r:=(x.aK,x.aq)) (by unfold F37l;rw[oE hpx.2.1,oE hpx.2.2];rfl)) (fun s hs=>?_) xN gr
    subst hs
    rw[←XG (cG os)]
    refine VE.tell (Te.QO (cG os) []) ?_
    rintro _ _ ⟨rfl,rfl⟩
    refine VE.tell (Te.to 6 ⟨[(3,Pz 0),(4,oI (os.length:Nat)),(5,Pz 2),(27,oc (.own 1 0 0 (lK os (x::rest)).length XZ)),(28,oI (ps.length:Nat)),(29,oI (os.length:Nat))],(uK 0 (lh a) (lK os (x::rest)) (ps.length:Nat) (os.length:Nat)).heap++xb (CN x (2+1) (2+2) (2+3))::wK x⟩ ⟨rfl,rfl,rfl,rfl,rfl,rfl,trivial⟩ rfl rfl rfl rfl) ?_
    rintro _ _ ⟨rfl,rfl⟩
    refine VE.tell (Te.wi (N:=2) _ rfl) ?_
    rintro _ _ ⟨v1,v2,v3,rfl,rfl⟩
    refine VE.tell (Te.to 3 ⟨[(3,Pz 0),(4,oI (os.length:Nat)),(5,Pz 2),(27,oc (.own 1 0 0 (lK os (x::rest)).length XZ)),(28,oI (ps.length:Nat)),(29,oI (os.length:Nat))],(uK 0 (lh a) (lK os (x::rest)) (ps.length:Nat) (os.length:Nat)).heap++[xb (ny x v1 v2 v3)]⟩ ⟨rfl,rfl,rfl,rfl,rfl,rfl,trivial⟩ rfl rfl rfl rfl) ?_
    rintro _ _ ⟨rfl,rfl⟩
    refine VE.O9 (steps:=opsOf E8) (F37m_ok (e1:=0) (b0:=lh a) (mx:=lK os (x::rest)) (n:=(ps.length:Nat)) (i:=(os.length:Nat)) (y:=oV x v1 v2 v3) (r:=()) (by simp only[F37m,hr,X0])) rfl (by decide) (by decide) fun s hs=>?_
    subst hs
    refine Te.refl (SE.raw (st:=Mi) (id:=1) (ep:=0) (row:=os.length) (z:=36) (rows:=(lK os (x::rest)).map jC) (r:=bT x) (ds:=aS (oV x v1 v2 v3)) (v:= .agg (ny x v1 v2 v3)) rfl rfl rfl rfl rfl (EK os x rest) rfl rfl rfl (by decide) ⟨rfl,v1,v2,v3,?_,?_,?_⟩)
    rotate_left
    ·have e:(lK (os++[DP.mk x v1 v2 v3]) rest).length=(lK os (x::rest)).length:=by rw[rA,rA,XM,XJ];simp;omega
     unfold uK;rw[e,←LB os (DP.mk x v1 v2 v3) x rest];rfl
    ·rw[kG];rfl
    ·have e:(lK (os++[DP.mk x v1 v2 v3]) rest).length=(lK os (x::rest)).length:=by rw[rA,rA,XM,XJ];simp;omega
     unfold uK;rw[e];exact⟨rfl,rfl,rfl,rfl,trivial⟩
   ·rintro ex ⟨sl,hh⟩ l' ⟨rfl,v1,v2,v3,hsl,hh',rfl⟩
    subst hh'
    refine(Te.to 2 (uK 0 (lh a) (lK (os++[DP.mk x v1 v2 v3]) rest) (ps.length:Nat) (os.length:Nat)) hsl rfl rfl rfl rfl).trans ?_
    rintro _ _ ⟨rfl,rfl⟩
    refine Te.refl (VE.pc (F37o_ok (e1:=0) (b0:=lh a) (mx:=lK (os++[DP.mk x v1 v2 v3]) rest) (n:=(ps.length:Nat)) (i:=(os.length:Nat)) rfl) (fun s hs=>?_) xN gr)
    subst hs
    simp only[XJ]at hl
    rw[kA (by omega)]
    refine Te.refl ⟨rest.length,by simp,os++[DP.mk x v1 v2 v3],rest,by rw[h1];simp,rfl,?_,rfl⟩
    rw[XM];rfl
 ·have ht:=of_decide_eq_false ht
  have hr0:rest=[]:=XN.1 (by omega)
  subst hr0
  refine VE.tell (Te.to 2 ⟨[(3,Pz 0)],(uK 0 (lh a) (lK os []) (ps.length:Nat) (os.length:Nat)).heap⟩ ⟨rfl,trivial⟩ rfl rfl rfl rfl) ?_
  rintro _ _ ⟨rfl,rfl⟩
  refine VE.exit (iw (iw (jx ?_)))
  refine VE.dV (F37z_ok (e1:=0) (b0:=lh a) (mx:=lK os []) rfl) (fun s hs=>?_) xN gr
  subst hs
  refine VE.ret ⟨os,by rw[hps,h1,XG],rfl,?_,rfl⟩
  rw[LD]
  show([xb (((fx (lh a)).map C.d).set 25 (.own 1 0 0 (lK os []).length XZ)),XY (.arr 0 36 (rowsOf os))]:List (Option bw))=_
  unfold rC;rw[rA,XF];rfl
end Go.Proofs.YtojbebejhgbfeaaGreat
