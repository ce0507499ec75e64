/- Each Go function as a function over typed data, and its walk. -/
import Derived.Test.YtojbebejhgbfeaaGreatW0
import Derived.Test.YtojbebejhgbfeaaGreatW1
import Derived.Test.YtojbebejhgbfeaaGreatW2
import Derived.Test.YtojbebejhgbfeaaGreatW3
import Derived.Test.YtojbebejhgbfeaaGreatW4
import Derived.Test.YtojbebejhgbfeaaGreatW5
import Derived.Test.YtojbebejhgbfeaaGreatW6
import Derived.Test.YtojbebejhgbfeaaGreatW7
import Derived.Test.YtojbebejhgbfeaaGreatW9
import Derived.Test.YtojbebejhgbfeaaGreatW11
import Derived.Test.YtojbebejhgbfeaaGreatW12
import Derived.Test.YtojbebejhgbfeaaGreatW13
import Derived.Test.YtojbebejhgbfeaaGreatW14
import Derived.Test.YtojbebejhgbfeaaGreatW15
import Derived.Test.YtojbebejhgbfeaaGreatW16
import Derived.Test.YtojbebejhgbfeaaGreatW17
import Derived.Test.YtojbebejhgbfeaaGreatW18
open Option renaming some->XC,bind_some->XD,bind->XF,none->XG
open List renaming map_cons->XH,length_map->XI,map_append->XJ,set_cons_zero->XK,set_cons_succ->XL,map_nil->XM,mem_cons_of_mem->XN,mem_cons_self->XO,all_eq_true->XP,set_set->XQ,map_map->XR
open Nat renaming reduceLeDiff->XS,reduceEqDiff->XU,reduceBNe->XV,reduceAdd->XW,reduceLT->XX
open Bool renaming false->XY,true->XZ
open Go.Proofs.Tryz renaming prog->X0
namespace Go.Proofs.YtojbebejhgbfeaaGreat
open Go Go.Fw Go.Shelf
set_option maxRecDepth 100000
set_option maxHeartbeats 4000000
set_option linter.unusedSimpArgs false
set_option linter.unusedVariables false
def JB:AC:=(.regd [Qa 60 4,
Qa 61 5,
Qa 62 0,
sd 63 (.fieldA 0 (.t 62)) [2],
sd 64 (.fieldA 0 (.t 63)) [2,3],
sd 65 (.fieldA 27 (.t 64)) [2,3,4],
sd 66 (.load XG (.t 65)) [2,3,4,5],
Qa 67 0,
sd 68 (.fieldA 0 (.t 67)) [7],
sd 69 (.fieldA 0 (.t 68)) [7,8],
sd 70 (.fieldA 0 (.t 69)) [7,8,9],
sd 71 (.fieldA 13 (.t 70)) [7,8,9,10],
sd 72 (.fieldA 1 (.t 71)) [7,8,9,10,11],
sd 73 (.load XG (.t 72)) [7,8,9,10,11,12],
zn 74 (.call 84 [(.t 60),(.t 61),(.t 66),(.t 73)]) [0,1,2,3,4,5,6,7,8,9,10,11,12,13] [0,1,2,3,4,5,6,7,8,9,10,11,12,13],
sd 75 (.len (.t 74)) [0,1,2,3,4,5,6,7,8,9,10,11,12,13,14],
Qe 76 0])
def F43f(e1:Nat)(b0:aj)(pods:List au)(l:List gZ)(u:List Int):Option ((List ByteArray)×Int):=(F84 l u b0.ah.bW b0.ah.Node.aJ.aG).bind fun t1=>XC ((t1,(t1.length:Int)))
theorem F43f_ok{e1 b0 pods l u r}(h:F43f e1 b0 pods l u=XC r):sK X0 118 2 JB [] (sM 118 2 (fun s=>s=⟨[(0,Pz 0),(74,oc (ow 2 0 r.1)),(75,oI r.2),(76,oI 0)],[xb (aA b0 (ow 1 e1 pods)),ai e1 pods,iS 0 r.1]⟩) (xQ 118 2 (fun _ _=>False) (fun _=>False)))
 ⟨[(0,Pz 0),(4,oc (ow 2 0 l)),(5,oc (ow 3 0 u))],[xb (aA b0 (ow 1 e1 pods)),ai e1 pods,vn 0 l,xa 0 u]⟩:=by
 rw[F43f]at h
 unfold JB
 refine ww ?_
 obtain⟨t1,ht1,h⟩:=bi h
 refine Oi (F84_ok ht1) rfl ⟨jP (enc:=eS) (fun _=>rfl) _,trivial⟩ ?_
 refine ww ?_
 refine iu (by simp[fE,gO,cH]) (ww ?_)
 cases h
 exact eM [XC 0,XC 1,XC 4] rfl
abbrev GK(e1:Nat)(b0:aj)(pods:List au)(ks:List ByteArray)(i:Int):St:=⟨[(0,Pz 0),(74,oc (.own 2 0 0 (ks.length) XG)),(75,oI (ks.length:Int)),(76,oI i)],[xb (aA b0 (.own 1 e1 0 (pods.length) XG)),XC (.arr e1 36 (pods.map aS)),XC (.arr 0 1 (ks.map eS))]⟩
abbrev PV(e1:Nat)(b0:aj)(dd:List au)(ks:List ByteArray)(i:Int)(x:af):St:=⟨[(0,Pz 0),(12,Pz 3),(74,oc (.own 2 0 0 (ks.length) XG)),(75,oI (ks.length:Int)),(76,oI i)],[xb (cj b0),XC (.arr e1 36 (dd.map aS)),XC (.arr 0 1 (ks.map eS)),xb (bj x (.own 4 0 0 (x.an.ae.ad.length) XG) (.own 5 0 0 (x.aK.length) XG) (.own 6 0 0 (x.aq.length) XG)),XC (.arr 0 7 (x.an.ae.ad.map aC)),XC (.arr 0 4 (x.aK.map cu)),XC (.arr 0 2 (x.aq.map fm))]⟩
def Pn:AC:= .seq Jz (.seq (.cond (.t 77) .skip (.exit 2)) (.seq (.block 3 (.seq JA (.seq Jy (.seq Jx wH)))) Jw))
def a43:dG:=⟨118,[],.seq JG (.seq JF (.seq JE (.seq JD (.seq JC (.seq JB (.block 2 (.loop Pn)))))))⟩
theorem a43_ok:nv X0 43=XC a43.er:=by kernel_rfl
def ir(b:aj)(m:Int):aj:=⟨⟨b.ah.Node,b.ah.cl,b.ah.bq,b.ah.aM,m,b.ah.bO,b.ah.b8⟩⟩
def pZ(b:aj)(x:af)(q:List ag×List cp):af:=⟨⟨x.an.ak,x.an.Spec,⟨3,XY,x.an.ae.bf,x.an.ae.Started,b.ah.cl,q.1,x.an.ae.bS,x.an.ae.bg,⟨#[69,118,105,99,116,101,100]⟩⟩⟩,x.aK,q.2,x.bh,x.bK⟩
def Lu(b:aj):List ByteArray→List af→List af→Prop
 |[],ps,r=>r=ps
 |w::ks,ps,r=>∃k ok x q,Bi b ps w k ok∧cI ps k=XC x∧(∀u,F30043f 0 (fB b u) [] [] 0 x=XC q)∧Lu b ks (ps.set k.toNat (pZ b x q)) r
def OM(b:aj)(ps:List af)(ks:List ByteArray):Prop:=∀es:List DP,es.map DP.p=ps→∃lu,F43e 0 b (es.map DP.r)=XC lu∧F43f 0 b [] lu.1 lu.2=XC (ks,(ks.length:Int))
def jZ(b:aj)(ps:List af)(r:List af):Prop:=
 if b.ah.bW≤b.ah.Node.aJ.aG then r=ps else∃ks,OM b ps ks∧ks.length≤4294967290∧Lu b ks ps r
theorem F43_ok{b0:aj}{us:Int}{ds:List DP}{r:List af}{e1:Nat}(h:jZ (ir b0 (if us<0 then 0 else us)) (ds.map DP.p) r):jI X0 43 [.c (.pt 0 0),.c (dI us)] [xb (rC b0 (ds.map DP.r) e1),XC (.arr e1 36 (rowsOf ds))] (cG ds) (NH (ir b0 (if us<0 then 0 else us)) r rC):=by
 refine iJ a43_ok (by simp[a43]) fun B=>?_
 refine VE.dV (F43a_ok (e1:=e1) (b0:=b0) (pods:=ds.map DP.r) (us:=us) rfl) (fun s hs=>?_) xN gr
 subst hs
 generalize hb:ir b0 (if us<0 then 0 else us)=b1 at h⊢
 refine VE.tell (Te.to 2 ⟨[(0,Pz 0)],[xb (rC b1 (ds.map DP.r) e1),XC (.arr e1 36 (rowsOf ds))]⟩ ⟨rfl,trivial⟩ (by subst hb;rfl) rfl (by subst hb;rfl) rfl) ?_
 rintro _ _ ⟨rfl,rfl⟩
 clear hb
 unfold jZ at h
 refine VE.dV (F43b_ok (e1:=e1) (b0:=b1) (pods:=ds.map DP.r) (r:=if b1.ah.bW≤b1.ah.Node.aJ.aG then .inl ()else .inr ()) (by unfold F43b;split<;>rfl)) (fun s hs=>?_) xN (fun s hs=>?_)
 rotate_left
 ·obtain⟨o,ho,rfl⟩:=hs
  by_cases hc:b1.ah.bW≤b1.ah.Node.aJ.aG
  ·rw[if_pos hc]at h;subst h
   exact Te.refl ⟨ds,e1,rfl,rfl,rfl,rfl⟩
  ·rw[if_neg hc]at ho;cases ho
 obtain⟨o,ho,rfl⟩:=hs
 by_cases hc:b1.ah.bW≤b1.ah.Node.aJ.aG
 ·rw[if_pos hc]at ho;cases ho
 rw[if_neg hc]at h
 obtain⟨ks,hks,hkl,h⟩:=h
 obtain⟨lu,hlu,hF⟩:=hks ds rfl
 refine VE.dV (F43c_ok (e1:=e1) (b0:=b1) (pods:=ds.map DP.r) rfl) (fun s hs=>?_) xN gr
 subst hs
 refine VE.dV (F43d_ok (e1:=e1) (b0:=b1) (pods:=ds.map DP.r) rfl) (fun s hs=>?_) xN gr
 subst hs
 refine VE.dV (F43e_ok (e1:=e1) (b0:=b1) (pods:=ds.map DP.r) (r:=lu) hlu) (fun s hs=>?_) xN gr
 subst hs
 refine VE.dV (F43f_ok (e1:=e1) (b0:=b1) (pods:=ds.map DP.r) (l:=lu.1) (u:=lu.2) (r:=(ks,(ks.length:Int))) hF) (fun s hs=>?_) xN gr
 subst hs
 refine VE.block (VE.loop (fun j s l=>∃(ds:List DP) (e i:Nat) (k1:List ByteArray),ks.drop i=k1∧ks.length=i+k1.length∧j=k1.length∧s=GK e b1 (ds.map DP.r) ks (i:Nat)∧l=cG ds∧Lu b1 k1 (ds.map DP.p) r)
  ⟨ks.length,ds,e1,0,ks,rfl,by simp,rfl,rfl,rfl,h⟩ ?_)
 clear h hF hlu hks lu
 rintro j _ _ ⟨ds,e,i,k1,h1,h2,rfl,rfl,rfl,h4⟩
 refine VE.dV (F43h_ok (e1:=e) (b0:=b1) (pods:=ds.map DP.r) (ks:=ks) (i:=(i:Nat)) rfl) (fun s hs=>?_) xN gr
 subst hs
 refine VE.seq (VE.cond (t:=decide ((i:Int)<(ks.length:Int))) rfl (fun ht=>?_) fun ht=>?_)
 ·have ht:=of_decide_eq_true ht
  cases k1 with
  |nil=>simp only[List.length_nil]at h2;omega
  |cons w k1=>
   refine VE.skip ?_
   refine VE.tell (Te.to 3 (GK e b1 (ds.map DP.r) ks (i:Nat)) ⟨rfl,rfl,rfl,rfl,trivial⟩ rfl rfl rfl rfl) ?_
   rintro _ _ ⟨rfl,rfl⟩
   have hw:cI ks (i:Int)=XC w:=by
    have:ks=ks.take i++w::k1:=by rw[←h1,List.take_append_drop]
    rw[this];exact nL (by rw[List.length_take];omega)
   obtain⟨k,ok,x,q,hf,hx,hq,h4⟩:=h4
   obtain⟨A,d,C,rfl,hA,rfl,hrow,hk0⟩:=yI hx
   refine VE.seq (VE.block ?_)
   refine VE.dV (F43g_ok (e1:=e) (b0:=b1) (pods:=(A++d::C).map DP.r) (ks:=ks) (i:=(i:Nat)) (r:=w) (by simp only[F43g,hw,XD])) (fun s hs=>?_) xN gr
   subst hs
   refine VE.dV (F43i_ok (e1:=e) (b0:=b1) (pods:=(A++d::C).map DP.r) (ks:=ks) (i:=(i:Nat)) (w:=w) (r:=k) ((congrArg (XF · _) (hf (A++d::C) rfl)).trans rfl)) (fun s hs=>?_) xN gr
   subst hs
   refine VE.dV (F43j_ok (e1:=e) (b0:=b1) (pods:=(A++d::C).map DP.r) (ks:=ks) (i:=(i:Nat)) (k:=k) (r:=()) (by simp only[F43j,hrow,XD])) (fun s hs=>?_) xN gr
   subst hs
   rw[fS]
   refine VE.post (R':=fun ex s' l'=>ex= .normal∧∃v1 v2 v3,s'=GK (e+2) b1 ((A++⟨pZ b1 d.p q,v1,v2,v3⟩::C).map DP.r) ks (i:Nat)∧l'=cG (A++⟨pZ b1 d.p q,v1,v2,v3⟩::C)) ?_ ?_
   ·refine VE.M6 (t:=12) (gf:=0) (q:=1) (e:=e) (jm:=25) (N:=3) (k:=k.toNat) (x:=d.p) (u1:=d.u1) (u2:=d.u2) (u3:=d.u3) (A:=cG A) (D:=cG C) rfl rfl rfl rfl rfl (sJ A C d hA) rfl fun um B'=>?_
    refine VE.tell (Te.to 7 (PV (e+1) (fB b1 um) [] ks (i:Nat) d.p) ⟨rfl,rfl,rfl,rfl,rfl,trivial⟩ rfl rfl rfl rfl) ?_
    rintro _ _ ⟨rfl,rfl⟩
    refine VE.pc (F30043f_ok (e1:=e+1) (b0:=fB b1 um) (dd:=[]) (ks:=ks) (i:=(i:Nat)) (x:=d.p) (r:=q) (hq um)) (fun s hs=>?_) xN gr
    subst hs
    refine Te.refl ⟨pZ b1 d.p q,[xb ((fx (fB b1 um)).map Fw.C.d),XC (.arr (e+1) 36 []),XC (.arr 0 1 (ks.map eS))],(fx (fB b1 um)).map Fw.C.d,(GK e b1 [] ks (i:Nat)).aO,rfl,rfl,rfl,rfl,rfl,⟨rfl,rfl,rfl,rfl,trivial⟩,rfl,rfl,rfl,fun v1 v2 v3=>⟨rfl,v1,v2,v3,?_,(fS A C ⟨pZ b1 d.p q,v1,v2,v3⟩).symm⟩⟩
    have hr:=pU A C d ⟨pZ b1 d.p q,v1,v2,v3⟩ hA
    unfold rowsOf at hr
    unfold GK;rw[←yY A C d ⟨pZ b1 d.p q,v1,v2,v3⟩,←hr];rfl
   ·rintro ex s' l' ⟨rfl,v1,v2,v3,rfl,rfl⟩
    refine Te.refl (VE.pc (F43z_ok (e1:=e+2) (b0:=b1) (pods:=(A++⟨pZ b1 d.p q,v1,v2,v3⟩::C).map DP.r) (ks:=ks) (i:=(i:Nat)) rfl) (fun s hs=>?_) xN gr)
    subst hs
    simp only[List.length_cons]at h2
    rw[kA (by omega)]
    refine Te.refl ⟨k1.length,by simp,A++⟨pZ b1 d.p q,v1,v2,v3⟩::C,e+2,i+1,k1,?_,by omega,rfl,rfl,rfl,?_⟩
    ·rw[←List.drop_drop,h1];rfl
    ·rw[XJ,XH,uV _ _ _ _ (by rw[XI,hA])]at h4
     rw[XJ,XH];exact h4
 ·have ht:=of_decide_eq_false ht
  have hr0:k1=[]:=List.length_eq_zero_iff.1 (by omega)
  subst hr0
  cases h4
  refine VE.tell (Te.to 2 ⟨[(0,Pz 0)],[xb (rC b1 (ds.map DP.r) e),XC (.arr e 36 (rowsOf ds))]⟩ ⟨rfl,trivial⟩ rfl rfl rfl rfl) ?_
  rintro _ _ ⟨rfl,rfl⟩
  exact VE.exit (iw (iw (jx ⟨ds,e,rfl,rfl,rfl,rfl⟩)))
def OC:cq:=zl 46 (.call 75 [(.t 43),(.t 44),(.t 45)]) [] [3]
abbrev M8(e1:Nat)(b0:aj)(pods:List au)(v:an)(k:Int):St:=⟨[(0,Pz 0),(3,Pz 2),(4,oI k)],[xb (aA b0 (.own 1 e1 0 (pods.length) XG)),XC (.arr e1 36 (pods.map aS)),xb (jD v)]⟩
def a38:dG:=⟨93,[],.seq JR (.seq JQ (.seq (.seq JP (.cond (.t 16) (.seq (.seq JO (.cond (.t 42) (.reg (opsOf JN++[OC])) .skip)) .ret) .skip)) JM))⟩
theorem a38_ok:nv X0 38=XC a38.er:=by kernel_rfl
def wR(v:an)(x:af)(st:Bool)(a:Int):af:=⟨⟨v.ak,x.an.Spec,x.an.ae⟩,x.aK,x.aq,st,a⟩
def BL(now t:Int):Int:=(if now<(if 1000000000000<(if t<0 then 0 else t)then 1000000000000 else(if t<0 then 0 else t))then(if 1000000000000<(if t<0 then 0 else t)then 1000000000000 else(if t<0 then 0 else t))else now)
def BM(b:aj)(v:an)(x:af):Option af:=
 ((if v.ak.bP=XZ then(F62 (wR v x x.bh x.bK)).bind fun t4=>(if(nb t4)=XZ then XC (nb x.bh)else XC XY)else XC XY)).bind fun o2=>(if o2=XZ then(F36 v.ak.bz).bind fun t7=>XC (wR v x XZ (BL b.ah.cl v.ak.bz))else XC (wR v x x.bh x.bK))
theorem N8{b:aj}{v:an}{x x':af}(h:BM b v x=XC x'):∃st a,x'=wR v x st a:=by
 obtain⟨o,_,h⟩:=bi h
 cases o with
 |true=>rw[if_pos rfl]at h;obtain⟨t,_,h⟩:=bi h;cases h;exact⟨_,_,rfl⟩
 |false=>cases h;exact⟨_,_,rfl⟩
theorem F38f_eq{b:aj}{v:an}{A C:List DP}{d:DP}{k:Int}{x':af}{e1:Nat}(hA:A.length=k.toNat)(hrow:cI ((A++d::C).map DP.r) k=XC d.r)(h:BM b v d.p=XC x'):
 F38f e1 b ((A++d::C).map DP.r) v k=XC ((A++⟨x',d.u1,d.u2,d.u3⟩::C).map DP.r):=by
 have cH:∀y:au,((A++d::C).map DP.r).set k.toNat y=A.map DP.r++y::C.map DP.r:=fun y=>by
  rw[XJ,XH,uV _ _ _ _ (by rw[XI,hA])]
 unfold F38f
 rw[hrow,XD]
 obtain⟨o,ho,h⟩:=bi h
 refine(congrArg (XF · _) (show _=XC o from ho)).trans ?_
 rw[XD]
 cases o with
 |true=>
  rw[if_pos rfl]at h
  obtain⟨t,ht,h⟩:=bi h
  cases h
  rw[if_pos rfl,ht,XD,XQ,XQ,cH,XJ,XH];rfl
 |false=>
  cases h
  rw[if_neg (by simp),cH,XJ,XH];rfl
def zL(b:aj)(v:an)(n:Nat):Bool:=decide (v.Spec.Node=b.ah.Node.ak.aV)&&(nb v.ak.bP&&decide ((n:Int)<64))
def N6(b:aj)(ps:List af)(v:an)(b':aj)(r:List af):Prop:=∃w k ok,F74 v.ak=XC w∧Bi b ps w k ok∧
 (ok=XZ∧b'=b∧(∃x x',cI ps k=XC x∧BM b v x=XC x'∧r=ps.set k.toNat x')∨ok=XY∧(zL b v ps.length=XZ∧Pm b ps k v b' r∨zL b v ps.length=XY∧b'=b∧r=ps))
theorem F38_ok{b0 b':aj}{ds:List DP}{v:an}{r:List af}{e1:Nat}(h:N6 b0 (ds.map DP.p) v b' r):jI X0 38 [.c (.pt 0 0),.agg ((wu v).map C.d)] [xb (rC b0 (ds.map DP.r) e1),XC (.arr e1 36 (rowsOf ds))] (cG ds) (NH b' r rC):=by
 refine iJ a38_ok (by simp[a38]) fun B=>?_
 obtain⟨w,k,ok,hw,hf,h⟩:=h
 refine VE.dV (F38a_ok (e1:=e1) (b0:=b0) (pods:=ds.map DP.r) (v:=v) rfl) (fun s hs=>?_) xN gr
 subst hs
 refine VE.dV (F38b_ok (e1:=e1) (b0:=b0) (pods:=ds.map DP.r) (v:=v) (r:=(k,ok)) (by
  unfold F38b;rw[hw,XD];exact(congrArg (XF · _) (hf ds rfl)).trans rfl)) (fun s hs=>?_) xN gr
 subst hs
 refine VE.seq (VE.dV (F38c_ok (e1:=e1) (b0:=b0) (pods:=ds.map DP.r) (v:=v) (k:=k) (ok:=ok) rfl) (fun s hs=>?_) xN gr)
 subst hs
 refine VE.cond (t:=nb ok) rfl (fun ht=>?_) fun ht=>?_
 ·rcases h with⟨rfl,_⟩|⟨rfl,h⟩
  ·cases ht
  ·rw[XI]at h
   refine VE.tell (Te.to 3 (M8 e1 b0 (ds.map DP.r) v k) ⟨rfl,rfl,rfl,trivial⟩ rfl rfl rfl rfl) ?_
   rintro _ _ ⟨rfl,rfl⟩
   refine VE.seq (VE.dV (F38d_ok (e1:=e1) (b0:=b0) (pods:=ds.map DP.r) (v:=v) (k:=k) (r:=zL b0 v ds.length) (by
    unfold F38d zL nb
    rw[XI]
    by_cases h1:v.Spec.Node=b0.ah.Node.ak.aV
    ·rw[if_pos h1];cases v.ak.bP<;>simp[h1]
    ·rw[if_neg h1];simp[h1])) (fun s hs=>?_) xN gr)
   subst hs
   refine VE.cond (t:=zL b0 v ds.length) rfl (fun ht=>?_) fun ht=>?_
   ·rcases h with⟨_,h⟩|⟨h1,_⟩
    ·refine VE.tell (Te.to 3 (M8 e1 b0 (ds.map DP.r) v k) ⟨rfl,rfl,rfl,trivial⟩ rfl rfl rfl rfl) ?_
     rintro _ _ ⟨rfl,rfl⟩
     refine VE.ws (SE.append (SE.pc (F38e_ok (e1:=e1) (b0:=b0) (pods:=ds.map DP.r) (v:=v) (k:=k) rfl) fun s hs=>?_))
     subst hs
     refine Te.refl (SE.Pd (st:=OC) rfl rfl rfl (F75_ok h) ?_)
     rintro _ _ _ ⟨ds',e',rfl,rfl,rfl,rfl⟩
     exact Te.refl (VE.ret ⟨ds',e',rfl,rfl,rfl,rfl⟩)
    ·rw[h1]at ht;cases ht
   ·rcases h with⟨h1,_⟩|⟨_,rfl,rfl⟩
    ·rw[h1]at ht;cases ht
    ·refine VE.tell (Te.to 2 ⟨[(0,Pz 0)],[xb (rC b' (ds.map DP.r) e1),XC (.arr e1 36 (rowsOf ds))]⟩ ⟨rfl,trivial⟩ rfl rfl rfl rfl) ?_
     rintro _ _ ⟨rfl,rfl⟩
     exact VE.skip (VE.ret ⟨ds,e1,rfl,rfl,rfl,rfl⟩)
 ·rcases h with⟨rfl,rfl,x,x',hx,hx',rfl⟩|⟨rfl,_⟩
  ·obtain⟨A,d,C,rfl,hA,rfl,hrow,hk0⟩:=yI hx
   refine VE.tell (Te.to 3 (M8 e1 b' ((A++d::C).map DP.r) v k) ⟨rfl,rfl,rfl,trivial⟩ rfl rfl rfl rfl) ?_
   rintro _ _ ⟨rfl,rfl⟩
   refine VE.skip (VE.pc (F38f_ok (e1:=e1) (b0:=b') (pods:=(A++d::C).map DP.r) (v:=v) (k:=k) (F38f_eq hA hrow hx')) (fun s hs=>?_) xN gr)
   subst hs
   obtain⟨st,a,rfl⟩:=N8 hx'
   refine Te.refl ⟨A++⟨wR v d.p st a,d.u1,d.u2,d.u3⟩::C,e1,?_,rfl,?_,?_⟩
   ·rw[XJ,XH,XJ,XH,uV _ _ _ _ (by rw[XI,hA])]
   ·rfl
   ·rw[fS,fS];rfl
  ·cases ht
def Mq:cq:=Qk 9 37 8
def Mr:cq:=Qa 5 9
abbrev uL(e1:Nat)(b0:aj)(pods:List au)(v:aN)(kd:Int):St:=⟨[(3,Pz 0),(4,Pz 1),(5,Pz 2),(11,oI kd)],[xb (aZ v),xb gx,xb (aA b0 (.own 3 e1 0 (pods.length) XG)),XC (.arr e1 36 (pods.map aS))]⟩
abbrev nE(e1:Nat)(b0:aj)(pods:List au)(v:aN):St:=⟨[(3,Pz 0),(4,Pz 1),(5,Pz 2)],[xb (aZ v),xb gx,xb (aA b0 (.own 3 e1 0 (pods.length) XG)),XC (.arr e1 36 (pods.map aS))]⟩
def Mt:cq:=zl 32 (.call 38 [(.t 29),(.t 31)]) [] [3,30]
def Mo:cq:=zl 61 (.call 41 [(.t 59),(.t 60)]) [] [3]
def Mp:cq:=zl 75 (.call 43 [(.t 72),(.t 74)]) [] [3,73]
def Ms:cq:=zl 79 (.call 44 [(.t 78)]) [] []
def GW:cq:=zl 81 (.call 45 [(.t 80)]) [] []
def NF(b0:aj)(pods:List au)(e1:Nat):List C:=(aA b0 (.own 3 e1 0 (pods.length) XG))
def Ox:List C:=gx
def L9:AC:= .seq Dv (.cond (.t 76) (.reg (opsOf DG++[Ms])) .skip)
def Ma:AC:= .seq Dw (.cond (.t 70) (.reg (opsOf DD++[Mp])) L9)
def Mb:AC:= .seq Dx (.cond (.t 62) DF Ma)
def Mc:AC:= .seq zE (.cond (.t 56) (.reg (opsOf DH++[Mo])) Mb)
def Oy:AC:= .seq Dy (.cond (.t 33) (.seq DC (.seq DB (.cond (.t 42) DE .skip))) Mc)
def Oz:AC:= .seq Dz (.cond (.t 27) (.reg (opsOf DI++[Mt])) Oy)
def Md:AC:= .seq DA (.cond (.t 12) wJ Oz)
def a10:dG:=⟨86,[.cell 4 (XC 30)],.seq Km (.seq (.reg (opsOf Kl++([Mq]++[Mr]))) (.seq (.seq Kk (.block 0 Md)) (.seq (.reg (opsOf zF++[GW])) (.seq E9 .ret))))⟩
theorem a10_ok:nv X0 10=XC a10.er:=by kernel_rfl
theorem vX{f:Nat→Nat}{a:A1}(h:a.gz=XZ):a.ff f=a:=by
 cases a with
 |c x=>cases x with
  |d x=>rfl
  |_=>cases h
 |agg cs=>
  show A1.agg (cs.map (C.ff f))=_
  congr 1
  conv=>rhs;rw[←List.map_id cs]
  refine List.map_congr_left fun c hc=>?_
  have:=XP.1 h c hc
  cases c with
  |d x=>rfl
  |_=>cases this
theorem pb{G:eg}{a:A1}(h:a.gz=XZ):a.live G:=by
 cases a with
 |c x=>cases x with
  |d x=>trivial
  |_=>cases h
 |agg cs=>
  intro c hc
  have:=XP.1 h c hc
  cases c with
  |d x=>trivial
  |_=>cases this
theorem vU{G:eg}:∀{l:List A1},(∀a∈l,a.gz=XZ)→jf G l
 |[],_=>trivial
 |a::l,h=>⟨pb (h a (XO ..)),vU fun b hb=>h b (XN _ hb)⟩
theorem HK{f:Nat→Nat}:∀{l:List A1},(∀a∈l,a.gz=XZ)→l.map (A1.ff f)=l
 |[],_=>rfl
 |a::l,h=>by rw[XH,vX (h a (XO ..)),HK fun b hb=>h b (XN _ hb)]
section
variable {n:Nat} {B:pr} {sl:List (Nat×AV)} {eb rb:bw} {b b':aj} {ds:List DP} {e1:Nat} {r:List af}
theorem MP{st:cq}{T:St→List (Option AE)→Prop}{f:FuncId}{os:List O}{rest:List A1}{J:AV→List (Option bw)→List (Option AE)→Prop}(hst:st.op= .call f os)(hg:st.guard=XG)(hrest:∀a∈rest,a.gz=XZ)
 (he:xc ⟨sl,[XC eb,XC rb,xb (NF b (ds.map DP.r) e1),XC (.arr e1 36 (rowsOf ds))]⟩ os=XC (.c (.pt 2 0)::rest))
 (hc:jI X0 f (.c (.pt 0 0)::rest) [xb (rC b (ds.map DP.r) e1),XC (.arr e1 36 (rowsOf ds))] (cG ds) J)
 (hT:∀res H' l',J res H' l'→Te n 0 B T (St.apply ⟨sl,[XC eb,XC rb,xb (NF b (ds.map DP.r) e1),XC (.arr e1 36 (rowsOf ds))]⟩ st.dst ⟨XC (res.ff (rn [2,3] 4)),e8 0 H' (rn [2,3] 4)⟩) l'):
 SE X0 n 0 B [st] T ⟨sl,[XC eb,XC rb,xb (NF b (ds.map DP.r) e1),XC (.arr e1 36 (rowsOf ds))]⟩ (cG ds):=by
 refine SE.MQ (s:=⟨sl,[XC eb,XC rb,xb (NF b (ds.map DP.r) e1),XC (.arr e1 36 (rowsOf ds))]⟩) (as':= .c (.pt 0 0)::rest) (H:=[xb (rC b (ds.map DP.r) e1),XC (.arr e1 36 (rowsOf ds))]) [2,3] hst hg he ?_ ⟨by simp[A1.live,C.live,hp],vU hrest⟩ rfl (by decide) ⟨⟨rfl,?_⟩,⟨rfl,trivial⟩,trivial⟩ hc hT
 ·rw[XH,HK hrest];rfl
 ·show∀c∈rC b (ds.map DP.r) e1,C.live _ c
  simp[rC,C.live,hp]
theorem zC{st:cq}{T:St→List (Option AE)→Prop}{f:FuncId}{os:List O}{rest:List A1}(hst:st.op= .call f os)(hg:st.guard=XG)(hrest:∀a∈rest,a.gz=XZ)
 (he:xc ⟨sl,[XC eb,XC rb,xb (NF b (ds.map DP.r) e1),XC (.arr e1 36 (rowsOf ds))]⟩ os=XC (.c (.pt 2 0)::rest))
 (hc:jI X0 f (.c (.pt 0 0)::rest) [xb (rC b (ds.map DP.r) e1),XC (.arr e1 36 (rowsOf ds))] (cG ds) (NH b' r rC))
 (hT:∀ds' e',ds'.map DP.p=r→Te n 0 B T ⟨fO sl st.dst (XC (bJ [])),[XC eb,XC rb,xb (NF b' (ds'.map DP.r) e'),XC (.arr e' 36 (rowsOf ds'))]⟩ (cG ds')):
 SE X0 n 0 B [st] T ⟨sl,[XC eb,XC rb,xb (NF b (ds.map DP.r) e1),XC (.arr e1 36 (rowsOf ds))]⟩ (cG ds):=by
 refine MP hst hg hrest he hc ?_
 rintro _ _ _ ⟨ds',e',h1,rfl,rfl,rfl⟩
 exact hT ds' e' h1
end
theorem aW.Q6{P:Program}{f:FuncId}{args:List A1}{H':List (Option bw)}{res:A1}(h:aW P f args [] (.one res) H')(hd:res.gz=XZ):aW P f args [] (.one res) []:=by
 intro φ F w vs hr hA
 refine(h φ F w vs hr hA).mono ?_
 rintro v w' ⟨φ',F',g1,g2,g3,g4⟩
 have e:∀id,hp [] id=XG:=fun id=>by simp[hp]
 exact⟨fun _=>XG,F',A1.nU hd g1,⟨fun id bZ hb=>(by rw[e]at hb;cases hb),fun id x hx=>(by cases hx),fun i j b o b' o' hi=>(by cases hi),fun b hb=>⟨(g2.fY b hb).1,fun id b' o hi=>(by cases hi)⟩⟩,
  ⟨g3.fY,fun id=>by rw[e];trivial⟩,⟨g4.size,g4.rest,fun id b o hi=>(by cases hi),g4.fY,g4.io⟩⟩
def Le(b:aj)(t:Int):aj:=⟨⟨b.ah.Node,t,b.ah.bq,b.ah.aM,b.ah.bW,b.ah.bO,b.ah.b8⟩⟩
def xe(b:aj)(l:List aw):aj:=⟨⟨b.ah.Node,b.ah.cl,b.ah.bq,l,b.ah.bW,b.ah.bO,b.ah.b8⟩⟩
def KU(b:aj)(ps:List af):ah:=⟨b.ah.Node,b.ah.cl,ps,b.ah.aM,b.ah.bW,b.ah.bO,b.ah.b8⟩
def O2(b0:aj)(ps:List af)(v:aN)(b:aj)(r:List af):Prop:=
 if v.bY=1 then(∃t,F36 v.N=XC t)∧b=Le b0 (BL b0.ah.cl v.N)∧r=ps
 else if v.bY=2 then N6 b0 ps v.an b r
 else if v.bY=3 then b=b0∧∃k ok,Bi b0 ps v.aV k ok∧(ok=XZ∧oz ps k (IntKind.i64.wrap (k+1))=XC r∨ok=XY∧r=ps)
 else if v.bY=4∨v.bY=5 then b=b0∧atR b0 ps v r
 else if v.bY=6 then∃il,(∀es:List DP,es.map DP.p=ps→F42 v.aP v.N (mR b0 (es.map DP.r))=XC il)∧b=xe b0 il∧r=ps
 else if v.bY=7 then b=ir b0 (if v.N<0 then 0 else v.N)∧jZ (ir b0 (if v.N<0 then 0 else v.N)) ps r
 else if v.bY=8 then b=b0∧ng b0 ps r
 else b=b0∧r=ps
def Mf(a:ah)(v:aN)(r:ah):Prop:=pn a∧∃b ps q,O2 (lh a) a.bq v b ps∧(∀u,F45 (fB b u) ps=XC q)∧r=KU b q
def QZ(a:ah)(res:AV)(H:List (Option bw))(l:List (Option AE)):Prop:=res=bJ [.agg ((iZ a).map C.d)]∧H=[xb ((iZ a).map C.d)]∧∀(i:Nat) (e:AE),l[i]?≠XC (XC e)
section
variable {B:pr} {b0 b:aj} {ds:List DP} {v:aN} {e1:Nat} {q r:List af}
theorem K2(hs:∀u,F45 (fB b u) (ds.map DP.p)=XC q):VE X0 86 0 B (.seq (.reg (opsOf zF++[GW])) (.seq E9 .ret)) (zr [.cell 4 (XC 30)] (QZ (KU b q))) (nE e1 b (ds.map DP.r) v) (cG ds):=by
 refine VE.seq (VE.ws (SE.append (SE.pc (F10se_ok (e1:=e1) (b0:=b) (pods:=ds.map DP.r) (v:=v) rfl) fun s hs=>?_)))
 subst hs
 refine Te.refl (MP (st:=GW) (b:=b) (ds:=ds) (e1:=0) rfl rfl (by simp) rfl (F45_ok hs) ?_)
 rintro _ _ _ ⟨ds',rfl,rfl,rfl,rfl⟩
 refine(Te.P6 (o:=4) (e:=0) rfl).trans ?_
 rintro _ _ ⟨rfl,rfl⟩
 refine(Te.to 5 ⟨[(4,Pz 1),(5,Pz 2)],[xb ((bN v).map C.d),xb Ox,xb (((fx b).map C.d).set 25 (.own 4 0 0 (ds'.map DP.r).length XG)),XC (.arr 0 36 (rowsOf ds)),XC (.arr 0 36 ((ds'.map DP.p).map bT))]⟩ ⟨rfl,rfl,trivial⟩ rfl rfl rfl rfl).trans ?_
 rintro _ _ ⟨rfl,rfl⟩
 rw[show(ds'.map DP.r).length=(ds'.map DP.p).length by simp]
 clear hs
 generalize ds'.map DP.p=ps
 refine(Te.view (s':=⟨[(4,Pz 0),(5,Pz 1)],[xb Ox,xb ((iZ (KU b ps)).map C.d)]⟩) (eV [XC 1,XC 2] (by simp only[ZZ.down,XU,reduceCtorEq,XW,XS,XX,XV,EE.down,Ox,fx,iZ,KU,XH,XM,XL,XK]) (by simp only[ZZ.down,XU,reduceCtorEq,XW,XS,XX,XV,EE.down,Ox,fx,iZ,KU,XH,XM,XL,XK]) (by simp only[ZZ.down,XU,reduceCtorEq,XW,XS,XX,XV,EE.down,Ox,fx,iZ,KU,XH,XM,XL,XK]))).trans ?_
 rintro _ _ ⟨rfl,rfl⟩
 refine Te.refl (VE.dV (F10z_ok (mm:=⟨KU b ps⟩) rfl) (fun s hs=>?_) xN gr)
 subst hs
 refine VE.ret ⟨by simp,rfl,rfl,by simp⟩
end
def OB(b:aj)(ps:List af)(v:aN):RE:=fun ex s l=>ex= .normal∧∃(ds':List DP) (e':Nat),ds'.map DP.p=ps∧B9 (nE e' b (ds'.map DP.r) v).aO s.aO∧s.heap=(nE e' b (ds'.map DP.r) v).heap∧l=cG ds'
section
variable {B:pr} {b0 b:aj} {ds:List DP} {v:aN} {e1:Nat} {ps:List af}
theorem PX(hl:ds.length≤4294967290)(h:if v.bY=8 then b=b0∧ng b0 (ds.map DP.p) ps else b=b0∧ps=ds.map DP.p):VE X0 86 0 B L9 (OB b ps v) (uL e1 b0 (ds.map DP.r) v v.bY) (cG ds):=by
 refine VE.dV (F10t8_ok (e1:=e1) (b0:=b0) (pods:=ds.map DP.r) (v:=v) (kd:=v.bY) rfl) (fun s hs=>?_) xN gr
 subst hs
 refine VE.cond (t:=decide (v.bY=8)) rfl (fun ht=>?_) fun ht=>?_
 ·rw[if_pos (of_decide_eq_true ht)]at h
  obtain⟨rfl,h⟩:=h
  refine VE.tell (Te.to 4 (nE 0 b (ds.map DP.r) v) ⟨rfl,rfl,rfl,trivial⟩ rfl rfl rfl rfl) ?_
  rintro _ _ ⟨rfl,rfl⟩
  refine VE.ws (SE.append (SE.pc (F10cr_ok (e1:=0) (b0:=b) (pods:=ds.map DP.r) (v:=v) rfl) fun s hs=>?_))
  subst hs
  refine Te.refl (zC (st:=Ms) (b:=b) (ds:=ds) (e1:=0) rfl rfl (by simp) rfl (F44_ok hl h) fun ds' e' hd=>?_)
  exact Te.refl ⟨rfl,ds',e',hd,⟨rfl,rfl,rfl,trivial⟩,rfl,rfl⟩
 ·rw[if_neg (of_decide_eq_false ht)]at h
  obtain⟨rfl,rfl⟩:=h
  exact VE.skip ⟨rfl,ds,0,rfl,⟨rfl,rfl,rfl,trivial⟩,rfl,rfl⟩
theorem PY(hl:ds.length≤4294967290)(h:if v.bY=7 then b=ir b0 (if v.N<0 then 0 else v.N)∧jZ (ir b0 (if v.N<0 then 0 else v.N)) (ds.map DP.p) ps else if v.bY=8 then b=b0∧ng b0 (ds.map DP.p) ps else b=b0∧ps=ds.map DP.p):VE X0 86 0 B Ma (OB b ps v) (uL e1 b0 (ds.map DP.r) v v.bY) (cG ds):=by
 refine VE.dV (F10t7_ok (e1:=e1) (b0:=b0) (pods:=ds.map DP.r) (v:=v) (kd:=v.bY) rfl) (fun s hs=>?_) xN gr
 subst hs
 refine VE.cond (t:=decide (v.bY=7)) rfl (fun ht=>?_) fun ht=>?_
 ·rw[if_pos (of_decide_eq_true ht)]at h
  obtain⟨rfl,h⟩:=h
  refine VE.tell (Te.to 4 (nE 0 b0 (ds.map DP.r) v) ⟨rfl,rfl,rfl,trivial⟩ rfl rfl rfl rfl) ?_
  rintro _ _ ⟨rfl,rfl⟩
  refine VE.ws (SE.append (SE.pc (F10re_ok (e1:=0) (b0:=b0) (pods:=ds.map DP.r) (v:=v) rfl) fun s hs=>?_))
  subst hs
  refine Te.refl (zC (st:=Mp) (b:=b0) (ds:=ds) (e1:=0) rfl rfl (by simp[A1.gz,C.gz]) rfl (F43_ok h) fun ds' e' hd=>?_)
  exact Te.refl ⟨rfl,ds',e',hd,⟨rfl,rfl,rfl,trivial⟩,rfl,rfl⟩
 ·rw[if_neg (of_decide_eq_false ht)]at h
  refine VE.tell (Te.to 4 (uL 0 b0 (ds.map DP.r) v v.bY) ⟨rfl,rfl,rfl,rfl,trivial⟩ rfl rfl rfl rfl) ?_
  rintro _ _ ⟨rfl,rfl⟩
  exact PX hl h
theorem PZ(hl:ds.length≤4294967290)(h:if v.bY=6 then∃il,(∀es:List DP,es.map DP.p=ds.map DP.p→F42 v.aP v.N (mR b0 (es.map DP.r))=XC il)∧b=xe b0 il∧ps=ds.map DP.p
 else if v.bY=7 then b=ir b0 (if v.N<0 then 0 else v.N)∧jZ (ir b0 (if v.N<0 then 0 else v.N)) (ds.map DP.p) ps else if v.bY=8 then b=b0∧ng b0 (ds.map DP.p) ps else b=b0∧ps=ds.map DP.p):VE X0 86 0 B Mb (OB b ps v) (uL e1 b0 (ds.map DP.r) v v.bY) (cG ds):=by
 refine VE.dV (F10t6_ok (e1:=e1) (b0:=b0) (pods:=ds.map DP.r) (v:=v) (kd:=v.bY) rfl) (fun s hs=>?_) xN gr
 subst hs
 refine VE.cond (t:=decide (v.bY=6)) rfl (fun ht=>?_) fun ht=>?_
 ·rw[if_pos (of_decide_eq_true ht)]at h
  obtain⟨il,hi,rfl,rfl⟩:=h
  refine VE.tell (Te.to 4 (nE 0 b0 (ds.map DP.r) v) ⟨rfl,rfl,rfl,trivial⟩ rfl rfl rfl rfl) ?_
  rintro _ _ ⟨rfl,rfl⟩
  refine VE.pc (F10pu_ok (e1:=0) (b0:=b0) (pods:=ds.map DP.r) (v:=v) (r:=il) ((congrArg (XF · _) (hi ds rfl)).trans rfl)) (fun s hs=>?_) xN gr
  subst hs
  refine(Te.view (s':=nE 0 (xe b0 il) (ds.map DP.r) v) (eV i4 (by simp only[ZZ.down,XU,reduceCtorEq,XW,XS,XX,XV,EE.down,nE,xe]) (by simp only[ZZ.down,XU,reduceCtorEq,XW,XS,XX,XV,EE.down,nE,xe]) (by simp only[ZZ.down,XU,reduceCtorEq,XW,XS,XX,XV,EE.down,nE,xe]))).trans ?_
  rintro _ _ ⟨rfl,rfl⟩
  exact Te.refl ⟨rfl,ds,0,rfl,⟨rfl,rfl,rfl,trivial⟩,rfl,rfl⟩
 ·rw[if_neg (of_decide_eq_false ht)]at h
  refine VE.tell (Te.to 4 (uL 0 b0 (ds.map DP.r) v v.bY) ⟨rfl,rfl,rfl,rfl,trivial⟩ rfl rfl rfl rfl) ?_
  rintro _ _ ⟨rfl,rfl⟩
  exact PY hl h
theorem P0(hl:ds.length≤4294967290)(h:if v.bY=4∨v.bY=5 then b=b0∧atR b0 (ds.map DP.p) v ps else if v.bY=6 then∃il,(∀es:List DP,es.map DP.p=ds.map DP.p→F42 v.aP v.N (mR b0 (es.map DP.r))=XC il)∧b=xe b0 il∧ps=ds.map DP.p
 else if v.bY=7 then b=ir b0 (if v.N<0 then 0 else v.N)∧jZ (ir b0 (if v.N<0 then 0 else v.N)) (ds.map DP.p) ps else if v.bY=8 then b=b0∧ng b0 (ds.map DP.p) ps else b=b0∧ps=ds.map DP.p):VE X0 86 0 B Mc (OB b ps v) (uL e1 b0 (ds.map DP.r) v v.bY) (cG ds):=by
 refine VE.dV (F10t45_ok (e1:=e1) (b0:=b0) (pods:=ds.map DP.r) (v:=v) (kd:=v.bY) (r:=decide (v.bY=4∨v.bY=5)) (by unfold F10t45;by_cases h4:v.bY=4<;>simp[h4])) (fun s hs=>?_) xN gr
 subst hs
 refine VE.cond (t:=decide (v.bY=4∨v.bY=5)) rfl (fun ht=>?_) fun ht=>?_
 ·rw[if_pos (of_decide_eq_true ht)]at h
  obtain⟨rfl,h⟩:=h
  refine VE.tell (Te.to 4 (nE 0 b (ds.map DP.r) v) ⟨rfl,rfl,rfl,trivial⟩ rfl rfl rfl rfl) ?_
  rintro _ _ ⟨rfl,rfl⟩
  refine VE.ws (SE.append (SE.pc (F10at_ok (e1:=0) (b0:=b) (pods:=ds.map DP.r) (v:=v) rfl) fun s hs=>?_))
  subst hs
  refine Te.refl (zC (st:=Mo) (b:=b) (ds:=ds) (e1:=0) rfl rfl (by simp[A1.gz,C.gz,bN]) rfl (F41_ok h) fun ds' e' hd=>?_)
  exact Te.refl ⟨rfl,ds',e',hd,⟨rfl,rfl,rfl,trivial⟩,rfl,rfl⟩
 ·rw[if_neg (of_decide_eq_false ht)]at h
  refine VE.tell (Te.to 4 (uL 0 b0 (ds.map DP.r) v v.bY) ⟨rfl,rfl,rfl,rfl,trivial⟩ rfl rfl rfl rfl) ?_
  rintro _ _ ⟨rfl,rfl⟩
  exact PZ hl h
theorem P1(hl:ds.length≤4294967290)(h:O2 b0 (ds.map DP.p) v b ps):VE X0 86 0 B Md (OB b ps v) (uL e1 b0 (ds.map DP.r) v v.bY) (cG ds):=by
 unfold O2 at h
 refine VE.dV (F10t1_ok (e1:=e1) (b0:=b0) (pods:=ds.map DP.r) (v:=v) (kd:=v.bY) rfl) (fun s hs=>?_) xN gr
 subst hs
 refine VE.cond (t:=decide (v.bY=1)) rfl (fun ht=>?_) fun ht=>?_
 ·rw[if_pos (of_decide_eq_true ht)]at h
  obtain⟨⟨t,ht⟩,rfl,rfl⟩:=h
  refine VE.tell (Te.to 4 (nE 0 b0 (ds.map DP.r) v) ⟨rfl,rfl,rfl,trivial⟩ rfl rfl rfl rfl) ?_
  rintro _ _ ⟨rfl,rfl⟩
  refine VE.pc (F10tick_ok (e1:=0) (b0:=b0) (pods:=ds.map DP.r) (v:=v) (r:=BL b0.ah.cl v.N) (by unfold F10tick;rw[ht];rfl)) (fun s hs=>?_) xN gr
  subst hs
  exact Te.refl ⟨rfl,ds,0,rfl,⟨rfl,rfl,rfl,trivial⟩,rfl,rfl⟩
 ·rw[if_neg (of_decide_eq_false ht)]at h
  refine VE.tell (Te.to 4 (uL 0 b0 (ds.map DP.r) v v.bY) ⟨rfl,rfl,rfl,rfl,trivial⟩ rfl rfl rfl rfl) ?_
  rintro _ _ ⟨rfl,rfl⟩
  refine VE.dV (F10t2_ok (e1:=0) (b0:=b0) (pods:=ds.map DP.r) (v:=v) (kd:=v.bY) rfl) (fun s hs=>?_) xN gr
  subst hs
  refine VE.cond (t:=decide (v.bY=2)) rfl (fun ht=>?_) fun ht=>?_
  ·rw[if_pos (of_decide_eq_true ht)]at h
   refine VE.tell (Te.to 4 (nE 0 b0 (ds.map DP.r) v) ⟨rfl,rfl,rfl,trivial⟩ rfl rfl rfl rfl) ?_
   rintro _ _ ⟨rfl,rfl⟩
   refine VE.ws (SE.append (SE.pc (F10as_ok (e1:=0) (b0:=b0) (pods:=ds.map DP.r) (v:=v) rfl) fun s hs=>?_))
   subst hs
   refine Te.refl (zC (st:=Mt) (b:=b0) (ds:=ds) (e1:=0) rfl rfl (by simp[A1.gz,C.gz,wu]) rfl (F38_ok h) fun ds' e' hd=>?_)
   exact Te.refl ⟨rfl,ds',e',hd,⟨rfl,rfl,rfl,trivial⟩,rfl,rfl⟩
  ·rw[if_neg (of_decide_eq_false ht)]at h
   refine VE.tell (Te.to 4 (uL 0 b0 (ds.map DP.r) v v.bY) ⟨rfl,rfl,rfl,rfl,trivial⟩ rfl rfl rfl rfl) ?_
   rintro _ _ ⟨rfl,rfl⟩
   refine VE.dV (F10t3_ok (e1:=0) (b0:=b0) (pods:=ds.map DP.r) (v:=v) (kd:=v.bY) rfl) (fun s hs=>?_) xN gr
   subst hs
   refine VE.cond (t:=decide (v.bY=3)) rfl (fun ht=>?_) fun ht=>?_
   ·rw[if_pos (of_decide_eq_true ht)]at h
    obtain⟨rfl,k,ok,hf,h⟩:=h
    refine VE.tell (Te.to 4 (nE 0 b (ds.map DP.r) v) ⟨rfl,rfl,rfl,trivial⟩ rfl rfl rfl rfl) ?_
    rintro _ _ ⟨rfl,rfl⟩
    refine VE.dV (F10rf_ok (e1:=0) (b0:=b) (pods:=ds.map DP.r) (v:=v) (r:=(k,ok)) ((congrArg (XF · _) (hf ds rfl)).trans rfl)) (fun s hs=>?_) xN gr
    subst hs
    refine VE.dV (F10rg_ok (e1:=0) (b0:=b) (pods:=ds.map DP.r) (v:=v) (k:=k) (ok:=ok) rfl) (fun s hs=>?_) xN gr
    subst hs
    refine VE.cond (t:=ok) rfl (fun ht=>?_) fun ht=>?_
    ·rcases h with⟨_,h⟩|⟨rfl,_⟩
     ·obtain⟨A,d,C,rfl,rfl,hdl⟩:=IL hl h
      refine VE.tell (Te.to 4 ⟨[(3,Pz 0),(4,Pz 1),(5,Pz 2),(6,oI k)],(nE 0 b ((A++d::C).map DP.r) v).heap⟩ ⟨rfl,rfl,rfl,rfl,trivial⟩ rfl rfl rfl rfl) ?_
      rintro _ _ ⟨rfl,rfl⟩
      refine VE.pc (F10rd_ok (e1:=0) (b0:=b) (pods:=(A++d::C).map DP.r) (v:=v) (k:=k) (r:=(A++C).map DP.r) ((congrArg (XF · _) hdl).trans rfl)) (fun s hs=>?_) xN gr
      subst hs
      rw[fS]
      refine(Te.N1 (cG A) (cG C)).trans ?_
      rintro _ _ ⟨rfl,rfl⟩
      exact Te.refl ⟨rfl,A++C,0,rfl,⟨rfl,rfl,rfl,trivial⟩,rfl,(kG A C).symm⟩
     ·cases ht
    ·rcases h with⟨rfl,_⟩|⟨_,rfl⟩
     ·cases ht
     ·exact VE.skip ⟨rfl,ds,0,rfl,⟨rfl,rfl,rfl,trivial⟩,rfl,rfl⟩
   ·rw[if_neg (of_decide_eq_false ht)]at h
    refine VE.tell (Te.to 4 (uL 0 b0 (ds.map DP.r) v v.bY) ⟨rfl,rfl,rfl,rfl,trivial⟩ rfl rfl rfl rfl) ?_
    rintro _ _ ⟨rfl,rfl⟩
    exact P0 hl h
end
theorem GV{a r:ah}{v:aN}(h:Mf a v r):aW X0 10 [.agg ((iZ a).map C.d),.agg ((bN v).map C.d)] [] (bJ [.agg ((iZ r).map C.d)]) []:=by
 refine aW.Q6 (H':=[xb ((iZ r).map C.d)]) (jI.I0 (iJ a10_ok (by simp[a10]) fun B=>?_)) (by simp[A1.gz,C.gz,iZ])
 obtain⟨hA,b,ps,q,h1,h2,rfl⟩:=h
 refine VE.dV (F10a_ok (a:=a) (v:=v) rfl) (fun s hs=>?_) xN gr
 subst hs
 refine VE.seq (VE.ws (SE.append (SE.pc (F10b_ok (a:=a) (v:=v) rfl) fun s hs=>?_)))
 subst hs
 refine Te.refl (SE.append (SE.MQ (as':=[.agg ((iZ a).map C.d)]) (H:=[]) (st:=Mq) [] rfl rfl rfl rfl ⟨pb (by simp[A1.gz,C.gz,iZ]),trivial⟩ rfl (by decide) trivial (L6 hA) ?_))
 rintro _ _ _ ⟨ds,hds,rfl,rfl,rfl⟩
 refine Te.refl (SE.mv (st:=Mr) (d:=5) (d':=9) rfl rfl rfl rfl ?_)
 refine VE.tell (Te.to 4 (nE 0 (lh a) (ds.map DP.r) v) ⟨rfl,rfl,rfl,trivial⟩ rfl rfl rfl rfl) ?_
 rintro _ _ ⟨rfl,rfl⟩
 have hl:ds.length≤4294967290:=by have:=hA.2.1;rw[←hds,XI]at this;exact this
 rw[←hds]at h1
 refine VE.seq (VE.seq (VE.pc (F10k_ok (e1:=0) (b0:=lh a) (pods:=ds.map DP.r) (v:=v) rfl) (fun s hs=>?_) xN gr))
 subst hs
 refine Te.refl (VE.block (VE.post (P1 (e1:=0) hl h1) ?_))
 rintro ex ⟨sl,hh⟩ l' ⟨rfl,ds',e',rfl,hsl,hh',rfl⟩
 subst hh'
 refine(Te.to 4 (nE e' b (ds'.map DP.r) v) hsl rfl rfl rfl rfl).trans ?_
 rintro _ _ ⟨rfl,rfl⟩
 refine Te.refl ?_
 exact VE.post (K2 h2) fun ex s l hx=>Te.refl hx
def fy(x:af):au:=oV x (.bool XZ) (.bool XZ) (.bool XZ)
def mT(b:aj)(ps:List af):gM:=mR b (ps.map fy)
def Gq(b:aj)(ps:List af)(i:Int)(v:an):Option (aj×List af):=(F117 (mT b ps)).bind fun c=>(F30075e 0 b [] i v c.1 c.2).bind fun t=>(lL ps i (r7 b v t)).bind fun r=>XC (yu b t.1,r)
def L2(b:aj)(ps:List af)(v:an):Option (aj×List af):=(F74 v.ak).bind fun w=>(F39 w (mT b ps)).bind fun t=>
 if t.2=XZ then(cI ps t.1).bind fun x=>(BM b v x).bind fun y=>XC (b,ps.set t.1.toNat y)else if zL b v ps.length=XZ then Gq b ps t.1 v else XC (b,ps)
def NZ(b:aj)(ps:List af)(key:ByteArray):Option (List af):=(F39 key (mT b ps)).bind fun t=>if t.2=XZ then oz ps t.1 (IntKind.i64.wrap (t.1+1))else XC ps
def Pv(b:aj)(ps:List af)(v:aN):Option (List af):=(F39 v.aV (mT b ps)).bind fun t=>
 if t.2=XZ then(cI ps t.1).bind fun x=>(F62 x).bind fun f=>if f=XZ then XC ps else(nu x v.aP).bind fun j=>(F30041f 0 b [] v j x).bind fun q=>XC (ps.set t.1.toNat (KT x q))else XC ps
def qq(b:aj):List af→Option (List af)
 |[]=>XC []
 |x::l=>(F30044f 0 b [] 0 0 x).bind fun q=>(qq b l).bind fun r=>XC (Gs x q::r)
def vm(b:aj):List ByteArray→List af→Option (List af)
 |[],ps=>XC ps
 |w::ks,ps=>(F39 w (mT b ps)).bind fun t=>(cI ps t.1).bind fun x=>(F30043f 0 b [] [] 0 x).bind fun q=>vm b ks (ps.set t.1.toNat (pZ b x q))
def HL(b:aj)(ps:List af):Option (List af):=if b.ah.bW≤b.ah.Node.aJ.aG then XC ps else
 (F43e 0 b (ps.map fy)).bind fun lu=>(F84 lu.1 lu.2 b.ah.bW b.ah.Node.aJ.aG).bind fun ks=>(ck (ks.length≤4294967290)).bind fun _=>vm b ks ps
def NU(b0:aj)(ps:List af)(v:aN):Option (aj×List af):=
 if v.bY=1 then XC (Le b0 (BL b0.ah.cl v.N),ps)
 else if v.bY=2 then L2 b0 ps v.an
 else if v.bY=3 then(NZ b0 ps v.aV).bind fun r=>XC (b0,r)
 else if v.bY=4∨v.bY=5 then(Pv b0 ps v).bind fun r=>XC (b0,r)
 else if v.bY=6 then(F42 v.aP v.N (mT b0 ps)).bind fun il=>XC (xe b0 il,ps)
 else if v.bY=7 then(HL (ir b0 (if v.N<0 then 0 else v.N)) ps).bind fun r=>XC (ir b0 (if v.N<0 then 0 else v.N),r)
 else if v.bY=8 then(qq b0 ps).bind fun r=>XC (b0,r)
 else XC (b0,ps)
instance(x:af):Decidable (AM x):=inferInstanceAs (Decidable (_∧_))
instance(a:ah):Decidable (pn a):=inferInstanceAs (Decidable (_∧_))
def F10(a:ah)(v:aN):Option ah:=(ck (pn a)).bind fun _=>(NU (lh a) a.bq v).bind fun t=>(F45 t.1 t.2).bind fun q=>XC (KU t.1 q)
def Gt(y:au):au:=⟨⟨y.an.ak,y.an.Spec,⟨y.an.ae.bC,y.an.ae.bd,y.an.ae.bf,y.an.ae.Started,y.an.ae.bu,.bool XZ,y.an.ae.bS,y.an.ae.bg,y.an.ae.b7⟩⟩,.bool XZ,.bool XZ,y.bh,y.bK⟩
def Gg(y:gZ):gZ:=⟨y.ak,y.Spec,⟨y.ae.bC,y.ae.bd,y.ae.bf,y.ae.Started,y.ae.bu,.bool XZ,y.ae.bS,y.ae.bg,y.ae.b7⟩⟩
theorem zy{es:List DP}{ps:List af}(h:es.map DP.p=ps):(es.map DP.r).map Gt=ps.map fy:=by
 subst h;rw[XR,XR];rfl
theorem EA{α β:Type}(f:α→β)(l:List α)(i:Int):cI (l.map f) i=(cI l i).map f:=by
 unfold cI;split<;>simp
theorem F76_l1_cor(xs:List au)(w:ByteArray):∀(k:Nat) (i j:Int),F76_l1 (xs.map Gt) w k i j=F76_l1 xs w k i j:=by
 intro k
 induction k with
 |zero=>intro i j;rfl
 |succ k ih=>
  intro i j
  unfold F76_l1
  simp only[EA,ih]
  split
  ·cases cI xs _<;>rfl
  ·rfl
theorem F39_cor(b:aj)(xs:List au)(w:ByteArray):F39 w (mR b (xs.map Gt))=F39 w (mR b xs):=by
 show(F76 (xs.map Gt) w).bind _=(F76 xs w).bind _
 unfold F76
 simp only[F76_l1_cor,XI,EA]
 congr 1
 refine congrArg _ (funext fun o=>?_)
 congr 1
 split
 ·cases cI xs o<;>rfl
 ·rfl
theorem uv{b:aj}{ps:List af}{w:ByteArray}{t:Int×Bool}(h:F39 w (mT b ps)=XC t):Bi b ps w t.1 t.2:=by
 intro es he
 rw[←F39_cor,zy he];exact h
theorem F117_l1_cor:∀(xs:List au) (j:Nat) (n:Int) (s:aD),F117_l1 (xs.map Gt) j n s=F117_l1 xs j n s
 |[],_,_,_=>rfl
 |x::xs,j,n,s=>by simp only[XH,F117_l1,Gt,F10062,F117_l1_cor xs]
theorem F117_cor(b:aj)(xs:List au):F117 (mR b (xs.map Gt))=F117 (mR b xs):=by
 simp only[F117,mR,F117_l1_cor,XI];rfl
theorem F42_l1_cor:∀(xs:List au) (j:Nat) (s:List ByteArray),F42_l1 (xs.map Gt) j s=F42_l1 xs j s
 |[],_,_=>rfl
 |x::xs,j,s=>by simp only[XH,F42_l1,Gt,F10062,F42_l1_cor xs]
theorem F42_cor(n:ByteArray)(z:Int)(b:aj)(xs:List au):F42 n z (mR b (xs.map Gt))=F42 n z (mR b xs):=by
 simp only[F42,mR,F42_l1_cor,XI];rfl
theorem L3{α β:Type}(f:α→β)(l r:List α):jz (l.map f) (r.map f)=(jz l r).map (List.map f):=by
 unfold jz;rw[←XJ,XI];split<;>rfl
theorem F43e_l1_cor:∀(xs:List au) (j:Nat) (a:List gZ) (u:List Int),F43e_l1 (xs.map Gt) j (a.map Gg) u=(F43e_l1 xs j a u).map fun t=>(t.1.map Gg,t.2)
 |[],_,_,_=>rfl
 |x::xs,j,a,u=>by
  have h1:=L3 Gg a [(⟨x.an.ak,x.an.Spec,⟨x.an.ae.bC,x.an.ae.bd,x.an.ae.bf,x.an.ae.Started,x.an.ae.bu,x.an.ae.ad,x.an.ae.bS,x.an.ae.bg,x.an.ae.b7⟩⟩:gZ)]
  have ih:=F43e_l1_cor xs
  simp only[XH,F43e_l1,Gt,F10062]
  rcases(if x.an.ae.bC=2 then XC XZ else XC (decide (x.an.ae.bC=3)))with _|f
  ·rfl
  ·simp only[XD]
   split
   ·refine(congrArg (XF · _) (congrArg (XF · _) h1)).trans ?_
    cases jz a _ with
    |none=>rfl
    |some a2=>
     simp only[Option.map_some,XD]
     cases F83 x.an.Spec with
     |none=>rfl
     |some t=>
      simp only[XD]
      cases jz u _ with
      |none=>rfl
      |some u2=>simp only[XD];exact ih _ a2 u2
   ·simp only[XD];exact ih _ a u
theorem F134_l1_cor(u:List Int):∀(xs:List gZ) (j:Nat) (s:List Entry),F134_l1 u (xs.map Gg) j s=F134_l1 u xs j s
 |[],_,_=>rfl
 |x::xs,j,s=>by simp only[XH,F134_l1,Gg,F134_l1_cor u xs]
theorem F84_cor(xs:List gZ)(u:List Int)(m l:Int):F84 (xs.map Gg) u m l=F84 xs u m l:=by
 unfold F84 F134;simp only[F134_l1_cor,XI]
theorem Nv{b:aj}{ps:List af}{lu:List gZ×List Int}{ks:List ByteArray}(h1:F43e 0 b (ps.map fy)=XC lu)(h2:F84 lu.1 lu.2 b.ah.bW b.ah.Node.aJ.aG=XC ks):OM b ps ks:=by
 intro es he
 rw[←zy he]at h1
 unfold F43e at h1⊢
 have:=F43e_l1_cor (es.map DP.r) 0 [] []
 rw[XM]at this
 rw[this,XI]at h1
 cases hc:ck (0≤(es.map DP.r).length∧(es.map DP.r).length≤4294967290)with
 |none=>rw[hc]at h1;cases h1
 |some _=>
  rw[hc]at h1
  rw[XD]at h1⊢
  cases hf:F43e_l1 (es.map DP.r) 0 [] []with
  |none=>rw[hf]at h1;cases h1
  |some t=>
   rw[hf]at h1
   cases h1
   rw[F84_cor]at h2
   exact⟨_,rfl,by unfold F43f;rw[h2];rfl⟩
section
variable (b:aj) (u:Value)
theorem zo(b:aj):(⟨⟨b.ah.Node,b.ah.cl,b.ah.bq,b.ah.aM,b.ah.bW,b.ah.bO,b.ah.b8⟩⟩:aj)=b:=rfl
theorem F79_P(i c:Int)(y:af):F79 i c (fB b u) y=F79 i c b y:=by unfold F79 F79i;rfl
theorem F86_l1_P(y:af)(i:Int):∀k a j,F86_l1 (fB b u) y i k a j=F86_l1 b y i k a j:=by
 intro k
 induction k with
 |zero=>intro a j;rfl
 |succ k ih=>intro a j;simp only[F86_l1,ih];rfl
theorem F86_P(i:Int)(y:af):F86 i (fB b u) y=F86 i b y:=by unfold F86 F86i;simp only[F86_l1_P]
theorem F85_l1_P(y:af):∀l k a r,F85_l1 (fB b u) y l k a r=F85_l1 b y l k a r:=by
 intro l
 induction l with
 |nil=>intro k a r;rfl
 |cons x l ih=>intro k a r;simp only[F85_l1,zo,F79_P,ih]
theorem F85_P(y:af):F85 (fB b u) y=F85 b y:=by unfold F85 F85i;simp only[F85_l1_P]
theorem F63_P(n:ByteArray):F63 n (fB b u)=F63 n b:=rfl
theorem F137_P(i:Int)(y:af):F137 i (fB b u) y=F137 i b y:=by unfold F137 F137i;simp only[zo,F86_P];rfl
theorem F138_P(i:Int)(y:af):F138 i (fB b u) y=F138 i b y:=by unfold F138;simp only[zo,F63_P];rfl
theorem F80_P(i k:Int)(p:Bool)(y:af):F80 i k p (fB b u) y=F80 i k p b y:=by unfold F80 F80i;simp only[zo,F79_P];rfl
theorem F89_l1_P(y:af):∀l k a r t,F89_l1 (fB b u) y l k a r t=F89_l1 b y l k a r t:=by
 intro l
 induction l with
 |nil=>intro k a r t;rfl
 |cons x l ih=>intro k a r t;simp only[F89_l1,zo,F63_P,F137_P,F138_P,ih]
theorem F89_P(y:af):F89 (fB b u) y=F89 b y:=by unfold F89 F89i;simp only[F89_l1_P];rfl
theorem F45e_P(y:af):F45e 0 (fB b u) [] [] 0 y=F45e 0 b [] [] 0 y:=by unfold F45e;simp only[zo,F85_P,F89_P];rfl
theorem F45_P:∀ps:List af,F45 (fB b u) ps=F45 b ps:=by
 have h:∀ps,je (fB b u) ps=je b ps:=by
  intro ps
  induction ps with
  |nil=>rfl
  |cons x ps ih=>simp only[je,oU,F45e_P,ih]
 intro ps;unfold F45;rw[h]
theorem F41_P(v:aN)(j:Int)(x:af):F30041f 0 (fB b u) [] v j x=F30041f 0 b [] v j x:=by unfold F30041f;simp only[zo,F79_P,F80_P]
theorem F43_P(x:af):F30043f 0 (fB b u) [] [] 0 x=F30043f 0 b [] [] 0 x:=by unfold F30043f;simp only[zo,F85_P]
theorem F44_l1_P(y:af):∀l k a,F30044f_l1 (fB b u) y l k a=F30044f_l1 b y l k a:=by
 intro l
 induction l with
 |nil=>intro k a;rfl
 |cons x l ih=>intro k a;simp only[F30044f_l1,zo,F86_P,ih]
theorem F44_P(x:af):F30044f 0 (fB b u) [] 0 0 x=F30044f 0 b [] 0 0 x:=by unfold F30044f;simp only[F44_l1_P]
end
theorem Bs{b:aj}:∀{ps r:List af},qq b ps=XC r→ng b ps r
 |[],r,h=>by cases h;rfl
 |x::ps,r,h=>by
  obtain⟨q,h1,h⟩:=bi h
  obtain⟨r2,h2,h⟩:=bi h
  cases h
  exact⟨q,r2,fun u=>(F44_P b u x).trans h1,Bs h2,rfl⟩
theorem Ev{b:aj}:∀{ks:List ByteArray} {ps r:List af},vm b ks ps=XC r→Lu b ks ps r
 |[],ps,r,h=>by cases h;rfl
 |w::ks,ps,r,h=>by
  obtain⟨t,h1,h⟩:=bi h
  obtain⟨x,h2,h⟩:=bi h
  obtain⟨q,h3,h⟩:=bi h
  exact⟨t.1,t.2,x,q,uv h1,h2,fun u=>(F43_P b u x).trans h3,Ev h⟩
theorem Nu{b:aj}{ps r:List af}(h:HL b ps=XC r):jZ b ps r:=by
 unfold HL at h
 unfold jZ
 split at h
 ·rename_i hc;rw[if_pos hc];cases h;rfl
 ·rename_i hc;rw[if_neg hc]
  obtain⟨lu,h1,h⟩:=bi h
  obtain⟨ks,h2,h⟩:=bi h
  obtain⟨_,h3,h⟩:=bi h
  exact⟨ks,Nv h1 h2,cr h3,Ev h⟩
theorem Pj{b:aj}{ps r:List af}{v:aN}(h:Pv b ps v=XC r):atR b ps v r:=by
 obtain⟨⟨k,ok⟩,h1,h⟩:=bi h
 refine⟨k,ok,uv h1,?_⟩
 cases ok with
 |false=>cases h;exact .inl ⟨rfl,rfl⟩
 |true=>
  obtain⟨x,h2,h⟩:=bi h
  obtain⟨f,h3,h⟩:=bi h
  refine .inr ⟨rfl,x,f,h2,h3,?_⟩
  cases f with
  |true=>cases h;exact .inl ⟨rfl,rfl⟩
  |false=>
   obtain⟨j,h4,h⟩:=bi h
   obtain⟨q,h5,h⟩:=bi h
   cases h
   exact .inr ⟨rfl,j,q,h4,fun u=>(F41_P b u v j x).trans h5,rfl⟩
theorem N7{b:aj}{ps:List af}{v:an}{t:aj×List af}(h:L2 b ps v=XC t):N6 b ps v t.1 t.2:=by
 obtain⟨w,h1,h⟩:=bi h
 obtain⟨⟨k,ok⟩,h2,h⟩:=bi h
 refine⟨w,k,ok,h1,uv h2,?_⟩
 cases ok with
 |true=>
  obtain⟨x,h3,h⟩:=bi h
  obtain⟨y,h4,h⟩:=bi h
  cases h
  exact .inl ⟨rfl,rfl,x,y,h3,h4,rfl⟩
 |false=>
  refine .inr ⟨rfl,?_⟩
  change (if zL b v ps.length=XZ then Gq b ps k v else XC (b,ps))=XC t at h
  split at h
  ·rename_i hg
   obtain⟨c,h3,h⟩:=bi h
   obtain⟨q,h4,h⟩:=bi h
   obtain⟨r,h5,h⟩:=bi h
   cases h
   exact .inl ⟨hg,c.1,c.2,q,fun es he=>by rw[←F117_cor,zy he];exact h3,h4,rfl,h5⟩
  ·rename_i hg
   cases h
   exact .inr ⟨by simpa using hg,rfl,rfl⟩
theorem O3{b0:aj}{ps:List af}{v:aN}{t:aj×List af}(h:NU b0 ps v=XC t):O2 b0 ps v t.1 t.2:=by
 unfold NU at h
 unfold O2
 split at h
 ·rename_i hc;rw[if_pos hc];cases h;exact⟨⟨_,rfl⟩,rfl,rfl⟩
 rename_i hc;rw[if_neg hc]
 split at h
 ·rename_i hc;rw[if_pos hc];exact N7 h
 rename_i hc;rw[if_neg hc]
 split at h
 ·rename_i hc;rw[if_pos hc]
  obtain⟨r,h',h2⟩:=bi h
  cases h2
  obtain⟨⟨k,ok⟩,h1,h⟩:=bi h'
  refine⟨rfl,k,ok,uv h1,?_⟩
  cases ok with
  |true=>exact .inl ⟨rfl,h⟩
  |false=>cases h;exact .inr ⟨rfl,rfl⟩
 rename_i hc;rw[if_neg hc]
 split at h
 ·rename_i hc;rw[if_pos hc]
  obtain⟨r,h',h2⟩:=bi h
  cases h2
  exact⟨rfl,Pj h'⟩
 rename_i hc;rw[if_neg hc]
 split at h
 ·rename_i hc;rw[if_pos hc]
  obtain⟨r,h',h2⟩:=bi h
  cases h2
  exact⟨r,fun es he=>by rw[←F42_cor,zy he];exact h',rfl,rfl⟩
 rename_i hc;rw[if_neg hc]
 split at h
 ·rename_i hc;rw[if_pos hc]
  obtain⟨r,h',h2⟩:=bi h
  cases h2
  exact⟨rfl,Nu h'⟩
 rename_i hc;rw[if_neg hc]
 split at h
 ·rename_i hc;rw[if_pos hc]
  obtain⟨r,h',h2⟩:=bi h
  cases h2
  exact⟨rfl,Bs h'⟩
 rename_i hc;rw[if_neg hc]
 cases h;exact⟨rfl,rfl⟩
theorem F10_some{a r:ah}{v:aN}(h:F10 a v=XC r):Mf a v r:=by
 obtain⟨_,h0,h⟩:=bi h
 obtain⟨t,h1,h⟩:=bi h
 obtain⟨q,h2,h⟩:=bi h
 cases h
 exact⟨cr h0,t.1,t.2,q,O3 h1,fun u=>(F45_P _ u _).trans h2,rfl⟩
theorem F10_ok{v}{a r:ah}(h:F10 a v=XC r):aW X0 10 [.agg ((iZ a).map C.d),.agg ((bN v).map C.d)] [] (bJ [.agg ((iZ r).map C.d)]) []:=GV (F10_some h)
def F8:Option (Bool):=(F9 ((⟨(⟨(⟨#[78,111,100,101]⟩:ByteArray),(⟨#[]⟩:ByteArray),(⟨#[110]⟩:ByteArray),0,0,0,0,XY,0,[],[],[],[]⟩:ak),(⟨1000,100,100⟩:aD),3,XY,[],XY,0,XY,XY,[]⟩:eC)) 100).bind fun t1=>(F27).bind fun t2=>(F10 ((⟨(⟨(⟨((⟨#[78,111,100,101]⟩:ByteArray)),((⟨#[]⟩:ByteArray)),((⟨#[110]⟩:ByteArray)),(0:Int),(0:Int),(0:Int),(0:Int),XY,(0:Int),([]),([]),([]),([])⟩:ak),(⟨(1000:Int),(100:Int),(100:Int)⟩:aD),(3:Int),XY,([]),XY,(0:Int),XY,XY,([])⟩:eC),0,[],t1,0,(if(100:Int)<0 then 0 else(100:Int)),1⟩:ah)) ((⟨2,0,(⟨#[]⟩:ByteArray),(⟨#[]⟩:ByteArray),XY,(⟨(⟨(⟨#[80,111,100]⟩:ByteArray),(⟨#[110,115]⟩:ByteArray),(⟨#[119,101,98]⟩:ByteArray),0,0,0,0,XY,0,[],[],[],[]⟩:ak),(⟨(⟨#[110]⟩:ByteArray),0,0,0,[(⟨(⟨#[109,97,105,110]⟩:ByteArray),(⟨#[118,49]⟩:ByteArray),(⟨100,50,0⟩:aD),(⟨0,0,0⟩:aD),[(⟨0,1,1,2⟩:Probe)],[],[]⟩:aP)],[],[],[],[],[]⟩:fw),(⟨0,XY,0,0,0,[],0,(⟨#[]⟩:ByteArray),(⟨#[]⟩:ByteArray)⟩:cK)⟩:an)⟩:aN))).bind fun t3=>(F24 t3).bind fun t4=>(F10 t3 ((⟨6,10,(⟨#[]⟩:ByteArray),(⟨#[118,49]⟩:ByteArray),XY,(⟨(⟨(⟨#[]⟩:ByteArray),(⟨#[]⟩:ByteArray),(⟨#[]⟩:ByteArray),0,0,0,0,XY,0,[],[],[],[]⟩:ak),(⟨(⟨#[]⟩:ByteArray),0,0,0,[],[],[],[],[],[]⟩:fw),(⟨0,XY,0,0,0,[],0,(⟨#[]⟩:ByteArray),(⟨#[]⟩:ByteArray)⟩:cK)⟩:an)⟩:aN))).bind fun t5=>(F28).bind fun t6=>(F10 t5 ((⟨5,1,(⟨#[80,111,100,47,110,115,47,119,101,98]⟩:ByteArray),(⟨#[109,97,105,110]⟩:ByteArray),XY,(⟨(⟨(⟨#[]⟩:ByteArray),(⟨#[]⟩:ByteArray),(⟨#[]⟩:ByteArray),0,0,0,0,XY,0,[],[],[],[]⟩:ak),(⟨(⟨#[]⟩:ByteArray),0,0,0,[],[],[],[],[],[]⟩:fw),(⟨0,XY,0,0,0,[],0,(⟨#[]⟩:ByteArray),(⟨#[]⟩:ByteArray)⟩:cK)⟩:an)⟩:aN))).bind fun t7=>(F28).bind fun t8=>(F10 t7 ((⟨5,1,(⟨#[80,111,100,47,110,115,47,119,101,98]⟩:ByteArray),(⟨#[109,97,105,110]⟩:ByteArray),XY,(⟨(⟨(⟨#[]⟩:ByteArray),(⟨#[]⟩:ByteArray),(⟨#[]⟩:ByteArray),0,0,0,0,XY,0,[],[],[],[]⟩:ak),(⟨(⟨#[]⟩:ByteArray),0,0,0,[],[],[],[],[],[]⟩:fw),(⟨0,XY,0,0,0,[],0,(⟨#[]⟩:ByteArray),(⟨#[]⟩:ByteArray)⟩:cK)⟩:an)⟩:aN))).bind fun t9=>(F10 t9 ((⟨1,10,(⟨#[]⟩:ByteArray),(⟨#[]⟩:ByteArray),XY,(⟨(⟨(⟨#[]⟩:ByteArray),(⟨#[]⟩:ByteArray),(⟨#[]⟩:ByteArray),0,0,0,0,XY,0,[],[],[],[]⟩:ak),(⟨(⟨#[]⟩:ByteArray),0,0,0,[],[],[],[],[],[]⟩:fw),(⟨0,XY,0,0,0,[],0,(⟨#[]⟩:ByteArray),(⟨#[]⟩:ByteArray)⟩:cK)⟩:an)⟩:aN))).bind fun t10=>(((if¬((t4.length:Int)=1)then XC XZ else(if¬((t5.bq.length:Int)=1)then XC XZ else(if¬((t9.bq.length:Int)=1)then XC XZ else XC (decide (¬((t10.bq.length:Int)=1))))))).bind fun o11=>(if o11=XZ then XC XY else(cI t5.bq 0).bind fun y16=>(cI t9.bq 0).bind fun y17=>(cI t10.bq 0).bind fun y18=>(((if¬((y16.an.ae.ad.length:Int)=1)then XC XZ else(if¬((y17.an.ae.ad.length:Int)=1)then XC XZ else XC (decide (¬((y18.an.ae.ad.length:Int)=1)))))).bind fun o19=>(if o19=XZ then XC XY else(F19 t5).bind fun t23=>(((cI t4 0).bind fun y25=>(if y25=(⟨#[118,49]⟩:ByteArray)then(if y16.an.ae.bC=1 then(if y16.an.ae.bd=XZ then(if y16.an.ae.bS=1 then(cI y17.an.ae.ad 0).bind fun y30=>(if y30.bH=2 then(if y30.bM=137 then(cI y18.an.ae.ad 0).bind fun y33=>(if y33.bH=1 then(if y33.bk=1 then XC (decide ((t23.2.2.2.length:Int)=1))else XC XY)else XC XY)else XC XY)else XC XY)else XC XY)else XC XY)else XC XY)else XC XY)).bind fun o24=>XC o24)))))
def a8:dG:=⟨148,[(.tmp 0)],
 (.seq (.reg [Qf 0 XY])
 (.seq (.reg [sq 12 (.build QJ [(0,1,(kS ⟨#[78,111,100,101]⟩)),(2,1,(kS ⟨#[110]⟩))]),
sq 13 (.build [dI 0,dI 0,dI 0] [(0,1,(kI 1000)),(1,1,(kI 100)),(2,1,(kI 100))]),
sq 14 (.build MV [(0,13,(.t 12)),(13,3,(.t 13)),(16,1,(kI 3))]),
sq 1 (.zbox MV),
su (.store 24 (.t 1) (.t 14))])
 (.seq (.reg [Qc 15 24 1,
sq 16 (.call 9 [(.t 15),(kI 100)]),
sq 17 (.call 27 []),
sq 18 (.build Ol [(0,1,(kI 2)),(5,32,(.t 17))]),
Ql 19 10 16 18,
sq 2 (.zbox zQ),
su (.store 30 (.t 2) (.t 19))])
 (.seq (.reg [Qc 20 30 2,
Qk 21 24 20,
Qa 3 21])
 (.seq (.reg [Qc 22 30 2,
sq 23 (.build Ol [(0,1,(kI 6)),(3,1,(kS ⟨#[118,49]⟩)),(1,1,(kI 10))]),
Ql 24 10 22 23,
sq 4 (.zbox zQ),
su (.store 30 (.t 4) (.t 24))])
 (.seq (.regd [Qc 25 30 4,
sq 26 (.call 28 []),
zn 27 (.call 10 [(.t 25),(.t 26)]) [0,1] [0,1],
zn 28 (.call 28 []) [0,1,2] [0,1,2],
zn 29 (.call 10 [(.t 27),(.t 28)]) [0,1,2,3] [0,1,2,3],
sq 5 (.zbox zQ),
⟨XG,XG,.store 30 (.t 5) (.t 29),[0,1,2,3,4,5],(.lone [])⟩])
 (.seq (.reg [Qc 30 30 5,
sq 31 (.build Ol [(0,1,(kI 1)),(1,1,(kI 10))]),
Ql 32 10 30 31,
sq 6 (.zbox zQ),
su (.store 30 (.t 6) (.t 32))])
 (.seq (.seq (.sem (.reg [Qa 33 3,
Qh 34 33,
sq 35 (.bin .neq (.t 34) (kI 1)),
Qa 36 35,
Qs 37 36 XY 25 4,
Qt 38 36 XY 37,
zg 39 36 XY (.len (.t 38)),
zg 40 36 XY (.bin .neq (.t 39) (kI 1)),
Qj 41 36 40,
Qa 42 41,
Qs 43 42 XY 25 5,
Qt 44 42 XY 43,
zg 45 42 XY (.len (.t 44)),
zg 46 42 XY (.bin .neq (.t 45) (kI 1)),
Qj 47 42 46,
Qa 48 47,
Qs 49 48 XY 25 6,
Qt 50 48 XY 49,
zg 51 48 XY (.len (.t 50)),
zg 52 48 XY (.bin .neq (.t 51) (kI 1)),
Qj 53 48 52]))
 (.cond (.t 53)
 (.seq (.reg [Qf 0 XY])
 .ret)
 .skip))
 (.seq (.regd [Qb 54 25 4,
sd 55 (.load XG (.t 54)) [0],
sd 56 (.indexA 36 (.t 55) (kI 0)) [0,1],
sd 57 (.fieldA 0 (.t 56)) [0,1,2],
sd 58 (.fieldA 23 (.t 57)) [0,1,2,3],
sd 59 (.load (XC 9) (.t 58)) [0,1,2,3,4],
Qb 60 25 5,
sd 61 (.load XG (.t 60)) [6],
sd 62 (.indexA 36 (.t 61) (kI 0)) [6,7],
sd 63 (.fieldA 0 (.t 62)) [6,7,8],
sd 64 (.fieldA 23 (.t 63)) [6,7,8,9],
sd 65 (.load (XC 9) (.t 64)) [6,7,8,9,10],
sq 7 (.zbox [dI 0,dB XY,dI 0,dI 0,dI 0,dN,dI 0,dS ⟨#[]⟩,dS ⟨#[]⟩]),
sq 8 (.zbox [dI 0,dB XY,dI 0,dI 0,dI 0,dN,dI 0,dS ⟨#[]⟩,dS ⟨#[]⟩]),
⟨XG,XG,.store 9 (.t 7) (.t 59),[0,1,2,3,4,5,12,13],(.lone [5,60,61,62,63,64])⟩,
⟨XG,XG,.store 9 (.t 8) (.t 65),[0,1,2,3,4,5,6,7,8,9,10,11,12,13,14],(.lone [])⟩])
 (.seq (.reg [Qb 66 25 6,
Qd 67 66,
sq 68 (.indexA 36 (.t 67) (kI 0)),
Qb 69 0 68,
Qb 70 23 69,
Qc 71 9 70,
sq 9 (.zbox [dI 0,dB XY,dI 0,dI 0,dI 0,dN,dI 0,dS ⟨#[]⟩,dS ⟨#[]⟩]),
su (.store 9 (.t 9) (.t 71))])
 (.seq (.seq (.sem (.reg [Qb 72 5 7,
Qd 73 72,
Qh 74 73,
sq 75 (.bin .neq (.t 74) (kI 1)),
Qa 76 75,
Qs 77 76 XY 5 8,
Qt 78 76 XY 77,
zg 79 76 XY (.len (.t 78)),
zg 80 76 XY (.bin .neq (.t 79) (kI 1)),
Qj 81 76 80,
Qa 82 81,
Qs 83 82 XY 5 9,
Qt 84 82 XY 83,
zg 85 82 XY (.len (.t 84)),
zg 86 82 XY (.bin .neq (.t 85) (kI 1)),
Qj 87 82 86]))
 (.cond (.t 87)
 (.seq (.reg [Qf 0 XY])
 .ret)
 .skip))
 (.seq (.reg [Qc 89 30 4,
Qk 90 19 89,
Qa 88 90,
Qo 91 88 0,
Qo 92 88 1,
sq 10 (.zbox MV),
su (.store 24 (.t 10) (.t 91)),
Qa 11 92])
 (.seq (.sem (.reg [Qa 93 3,
sq 94 (.indexA 1 (.t 93) (kI 0)),
Qd 95 94,
sq 96 (.bin .eql (.t 95) (kS ⟨#[118,49]⟩)),
Qa 97 96,
Qs 98 97 XZ 0 7,
Qt 99 97 XZ 98,
zg 100 97 XZ (.bin .eql (.t 99) (kI 1)),
Qi 101 97 100,
Qa 102 101,
Qs 103 102 XZ 1 7,
Qt 104 102 XZ 103,
Qi 105 102 104,
Qa 106 105,
Qs 107 106 XZ 6 7,
Qt 108 106 XZ 107,
zg 109 106 XZ (.bin .eql (.t 108) (kI 1)),
Qi 110 106 109,
Qa 111 110,
Qs 112 111 XZ 5 8,
Qt 113 111 XZ 112,
zg 114 111 XZ (.indexA 7 (.t 113) (kI 0)),
Qs 115 111 XZ 1 114,
Qt 116 111 XZ 115,
zg 117 111 XZ (.bin .eql (.t 116) (kI 2)),
Qi 118 111 117,
Qa 119 118,
Qs 120 119 XZ 5 8,
Qt 121 119 XZ 120,
zg 122 119 XZ (.indexA 7 (.t 121) (kI 0)),
Qs 123 119 XZ 3 122,
Qt 124 119 XZ 123,
zg 125 119 XZ (.bin .eql (.t 124) (kI 137)),
Qi 126 119 125,
Qa 127 126,
Qs 128 127 XZ 5 9,
Qt 129 127 XZ 128,
zg 130 127 XZ (.indexA 7 (.t 129) (kI 0)),
Qs 131 127 XZ 1 130,
Qt 132 127 XZ 131,
zg 133 127 XZ (.bin .eql (.t 132) (kI 1)),
Qi 134 127 133,
Qa 135 134,
Qs 136 135 XZ 5 9,
Qt 137 135 XZ 136,
zg 138 135 XZ (.indexA 7 (.t 137) (kI 0)),
Qs 139 135 XZ 2 138,
Qt 140 135 XZ 139,
zg 141 135 XZ (.bin .eql (.t 140) (kI 1)),
Qi 142 135 141,
Qa 143 142,
Qv 144 143 XZ 11,
zg 145 143 XZ (.len (.t 144)),
zg 146 143 XZ (.bin .eql (.t 145) (kI 1)),
Qi 147 143 146,
Qa 0 147]))
 .ret)))))))))))))⟩
theorem F8_ok{r}(h:F8=XC r):aW X0 8 [] [] (bJ [.c (dB r)]) []:=by
 rw[F8]at h
 refine zc a8 (by kernel_rfl) rfl (ww ?_)
 obtain⟨t1,ht1,h⟩:=bi h
 refine cN [] (F9_ok ht1) trivial (ww ?_)
 obtain⟨t2,ht2,h⟩:=bi h
 refine cN [] (F27_ok ht2) trivial (ww ?_)
 obtain⟨t3,ht3,h⟩:=bi h
 refine yc (as1:=[.agg [dS (((⟨#[78,111,100,101]⟩:ByteArray))),dS (((⟨#[]⟩:ByteArray))),dS (((⟨#[110]⟩:ByteArray))),dI ((0:Int)),dI ((0:Int)),dI ((0:Int)),dI ((0:Int)),dB XY,dI ((0:Int)),dM ((([])).map cR),dM ((([])).map cP),dM ((([])).map eS),dM ((([])).map bU),dI ((1000:Int)),dI ((100:Int)),dI ((100:Int)),dI ((3:Int)),dB XY,dM ((([])).map dP),dB XY,dI ((0:Int)),dB XY,dB XY,dM ((([])).map aR),dI 0,dM (([]:List af).map bT),dM (t1.map aR),dI 0,dI ((if(100:Int)<0 then 0 else(100:Int))),dI 1],.agg [dI 2,dI 0,dS ((⟨#[]⟩:ByteArray)),dS ((⟨#[]⟩:ByteArray)),dB XY,dS ((⟨#[80,111,100]⟩:ByteArray)),dS ((⟨#[110,115]⟩:ByteArray)),dS ((⟨#[119,101,98]⟩:ByteArray)),dI 0,dI 0,dI 0,dI 0,dB XY,dI 0,dM (([]:List Label).map cR),dM (([]:List mw).map cP),dM (([]:List ByteArray).map eS),dM (([]:List iV).map bU),dS ((⟨#[110]⟩:ByteArray)),dI 0,dI 0,dI 0,dM (([(⟨(⟨#[109,97,105,110]⟩:ByteArray),(⟨#[118,49]⟩:ByteArray),(⟨100,50,0⟩:aD),(⟨0,0,0⟩:aD),[(⟨0,1,1,2⟩:Probe)],[],[]⟩:aP)]).map bo),dM (([]:List dJ).map bV),dM (([]:List jA).map dv),dM (([]:List kF).map dY),dM (([]:List ig).map cV),dM (([]:List ic).map cU),dI 0,dB XY,dI 0,dI 0,dI 0,dM (([]:List ag).map aC),dI 0,dS ((⟨#[]⟩:ByteArray)),dS ((⟨#[]⟩:ByteArray))]]) [(1,.arr 1 3 []),(2,.arr 1 11 [])] [XC 0,XG,XG] [] (F10_ok ht3) ⟨?_,rfl,?_⟩ ?_ ?_ ?_ ?_ ?_ ?_ ?_ ?_
 ·simp only[ZZ.down,XU,reduceCtorEq,XW,XS,XX,XV,EE.down]
 ·simp only[ZZ.down,XU,reduceCtorEq,XW,XS,XX,XV,EE.down]
 ·simp only[ZZ.down,XU,reduceCtorEq,XW,XS,XX,XV,EE.down]
 ·rfl
 ·rfl
 ·simp[jf,A1.live,C.live]
 ·rfl
 ·decide
 ·exact trivial
 refine ww ?_
 obtain⟨t4,ht4,h⟩:=bi h
 refine cN [] (F24_ok ht4) trivial (ww ?_)
 obtain⟨t5,ht5,h⟩:=bi h
 refine cN [] (F10_ok ht5) trivial (ww ?_)
 obtain⟨t6,ht6,h⟩:=bi h
 refine cN [] (F28_ok ht6) trivial (ww ?_)
 obtain⟨t7,ht7,h⟩:=bi h
 refine cN [] (F10_ok ht7) trivial (ww ?_)
 obtain⟨t8,ht8,h⟩:=bi h
 refine cN [] (F28_ok ht8) trivial (ww ?_)
 obtain⟨t9,ht9,h⟩:=bi h
 refine cN [] (F10_ok ht9) trivial (ww ?_)
 refine iu (by simp[fE,gO,cH]) (ww ?_)
 obtain⟨t10,ht10,h⟩:=bi h
 refine cN [] (F10_ok ht10) trivial (ww ?_)
 obtain⟨o11,ho,h⟩:=bi h
 refine bD (fun s=>s=⟨[(3,oc (ow 0 0 t4)),(4,Pz 1),(5,Pz 2),(6,Pz 3),(53,oB o11)],[iS 0 t4,xb (dy t5),xb (dy t9),xb (dy t10)]⟩) ?_ ?_
 ·have h:=ho
  refine ww ?_
  refine bR h (fun g12 h=>ww ?_) (fun g12 h=>ww ?_)
  ·cases h
   exact eM [XC 4,XC 5,XC 6,XC 7] rfl
  refine bR h (fun g13 h=>ww ?_) (fun g13 h=>ww ?_)
  ·cases h
   exact eM [XC 4,XC 5,XC 6,XC 7] rfl
  refine bR h (fun g14 h=>ww ?_) (fun g14 h=>ww ?_)
  ·cases h
   exact eM [XC 4,XC 5,XC 6,XC 7] rfl
  cases h
  exact eM [XC 4,XC 5,XC 6,XC 7] rfl
 rintro _ rfl
 refine ww ?_
 refine ct h (fun c15 h=>ww ?_) (fun c15 h=>ww ?_)
 ·cases h
  exact eF []
 obtain⟨y16,hy16,h⟩:=bi h
 refine bI (enc:=bT) (xs:=t5.bq) rfl rfl hy16 rfl (ww ?_)
 obtain⟨y17,hy17,h⟩:=bi h
 refine bI (enc:=bT) (xs:=t9.bq) rfl rfl hy17 rfl (ww ?_)
 refine iu (by simp[fE,gO,cH]) (ww ?_)
 refine iu (by simp[fE,gO,cH]) (ww ?_)
 obtain⟨y18,hy18,h⟩:=bi h
 refine bI (enc:=bT) (xs:=t10.bq) rfl rfl hy18 rfl (ww ?_)
 obtain⟨o19,ho,h⟩:=bi h
 refine bD (fun s=>s=⟨[(3,oc (ow 0 0 t4)),(4,Pz 1),(7,Pz 2),(8,Pz 3),(9,Pz 4),(87,oB o19)],[iS 0 t4,xb (dy t5),xb (qy y16.an.ae),xb (qy y17.an.ae),xb (qy y18.an.ae)]⟩) ?_ ?_
 ·have h:=ho
  refine ww ?_
  refine bR h (fun g20 h=>ww ?_) (fun g20 h=>ww ?_)
  ·cases h
   exact eM [XC 0,XC 1,XC 4,XC 5,XC 6] rfl
  refine bR h (fun g21 h=>ww ?_) (fun g21 h=>ww ?_)
  ·cases h
   exact eM [XC 0,XC 1,XC 4,XC 5,XC 6] rfl
  cases h
  exact eM [XC 0,XC 1,XC 4,XC 5,XC 6] rfl
 rintro _ rfl
 refine ww ?_
 refine ct h (fun c22 h=>ww ?_) (fun c22 h=>ww ?_)
 ·cases h
  exact eF []
 obtain⟨t23,ht23,h⟩:=bi h
 refine cN [] (F19_ok ht23) trivial (ww ?_)
 obtain⟨o24,ho,h⟩:=bi h
 refine bD (fun s=>s=⟨[(0,oB o24)],[]⟩) ?_ ?_
 ·have h:=ho
  refine ww ?_
  obtain⟨y25,hy25,h⟩:=bi h
  refine tO (enc:=eS) (xs:=t4) rfl rfl rfl hy25 (ww ?_)
  refine cD.rd (aQ hy25).2.1 (ww ?_)
  refine bR h (fun g26 h=>ww ?_) (fun g26 h=>ww ?_)
  ·refine bR h (fun g27 h=>ww ?_) (fun g27 h=>ww ?_)
   ·refine dK h (fun g28 h=>ww ?_) (fun g28 h=>ww ?_)
    ·refine bR h (fun g29 h=>ww ?_) (fun g29 h=>ww ?_)
     ·obtain⟨y30,hy30,h⟩:=bi h
      refine bI (enc:=aC) (xs:=y17.an.ae.ad) rfl rfl hy30 rfl (ww ?_)
      refine bR h (fun g31 h=>ww ?_) (fun g31 h=>ww ?_)
      ·refine bI (enc:=aC) (xs:=y17.an.ae.ad) rfl rfl hy30 rfl (ww ?_)
       refine bR h (fun g32 h=>ww ?_) (fun g32 h=>ww ?_)
       ·obtain⟨y33,hy33,h⟩:=bi h
        refine bI (enc:=aC) (xs:=y18.an.ae.ad) rfl rfl hy33 rfl (ww ?_)
        refine bR h (fun g34 h=>ww ?_) (fun g34 h=>ww ?_)
        ·refine bI (enc:=aC) (xs:=y18.an.ae.ad) rfl rfl hy33 rfl (ww ?_)
         refine bR h (fun g35 h=>ww ?_) (fun g35 h=>ww ?_)
         ·cases h
          have qx:=q6 (bc hy16) (bc hy17) (bc hy18) (bc hy25) (bc hy30) (bc hy33)
          exact fI [] rfl
         cases h
         have qx:=q6 (bc hy16) (bc hy17) (bc hy18) (bc hy25) (bc hy30) (bc hy33)
         exact fI [] rfl
        cases h
        have qx:=q6 (bc hy16) (bc hy17) (bc hy18) (bc hy25) (bc hy30) (bc hy33)
        exact fI [] rfl
       cases h
       have qx:=q5 (bc hy16) (bc hy17) (bc hy18) (bc hy25) (bc hy30)
       exact fI [] rfl
      cases h
      have qx:=q5 (bc hy16) (bc hy17) (bc hy18) (bc hy25) (bc hy30)
      exact fI [] rfl
     cases h
     have qx:=q4 (bc hy16) (bc hy17) (bc hy18) (bc hy25)
     exact fI [] rfl
    cases h
    have qx:=q4 (bc hy16) (bc hy17) (bc hy18) (bc hy25)
    exact fI [] rfl
   cases h
   have qx:=q4 (bc hy16) (bc hy17) (bc hy18) (bc hy25)
   exact fI [] rfl
  cases h
  have qx:=q4 (bc hy16) (bc hy17) (bc hy18) (bc hy25)
  exact fI [] rfl
 rintro _ rfl
 refine ww ?_
 cases h
 exact eF []
end Go.Proofs.YtojbebejhgbfeaaGreat
