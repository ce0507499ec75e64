/- Each Go function as a function over typed data, and its walk. -/
import Derived.Test.YtojbebejhgbfeaaGreatW0
open List renaming getElem?_append_right->XC,length_map->XD,take_append_drop->XF,length_cons->XG,getElem?_append_left->XH,append_assoc->XI,getElem_cons_drop->XJ,nil_append->XK,map_append->XL,map_take->XM,map_drop->XN,map_cons->XO,length_append->XP,map_nil->XQ,getElem?_map->XR,cons_append->XS,getElem?_eq_some_iff->XU,map_map->XV,set_append_right->XW,length_nil->XX
open Option renaming some->XY,none->XZ,map_eq_some_iff->X0
open Nat renaming le_of_ble_eq_true->X1,ble->X2
open Go.IntKind renaming i64->X3
open Int renaming toNat_natCast->X4
namespace Go.Proofs.YtojbebejhgbfeaaGreat
open Go Go.Fw Go.Shelf
set_option maxRecDepth 100000
set_option maxHeartbeats 4000000
set_option linter.unusedSimpArgs false
set_option linter.unusedVariables false
structure DP where
 p:af
 u1:Value
 u2:Value
 u3:Value
def oV(x:af)(u1 u2 u3:Value):au:=⟨⟨x.an.ak,x.an.Spec,⟨x.an.ae.bC,x.an.ae.bd,x.an.ae.bf,x.an.ae.Started,x.an.ae.bu,u1,x.an.ae.bS,x.an.ae.bg,x.an.ae.b7⟩⟩,u2,u3,x.bh,x.bK⟩
def DP.r(d:DP):au:=oV d.p d.u1 d.u2 d.u3
def NY(x:af)(u:Value):Option AE:=XY (u,7,x.an.ae.ad.map aC)
def NX(x:af)(u:Value):Option AE:=XY (u,4,x.aK.map cu)
def NW(x:af)(u:Value):Option AE:=XY (u,2,x.aq.map fm)
def DP.en(d:DP):List (Option AE):=[NY d.p d.u1,NX d.p d.u2,NW d.p d.u3]
def cG(l:List DP):List (Option AE):=l.flatMap DP.en
theorem Fp(l:List DP):(cG l).length=3*l.length:=by
 induction l with
 |nil=>rfl
 |cons d l ih=>simp only[cG,List.flatMap_cons,XP,XG]at ih⊢;rw[ih];simp only[DP.en,XG,XX];omega
theorem kG(a b:List DP):cG (a++b)=cG a++cG b:=by simp[cG]
theorem fS(a b:List DP)(d:DP):cG (a++d::b)=cG a++(NY d.p d.u1::NX d.p d.u2::NW d.p d.u3::cG b):=by
 rw[kG];rfl
theorem Bb{α:Type}(A:List α)(x:α)(B:List α){n:Nat}(h:A.length=n):(A++x::B)[n]? =XY x:=by subst h;simp
theorem Ba{α:Type}(A:List α)(x y:α)(B:List α){n:Nat}(h:A.length=n):(A++x::y::B)[n+1]? =XY y:=by subst h;rw[XC (by omega)];simp
theorem A9{α:Type}(A:List α)(x y z:α)(B:List α){n:Nat}(h:A.length=n):(A++x::y::z::B)[n+2]? =XY z:=by subst h;rw[XC (by omega)];simp
theorem Cp{α:Type}(A:List α)(x x':α)(B:List α){n:Nat}(h:A.length=n):(A++x::B).set n x'=A++x'::B:=by subst h;simp
theorem Co{α:Type}(A:List α)(x y y':α)(B:List α){n:Nat}(h:A.length=n):(A++x::y::B).set (n+1) y'=A++x::y'::B:=by subst h;rw[XW _ _ (by omega)];simp
theorem Cm{α:Type}(A:List α)(x y z z':α)(B:List α){n:Nat}(h:A.length=n):(A++x::y::z::B).set (n+2) z'=A++x::y::z'::B:=by subst h;rw[XW _ _ (by omega)];simp
def QM:List (Option AE):=[XZ,XZ,XZ]
theorem Te.N1{n m:Nat}{B:pr}{s:St}(A C:List (Option AE)){x y z:Option AE}:Te n m B (fun s1 l1=>s1=s∧l1=A++C) s (A++(x::y::z::C)):=by
 refine Te.sub (fun i=>if i<A.length then i else i+3) (fun i j e e' _ _ h=>?_) fun i e hi=>?_
 ·split at h<;>split at h<;>omega
 ·split
  ·rename_i h;rw[XH h]at hi⊢;exact hi
  ·rename_i h
   rw[XC (by omega)]at hi
   rw[XC (by omega),show i+3-A.length=(i-A.length)+1+1+1 by omega]
   simpa using hi
def fB(b:aj)(u:Value):aj:=⟨⟨b.ah.Node,b.ah.cl,u,b.ah.aM,b.ah.bW,b.ah.bO,b.ah.b8⟩⟩
def rowsOf(ds:List DP):List (List D):=(ds.map DP.r).map aS
theorem nL{α:Type}{A:List α}{x:α}{B:List α}{n:Nat}(h:A.length=n):cI (A++x::B) (n:Int)=XY x:=by
 subst h;simp[cI]
theorem kA{n:Nat}(h:n<4294967297):X3.wrap ((n:Int)+1)=((n+1:Nat):Int):=cL (by omega)
theorem jx{id:Nat}{R:RE}{s:St}{l:List (Option AE)}(h:R .normal s l):qv id R (.exit id) s l:=by
 show(if id=id then R .normal s l else R (.exit id) s l)
 rw[if_pos rfl];exact h
theorem iw{i:Nat}{T:St→List (Option AE)→Prop}{R:RE}{s:St}{l:List (Option AE)}(h:R (.exit i) s l):tG T R (.exit i) s l:=h
theorem Pq{T:St→List (Option AE)→Prop}{R:RE}{s:St}{l:List (Option AE)}(h:R .ret s l):tG T R .ret s l:=h
theorem Pf{i:Nat}{R:RE}{s:St}{l:List (Option AE)}(h:R .ret s l):qv i R .ret s l:=h
def ny(x:af)(u1 u2 u3:Value):List C:=(aS (oV x u1 u2 u3)).map C.d
def CN(x:af)(i1 i2 i3:Nat):List C:=Hc (ny x (.bool true) (.bool true) (.bool true)) 28 32 33 (.own i1 0 0 x.an.ae.ad.length XZ) (.own i2 0 0 x.aK.length XZ) (.own i3 0 0 x.aq.length XZ)
def wK(x:af):List (Option bw):=[XY (.arr 0 7 (x.an.ae.ad.map aC)),XY (.arr 0 4 (x.aK.map cu)),XY (.arr 0 2 (x.aq.map fm))]
def IG(x:af)(u1 u2 u3:Value)(C:List (Option AE)):List (Option AE):=NY x u1::NX x u2::NW x u3::C
theorem j9(b:bw):∀l:List (Option bw),cH l l.length b=l++[XY b]
 |[]=>rfl
 |x::l=>congrArg (x::·) (j9 b l)
theorem Te.aO{n m:Nat}{B:pr}{s:St}{l:List (Option AE)}(sl:List (Nat×AV))(h:∀t av,lk sl t=XY av→lk s.aO t=XY av):Te n m B (fun s' l'=>s'=⟨sl,s.heap⟩∧l'=l) s l:=by
 intro φ F a w hs
 exact⟨_,l,φ,F,⟨rfl,rfl⟩,⟨⟨hs.rel.size,hs.rel.defers,hs.rel.rel,fun t av ht=>hs.rel.slot t av (h t av ht)⟩,hs.al,hs.gl⟩⟩
theorem bX.same{α:Type}{R:α→α→Prop}:∀{l:List α},(∀a∈l,R a a)→bX R l l
 |[],_=> .nil
 |a::l,h=> .cons (h a (List.mem_cons_self ..)) (bX.same fun b hb=>h b (List.mem_cons_of_mem _ hb))
theorem CQ{L:List (Value×Nat×Nat)}{rest:List A1}(h:∀a∈rest,a.gz=true):bX (tZ L) rest rest:=by
 refine bX.same fun a ha=>?_
 have:=h a ha
 cases a with
 |c x=>exact .inl ⟨rfl,this⟩
 |agg cs=>exact bX.same fun c hc=> .inl ⟨rfl,List.all_eq_true.1 this c hc⟩
theorem OV(x:af)(u1 u2 u3:Value)(i1 i2 i3:Nat):bX (pI [(u1,i1,(x.an.ae.ad.map aC).length),(u2,i2,(x.aK.map cu).length),(u3,i3,(x.aq.map fm).length)]) (ny x u1 u2 u3) (CN x i1 i2 i3):=by
 simp only[XD]
 simp only[ny,CN,Hc,aS,oV,XO,XQ,List.set_cons_succ,List.set_cons_zero]
 repeat(first|exact .nil|refine .cons (.inl ⟨rfl,rfl⟩) ?_|refine .cons (.inr ⟨_,_,_,rfl,rfl,by simp⟩) ?_)
section
variable {P:Program} {n m:Nat} {B:pr} {s:St} {A D:List (Option AE)} {x x':af} {u1 u2 u3:Value}
theorem SE.post{steps:List cq}{T T':St→List (Option AE)→Prop}{l:List (Option AE)}(h:SE P n m B steps T' s l)(h2:∀s l,T' s l→Te n m B T s l):SE P n m B steps T s l:=by
 intro ops mask Q rest0 os k g1 g2 g3 φ F a w hs hQ
 refine h ops mask Q rest0 os k g1 g2 g3 φ F a w hs fun a' w' s' l' φ' F' hT hs'=>?_
 obtain⟨s2,l2,φ2,F2,hT2,h6⟩:=h2 s' l' hT φ' F' a' w' hs'
 exact hQ a' w' s2 l2 φ2 F2 hT2 h6
theorem SE.MO{st:cq}{T:St→List (Option AE)→Prop}{f:FuncId}{os:List O}{rest:List A1}{res:AV}(hst:st.op= .call f os)(hg:st.guard=XZ)(he:xc s os=XY (.agg (ny x u1 u2 u3)::rest))(hr:∀a∈rest,a.gz=true)
 (hc:aW P f (.agg (CN x 0 1 2)::rest) (wK x) res (wK x')) (q1:x'.an.ae.ad.length=x.an.ae.ad.length) (q2:x'.aK.length=x.aK.length) (q3:x'.aq.length=x.aq.length) (hpl:res.plain=true)
 (hT:Te n m B T (s.apply st.dst ⟨XY res,[]⟩) (A++IG x' u1 u2 u3 D)):SE P n m B [st] T s (A++IG x u1 u2 u3 D):=by
 refine SE.post (T':=Te n m B T) ?_ fun _ _ h=>h
 refine SE.LY (i1:=A.length) (i2:=A.length+1) (i3:=A.length+2) (u1:=u1) (u2:=u2) (u3:=u3) hst hg he (.cons (show tZ _ (.agg _) (.agg _)from OV x u1 u2 u3 0 1 2) (CQ hr)) (Bb A _ _ rfl) (Ba A _ _ _ rfl) (A9 A _ _ _ _ rfl) (by omega) (by omega) (by omega) hc (by simp[q1]) (by simp[q2]) (by simp[q3]) hpl ?_
 unfold IG
 rw[Cp A _ _ _ rfl,Co A _ _ _ _ rfl,Cm A _ _ _ _ _ rfl]
 exact hT
theorem Pr{sl:List (Nat×AV)}{t:Nat}{a b:AV}{t':Nat}{av:AV}(h:lk ((t,a)::sl) t'=XY av):lk ((t,a)::(t,b)::sl) t'=XY av:=by
 simp only[iU]at h⊢
 split
 ·rename_i h1;rw[if_pos h1]at h;exact h
 ·rename_i h1;rw[if_neg h1]at h;exact h
theorem Te.N9{t:Nat}(hs:lk s.aO t=XY (.one (.agg (ny x u1 u2 u3)))):Te n m B (fun s' l'=>s'=⟨(t,.one (.agg (CN x s.heap.length (s.heap.length+1) (s.heap.length+2))))::s.aO,s.heap++wK x⟩∧l'=A++XZ::XZ::XZ::D) s (A++IG x u1 u2 u3 D):=by
 refine(Te.wZ (t:=t) (j:=28) (i:=A.length) (u:=u1) hs rfl (Bb A _ _ rfl)).trans ?_
 rintro _ _ ⟨rfl,rfl⟩
 rw[Cp A _ _ _ rfl,j9]
 refine(Te.wZ (t:=t) (cells:=(ny x u1 u2 u3).set 28 (.own s.heap.length 0 0 (x.an.ae.ad.map aC).length XZ)) (j:=32) (i:=A.length+1) (u:=u2) (by simp only[iU,if_true]) rfl (Ba A _ _ _ rfl)).trans ?_
 rintro _ _ ⟨rfl,rfl⟩
 rw[Co A _ _ _ _ rfl]
 simp only[j9]
 refine(Te.wZ (t:=t) (cells:=((ny x u1 u2 u3).set 28 (.own s.heap.length 0 0 (x.an.ae.ad.map aC).length XZ)).set 32 (.own (s.heap++[XY (bw.arr 0 7 (x.an.ae.ad.map aC))]).length 0 0 (x.aK.map cu).length XZ)) (j:=33) (i:=A.length+2) (u:=u3) (by simp only[iU,if_true]) rfl (A9 A _ _ _ _ rfl)).trans ?_
 rintro _ _ ⟨rfl,rfl⟩
 rw[Cm A _ _ _ _ _ rfl]
 simp only[j9]
 refine(Te.aO ((t,.one (.agg (CN x s.heap.length (s.heap.length+1) (s.heap.length+2))))::s.aO) (fun t' av h=>?_)).trans ?_
 ·simp only[iU]at h⊢
  split
  ·rename_i h1
   rw[if_pos h1]at h
   rw[←h]
   simp only[XD,XP,XG,XX]
   rfl
  ·rename_i h1;rw[if_neg h1]at h;exact h
 ·rintro _ _ ⟨rfl,rfl⟩
  refine Te.refl ⟨?_,rfl⟩
  simp[wK]
theorem Te.NR{t i1 i2 i3:Nat}(hs:lk s.aO t=XY (.one (.agg (CN x i1 i2 i3))))(h1:hp s.heap i1=XY (.arr 0 7 (x.an.ae.ad.map aC)))(h2:hp s.heap i2=XY (.arr 0 4 (x.aK.map cu)))(h3:hp s.heap i3=XY (.arr 0 2 (x.aq.map fm)))
 (n12:i1≠i2) (n13:i1≠i3) (n23:i2≠i3):Te n m B (fun s' l'=>∃v1 v2 v3,s'=⟨(t,.one (.agg (ny x v1 v2 v3)))::s.aO,cH (cH (cH s.heap i1 (.arr 1 7 [])) i2 (.arr 1 4 [])) i3 (.arr 1 2 [])⟩∧l'=A++IG x v1 v2 v3 D) s (A++XZ::XZ::XZ::D):=by
 refine(Te.wj (t:=t) (j:=28) (i:=A.length) (id:=i1) (e:=0) (sz:=7) (rows:=x.an.ae.ad.map aC) hs (by simp only[XD];rfl) h1 (Bb A _ _ rfl)).trans ?_
 rintro _ _ ⟨v1,rfl,rfl⟩
 rw[Cp A _ _ _ rfl]
 refine(Te.wj (t:=t) (cells:=(CN x i1 i2 i3).set 28 (.d (.w v1))) (j:=32) (i:=A.length+1) (id:=i2) (e:=0) (sz:=4) (rows:=x.aK.map cu) (by simp only[iU,if_true]) (by simp only[XD];rfl) (by rw[eQ,cn _ _ (Ne.symm n12)];exact h2) (Ba A _ _ _ rfl)).trans ?_
 rintro _ _ ⟨v2,rfl,rfl⟩
 rw[Co A _ _ _ _ rfl]
 refine(Te.wj (t:=t) (cells:=((CN x i1 i2 i3).set 28 (.d (.w v1))).set 32 (.d (.w v2))) (j:=33) (i:=A.length+2) (id:=i3) (e:=0) (sz:=2) (rows:=x.aq.map fm) (by simp only[iU,if_true]) (by simp only[XD];rfl) (by rw[eQ,cn _ _ (Ne.symm n23),eQ,cn _ _ (Ne.symm n13)];exact h3) (A9 A _ _ _ _ rfl)).trans ?_
 rintro _ _ ⟨v3,rfl,rfl⟩
 rw[Cm A _ _ _ _ _ rfl]
 refine(Te.aO ((t,.one (.agg (ny x v1 v2 v3)))::s.aO) (fun t' av h=>?_)).trans ?_
 ·simp only[iU]at h⊢
  split
  ·rename_i h1
   rw[if_pos h1]at h
   rw[←h];rfl
  ·rename_i h1;rw[if_neg h1]at h;exact h
 ·rintro _ _ ⟨rfl,rfl⟩
  exact Te.refl ⟨v1,v2,v3,rfl,rfl⟩
theorem VE.O9{R:RE}{steps:List cq}{st:cq}{Rn:St→Prop}{Q:XT→St→Prop}(h:sK P n m (.regd steps) [] (sM n m Rn Q) s){l:List (Option AE)}(hd:st.dst=XZ)(hall:∀j,j<steps.length→j∈st.fD)(hne:0<steps.length)
 (hT:∀s',Rn s'→Te n m B (SE P n m B [st] (R .normal)) s' l):VE P n m B (.regd (steps++[st])) R s l:=by
 refine VE.Pa hd hall hne (Ly h) fun s' hs=>?_
 rw[uX]at hs
 obtain⟨s2,hv,hR⟩:=hs
 refine(Te.view hv).trans ?_
 rintro _ _ ⟨rfl,rfl⟩
 exact hT _ hR
end
def Pl(a:dn)(u:Value):dn:=⟨a.Node,a.cl,u,a.aM,a.bW,a.bO,a.b8⟩
def QC(a:dn)(id e n:Nat):List C:=((EZ a).map C.d).set 25 (.own id e 0 n XZ)
theorem Te.to{n m:Nat}{B:pr}{s:St}{l:List (Option AE)}(k:Nat)(s':St)(hs:B9 s'.aO s.aO)(hh:s.heap.take k=s'.heap)(hm:X2 m k=true)(hb:(s.heap.take k).all (nO k)=true)(hb2:s'.aO.all (fun x=>x.2.below k)=true):Te n m B (fun s1 l1=>s1=s'∧l1=l) s l:=by
 refine(Te.aO s'.aO (ym hs)).trans ?_
 rintro _ _ ⟨rfl,rfl⟩
 refine(Te.view (View.drop (s:=⟨s'.aO,s.heap⟩) k (X1 hm) hb hb2)).trans ?_
 rintro _ _ ⟨rfl,rfl⟩
 refine Te.refl ⟨?_,rfl⟩
 show(⟨s'.aO,s.heap.take k⟩:St)=s'
 rw[hh]
theorem SE.QN{P:Program}{n m:Nat}{B:pr}{s:St}{l:List (Option AE)}{steps:List cq}{T:St→List (Option AE)→Prop}{t i sz:Nat}{u:Value}{rows:List (List D)}(hs:lk s.aO t=XY (oc (.d (.w u))))(hi:l[i]? =XY (XY (u,sz,rows)))(hm:X2 m s.heap.length=true)
 (h:∀B':pr,SE P n (s.heap.length+1) B' steps (fun s' l'=>∃rows',hp s'.heap s.heap.length=XY (.arr 0 sz rows')∧rows'.length=rows.length∧l'[i]? =XY XZ∧T ⟨s'.aO,cH s'.heap s.heap.length (.arr 1 sz [])⟩ (l'.set i (XY (u,sz,rows'))))
   ⟨(t,oc (.own s.heap.length 0 0 rows.length XZ))::s.aO,cH s.heap s.heap.length (.arr 0 sz rows)⟩ (l.set i XZ)):SE P n m B steps T s l:=by
 have hm:=X1 hm
 intro ops mask Q rest0 os k g1 g2 g3 φ F ac w hS hQ
 obtain⟨xs,hal,hz⟩:=hS.al
 obtain⟨h1,h2,h3,h4,h5⟩:=DS hS.rel.rel (iY s.heap) hal hi
 have e0:hp (cH s.heap s.heap.length (.arr 0 sz rows))=ed (hp s.heap) s.heap.length (XY (.arr 0 sz rows)):=eQ _ _ _
 have hS1:ES n m B ⟨(t,oc (.own s.heap.length 0 0 rows.length XZ))::s.aO,cH s.heap s.heap.length (.arr 0 sz rows)⟩ (l.set i XZ) ac w (ed φ s.heap.length (xs i)) F:=by
  refine hS.of hz (by rw[e0];exact h2) (by rw[e0];exact h1) (fun t' av hav=>?_) h4 h5 fun b hb=> .inl hb
  rw[e0]
  simp only[iU]at hav
  split at hav
  ·rename_i htt;subst htt;cases hav
   have hold:dh w F (.w u) (ac.tmps.getD t' undef):=hS.rel.slot t' _ hs
   generalize ac.tmps.getD t' undef=v at hold⊢
   cases hold
   exact h3
  ·exact(hS.rel.slot t' av hav).mono h2
 let B':pr:=⟨ed φ s.heap.length (xs i),F,w,cH s.heap s.heap.length (.arr 0 sz rows),Old (ed φ s.heap.length (xs i)) (ed xs i XZ)⟩
 have hS2:ES n (s.heap.length+1) B' ⟨(t,oc (.own s.heap.length 0 0 rows.length XZ))::s.aO,cH s.heap s.heap.length (.arr 0 sz rows)⟩ (l.set i XZ) ac w (ed φ s.heap.length (xs i)) F:=
  ⟨hS1.rel,⟨ed xs i XZ,h4,w8.refl⟩,gY.refl _ _ _ _ _⟩
 have hz1:w8 B.Z B.F B.w (ed φ s.heap.length (xs i)) (ed xs i XZ) F w:=hz.trans ⟨Nat.le_refl _,fun _ _ _=>rfl,fun b hb=> .inl (h5 b hb),fun b hb=> .inl hb,Io.refl _⟩
 have hlink:dA (ed φ s.heap.length (xs i)) F (hp (cH s.heap s.heap.length (.arr 0 sz rows))) w (.own s.heap.length 0 0 rows.length XZ) u:=by rw[e0];exact h3
 refine h B' ops mask Q rest0 os k g1 g2 g3 _ F ac w hS2 fun a' w' s' l' φ' F' hT g=>?_
 obtain⟨rows',q1,q2,q3,q4⟩:=hT
 obtain⟨xs',k1,k2⟩:=g.al
 have hB:ES n m B s' l' a' w' φ' F':=⟨g.rel,⟨xs',k1,hz1.trans k2⟩,hS1.gl.trans (g.gl.le (by omega))⟩
 have hl2:dA φ' F' (hp s'.heap) w' (.own s.heap.length 0 0 rows.length XZ) u:=H4 g.gl (by omega) hlink
 rw[←q2]at hl2
 obtain⟨r1,r2,r3,r4⟩:=CZ g.rel.rel q1 hl2 k1 q3
 have e1:hp (cH s'.heap s.heap.length (.arr 1 sz []))=ed (hp s'.heap) s.heap.length (XY (.arr (0+1) sz [])):=eQ _ _ _
 exact hQ a' w' _ _ (ed φ' s.heap.length XZ) F' q4 (hB.of (hz1.trans k2) (by rw[e1];exact r2) (by rw[e1];exact r1) (fun t' av hav=>by rw[e1];exact(g.rel.slot t' av hav).mono r2) r3 r4 fun b hb=> .inl hb)
theorem Nl(ds:List DP):(rowsOf ds).length=ds.length:=by simp[rowsOf]
theorem CI(ds:List DP)(k:Nat)(d:DP):(rowsOf ds).set k (aS d.r)=rowsOf (ds.set k d):=by simp[rowsOf,List.map_set]
theorem jv(pre rest:List (Option bw))(o:Option bw)(b:bw){n:Nat}(h:n=pre.length):cH (pre++o::rest) n b=pre++XY b::rest:=by
 subst h
 induction pre with
 |nil=>rfl
 |cons x pre ih=>exact congrArg (x::·) ih
theorem FY(pre rest:List (Option bw))(o o':Option bw)(b:bw){n:Nat}(h:n=pre.length+1):cH (pre++o::o'::rest) n b=pre++o::XY b::rest:=by
 have:=jv (pre++[o]) rest o' b (n:=n) (by simp[h])
 simpa using this
theorem FX(pre rest:List (Option bw))(o o' o2:Option bw)(b:bw){n:Nat}(h:n=pre.length+2):cH (pre++o::o'::o2::rest) n b=pre++o::o'::XY b::rest:=by
 have:=jv (pre++[o,o']) rest o2 b (n:=n) (by simp[h])
 simpa using this
theorem FW(pre rest:List (Option bw))(o o' o2 o3:Option bw)(b:bw){n:Nat}(h:n=pre.length+3):cH (pre++o::o'::o2::o3::rest) n b=pre++o::o'::o2::XY b::rest:=by
 have:=jv (pre++[o,o',o2]) rest o3 b (n:=n) (by simp[h])
 simpa using this
theorem lM(pre rest:List (Option bw))(b:bw){n:Nat}(h:n=pre.length):hp (pre++XY b::rest) n=XY b:=by subst h;simp[hp]
theorem LJ(pre rest:List (Option bw))(o:Option bw)(b:bw){n:Nat}(h:n=pre.length+1):hp (pre++o::XY b::rest) n=XY b:=by
 have:=lM (pre++[o]) rest b (n:=n) (by simp[h])
 simpa using this
theorem LI(pre rest:List (Option bw))(o o':Option bw)(b:bw){n:Nat}(h:n=pre.length+2):hp (pre++o::o'::XY b::rest) n=XY b:=by
 have:=lM (pre++[o,o']) rest b (n:=n) (by simp[h])
 simpa using this
theorem LH(pre rest:List (Option bw))(o o' o2:Option bw)(b:bw){n:Nat}(h:n=pre.length+3):hp (pre++o::o'::o2::XY b::rest) n=XY b:=by
 have:=lM (pre++[o,o',o2]) rest b (n:=n) (by simp[h])
 simpa using this
theorem NK(pre rest:List (Option bw)){n:Nat}(h:n<pre.length):hp (pre++rest) n=hp pre n:=by simp[hp,XH h]
theorem j8(b:bw):∀(h:List (Option bw)) (i:Nat),i<h.length→(cH h i b).length=h.length
 |[],_,h=>by simp at h
 |x::h,0,_=>rfl
 |x::h,i+1,hi=>by
  show(x::cH h i b).length=_
  rw[XG,XG,j8 b h i (by simpa using hi)]
theorem v8{h:List (Option bw)}{i:Nat}{b:bw}(hb:hp h i=XY b):i<h.length:=by
 by_cases h1:i<h.length
 ·exact h1
 ·simp[hp,List.getElem?_eq_none (by omega:h.length≤i)]at hb
section
variable {P:Program} {n m:Nat} {B:pr} {s:St} {A D:List (Option AE)} {x x':af} {u1 u2 u3:Value}
theorem Te.Ky{sl:List (Nat×AV)}{N:Nat}(pre:List (Option bw))(hN:N=pre.length):Te n m B (fun s' l'=>s'=⟨sl,pre++xb (CN x (N+1) (N+2) (N+3))::wK x⟩∧l'=A++XZ::XZ::XZ::D) ⟨sl,pre++[xb (ny x u1 u2 u3)]⟩ (A++IG x u1 u2 u3 D):=by
 have hl:∀k (r:List (Option bw)),r.length=k→(pre++r).length=N+k:=fun k r hr=>by rw[XP,hr,hN]
 refine(Te.mu (p:=N) (cells:=ny x u1 u2 u3) (j:=28) (i:=A.length) (u:=u1) (lM _ _ _ hN) rfl (Bb A _ _ rfl)).trans ?_
 rintro _ _ ⟨rfl,rfl⟩
 rw[Cp A _ _ _ rfl]
 simp only[j9,XI,XS,XK]
 rw[jv _ _ _ _ hN,hl 1 _ rfl]
 refine(Te.mu (p:=N) (j:=32) (i:=A.length+1) (u:=u2) (lM _ _ _ hN) rfl (Ba A _ _ _ rfl)).trans ?_
 rintro _ _ ⟨rfl,rfl⟩
 rw[Co A _ _ _ _ rfl]
 simp only[j9,XI,XS,XK]
 rw[jv _ _ _ _ hN,hl 2 _ rfl]
 refine(Te.mu (p:=N) (j:=33) (i:=A.length+2) (u:=u3) (lM _ _ _ hN) rfl (A9 A _ _ _ _ rfl)).trans ?_
 rintro _ _ ⟨rfl,rfl⟩
 rw[Cm A _ _ _ _ _ rfl]
 simp only[j9,XI,XS,XK]
 rw[jv _ _ _ _ hN,hl 3 _ rfl]
 refine Te.refl ⟨?_,rfl⟩
 simp only[XD]
 rfl
theorem Te.wi{sl:List (Nat×AV)}{N:Nat}(pre:List (Option bw))(hN:N=pre.length):Te n m B (fun s' l'=>∃v1 v2 v3,s'=⟨sl,pre++[xb (ny x v1 v2 v3),XY (.arr 1 7 []),XY (.arr 1 4 []),XY (.arr 1 2 [])]⟩∧l'=A++IG x v1 v2 v3 D) ⟨sl,pre++xb (CN x (N+1) (N+2) (N+3))::wK x⟩ (A++XZ::XZ::XZ::D):=by
 unfold wK
 refine(Te.ml (p:=N) (cells:=CN x (N+1) (N+2) (N+3)) (j:=28) (i:=A.length) (id:=N+1) (e:=0) (sz:=7) (rows:=x.an.ae.ad.map aC) (lM _ _ _ hN) (by simp only[XD];rfl) (LJ _ _ _ _ (by omega)) (Bb A _ _ rfl)).trans ?_
 rintro _ _ ⟨v1,rfl,rfl⟩
 rw[Cp A _ _ _ rfl]
 simp only[FY pre _ _ _ _ (show N+1=pre.length+1 by omega),jv pre _ _ _ hN]
 refine(Te.ml (p:=N) (j:=32) (i:=A.length+1) (id:=N+2) (e:=0) (sz:=4) (rows:=x.aK.map cu) (lM _ _ _ hN) (by simp only[XD];rfl) (LI _ _ _ _ _ (by omega)) (Ba A _ _ _ rfl)).trans ?_
 rintro _ _ ⟨v2,rfl,rfl⟩
 rw[Co A _ _ _ _ rfl]
 simp only[FX pre _ _ _ _ _ (show N+2=pre.length+2 by omega),jv pre _ _ _ hN]
 refine(Te.ml (p:=N) (j:=33) (i:=A.length+2) (id:=N+3) (e:=0) (sz:=2) (rows:=x.aq.map fm) (lM _ _ _ hN) (by simp only[XD];rfl) (LH _ _ _ _ _ _ (by omega)) (A9 A _ _ _ _ rfl)).trans ?_
 rintro _ _ ⟨v3,rfl,rfl⟩
 rw[Cm A _ _ _ _ _ rfl]
 simp only[FW pre _ _ _ _ _ _ (show N+3=pre.length+3 by omega),jv pre _ _ _ hN]
 exact Te.refl ⟨v1,v2,v3,rfl,rfl⟩
def Oa(N q gf jm e len k:Nat)(R0:List (List Fw.D))(um:Value)(A D:List (Option AE))(T:St→List (Option AE)→Prop)(s':St)(l':List (Option AE)):Prop:=
 ∃(x':af) (pre':List (Option bw)) (mc':List C) (sl':List (Nat×AV)),s'.heap=pre'++xb (CN x' (N+1) (N+2) (N+3))::wK x'∧N=pre'.length∧hp pre' gf=xb mc'∧mc'[jm]? =XY (.d (.w um))∧hp pre' q=XY (.arr (e+1) 36 [])∧
  B9 sl' s'.aO∧pre'.all (nO N)=true∧sl'.all (fun x=>x.2.below N)=true∧l'=A++XZ::XZ::XZ::D∧
  ∀v1 v2 v3,T ⟨sl',cH (cH pre' q (.arr (e+2) 36 (R0.set k (aS (oV x' v1 v2 v3))))) gf (.box (mc'.set jm (.own q (e+2) 0 len XZ)))⟩ (A++IG x' v1 v2 v3 D)
theorem VE.M6{c:AC}{R:RE}{t gf q e len k jm N:Nat}{sl:List (Nat×AV)}{pre:List (Option bw)}{mc:List C}{R0:List (List Fw.D)}(hN:pre.length=N)(hs:lk sl t=XY (oc (.pe q e k 0)))
 (hM:hp pre gf=xb mc) (hjm:mc[jm]? =XY (.own q e 0 len XZ)) (hQ:hp pre q=XY (.arr e 36 R0)) (hrow:R0[k]? =XY (aS (oV x u1 u2 u3))) (hm:X2 m N=true)
 (h:∀um B',VE P n (N+1) B' c (fun ex=>Oa N q gf jm e len k R0 um A D (R ex)) ⟨(t,oc (.pt N 0))::sl,cH (cH pre gf (.box (mc.set jm (.d (.w um))))) q (.arr (e+1) 36 [])++xb (CN x (N+1) (N+2) (N+3))::wK x⟩ (A++XZ::XZ::XZ::D)):
 VE P n m B c R ⟨sl,pre⟩ (A++IG x u1 u2 u3 D):=by
 subst hN
 refine VE.PJ (s:=⟨sl,pre⟩) (z:=36) hs hM hjm hQ hrow (X1 hm) fun um B'=>?_
 have hl2:(cH (cH pre gf (.box (mc.set jm (.d (.w um))))) q (.arr (e+1) 36 [])).length=pre.length:=by
  rw[j8 _ _ _ (by rw[j8 _ _ _ (v8 hM)];exact v8 hQ),j8 _ _ _ (v8 hM)]
 have e1:cH (cH (cH pre gf (.box (mc.set jm (.d (.w um))))) q (.arr (e+1) 36 [])) pre.length (.box ((aS (oV x u1 u2 u3)).map C.d))=cH (cH pre gf (.box (mc.set jm (.d (.w um))))) q (.arr (e+1) 36 [])++[xb (ny x u1 u2 u3)]:=by
  rw[←hl2];exact j9 _ _
 show VE P n (pre.length+1) B' c _ ⟨(t,oc (.pt pre.length 0))::sl,cH (cH (cH pre gf (.box (mc.set jm (.d (.w um))))) q (.arr (e+1) 36 [])) pre.length (.box ((aS (oV x u1 u2 u3)).map C.d))⟩ _
 rw[e1]
 refine VE.tell (Te.Ky (N:=pre.length) _ hl2.symm) ?_
 rintro _ _ ⟨rfl,rfl⟩
 refine VE.post (h um B') ?_
 rintro ex ⟨KM,hp1⟩ l' ⟨x',pre',mc',sl',h1,h2,h3,h4,h5,h6,h7,h8,rfl,h9⟩
 subst h1
 refine(Te.wi (N:=pre.length) _ h2).trans ?_
 rintro _ _ ⟨v1,v2,v3,rfl,rfl⟩
 have ht:(pre'++[XY (bw.box (ny x' v1 v2 v3)),XY (.arr 1 7 []),XY (.arr 1 4 []),XY (.arr 1 2 [])]).take pre.length=pre':=by rw[h2,List.take_left]
 have hlt:∀{i b},hp pre' i=XY b→hp (pre'++[XY (bw.box (ny x' v1 v2 v3)),XY (.arr 1 7 []),XY (.arr 1 4 []),XY (.arr 1 2 [])]) i=XY b:=fun hb=>by rw[NK _ _ (v8 hb)];exact hb
 refine Te.refl ⟨aS (oV x' v1 v2 v3),mc',sl',lM _ _ _ h2,rfl,hlt h3,h4,hlt h5,h6,?_,h8,?_⟩
 ·show((pre'++_).take pre.length).all _=true
  rw[ht];exact h7
 ·show R ex ⟨sl',cH (cH ((pre'++_).take pre.length) q _) gf _⟩ _
  rw[ht];exact h9 v1 v2 v3
end
def mR(b:aj)(ps:List au):gM:=⟨⟨b.ah.Node,b.ah.cl,ps,b.ah.aM,b.ah.bW,b.ah.bO,b.ah.b8⟩⟩
theorem sJ(A C:List DP)(d:DP){k:Nat}(h:A.length=k):(rowsOf (A++d::C))[k]? =XY (aS d.r):=by
 subst h;simp[rowsOf]
theorem pU(A C:List DP)(d d':DP){k:Nat}(h:A.length=k):(rowsOf (A++d::C)).set k (aS d'.r)=rowsOf (A++d'::C):=by
 rw[CI];congr 1;subst h;simp
theorem yI{ds:List DP}{k:Int}{x:af}(h:cI (ds.map DP.p) k=XY x):∃A d C,ds=A++d::C∧A.length=k.toNat∧d.p=x∧cI (ds.map DP.r) k=XY d.r∧0≤k:=by
 obtain⟨h1,h2,h3⟩:=aQ h
 rw[XR,X0]at h2
 obtain⟨d,hd,rfl⟩:=h2
 obtain⟨hlt,he⟩:=XU.1 hd
 refine⟨ds.take k.toNat,d,ds.drop (k.toNat+1),?_,by simp;omega,rfl,?_,by omega⟩
 ·rw[←he,XJ,XF]
 ·unfold cI
  rw[if_pos h1,XR,hd];rfl
theorem yY(A C:List DP)(d d':DP):((A++d::C).map DP.r).length=((A++d'::C).map DP.r).length:=by simp
def NH(b0:aj)(r:List af)(mc:aj→List au→Nat→List C)(res:AV)(H:List (Option bw))(l:List (Option AE)):Prop:=
 ∃(ds':List DP) (e':Nat),ds'.map DP.p=r∧res=bJ []∧H=[xb (mc b0 (ds'.map DP.r) e'),XY (.arr e' 36 (rowsOf ds'))]∧l=cG ds'
theorem uV{α:Type}(A C:List α)(x y:α){k:Nat}(h:A.length=k):(A++x::C).set k y=A++y::C:=by subst h;simp
theorem Te.QO{n m:Nat}{B:pr}{s:St}(A C:List (Option AE)):Te n m B (fun s1 l1=>s1=s∧l1=A++XZ::XZ::XZ::C) s (A++C):=by
 have key:∀(i:Nat) (e:AE),(A++XZ::XZ::XZ::C)[i]? =XY (XY e)→(i<A.length∨A.length+3≤i):=by
  intro i e hi
  by_cases h:i<A.length
  ·exact .inl h
  ·rw[XC (by omega)]at hi
   have:i-A.length=0∨i-A.length=1∨i-A.length=2∨3≤i-A.length:=by omega
   rcases this with h0|h0|h0|h0
   ·rw[h0]at hi;cases hi
   ·rw[h0]at hi;cases hi
   ·rw[h0]at hi;cases hi
   ·exact .inr (by omega)
 refine Te.sub (fun i=>if i<A.length then i else i-3) (fun i j e e' hi hj h=>?_) fun i e hi=>?_
 ·have h1:=key i e hi;have h2:=key j e' hj
  split at h<;>split at h<;>omega
 ·have h1:=key i e hi
  split
  ·rename_i h;rw[XH h]at hi⊢;exact hi
  ·rename_i h
   rw[XC (by omega)]at hi
   rw[XC (by omega),←hi,show i-A.length=(i-3-A.length)+1+1+1 by omega]
   simp
theorem FV{α:Type}{xs r:List α}{i:Int}{x:α}(h:lL xs i x=XY r):∃k:Nat,i=k∧k≤xs.length∧r=xs.take k++x::xs.drop k:=by
 unfold lL at h
 split at h
 ·cases h;exact⟨i.toNat,by omega,by omega,rfl⟩
 ·cases h
theorem Ip{ds:List DP}{i:Int}{x:af}{r:List af}(h:lL (ds.map DP.p) i x=XY r):∃A C,ds=A++C∧r=A.map DP.p++x::C.map DP.p∧∀d:DP,lL (ds.map DP.r) i d.r=XY ((A++d::C).map DP.r):=by
 have h0:=h
 obtain⟨k,rfl,hk,rfl⟩:=FV h
 refine⟨ds.take k,ds.drop k,(XF _ _).symm,by rw[XM,XN],fun d=>?_⟩
 unfold lL at h0⊢
 rw[XD]at h0⊢
 split at h0
 ·rename_i hc;rw[if_pos hc,X4,XL,XO,XM,XN]
 ·cases h0
inductive Gv where
 |new (r:au)
 |xP (x:af)
def jC:Gv→List D
 | .new r=>aS r
 | .xP x=>bT x
def lK(os:List DP)(rest:List af):List Gv:=os.map (fun d=> .new d.r)++rest.map .xP
theorem rA(os:List DP)(rest:List af):(lK os rest).length=os.length+rest.length:=by simp[lK]
theorem LC(rest:List af):(lK [] rest).map jC=rest.map bT:=by simp only[lK,XQ,XK,XV];rfl
theorem LD(os:List DP):(lK os []).map jC=rowsOf os:=by simp only[lK,rowsOf,XQ,List.append_nil,XV];rfl
theorem ND(os:List DP)(x:af)(rest:List af):cI (lK os (x::rest)) (os.length:Nat)=XY (.xP x):=by
 unfold lK;rw[XO];exact nL (by simp)
theorem EK(os:List DP)(x:af)(rest:List af):((lK os (x::rest)).map jC)[os.length]? =XY (bT x):=by
 simp[lK,jC]
theorem LB(os:List DP)(d:DP)(x:af)(rest:List af):((lK os (x::rest)).map jC).set os.length (aS d.r)=(lK (os++[d]) rest).map jC:=by
 simp only[lK,XL,XO,XQ,XI,List.singleton_append]
 rw[uV _ _ _ _ (by simp)]
 rfl
theorem SE.OW{P:Program}{n m:Nat}{B:pr}{s:St}{l:List (Option AE)}{st:cq}{T:St→List (Option AE)→Prop}{d p z z' q e k:Nat}{R0:List (List D)}{r:List D}(hst:st.op= .load (XY z) (.t p))(hg:st.guard=XZ)(hd:st.dst=XY d)
 (hs:lk s.aO p=XY (oc (.pe q e k 0))) (hQ:hp s.heap q=XY (.arr e z' R0)) (hr:R0[k]? =XY r) (hz:r.length=z) (h:T ⟨(d,.one (.agg (r.map C.d)))::s.aO,s.heap⟩ l):SE P n m B [st] T s l:=by
 refine SE.ops (K1:=fun s'=>s'=⟨(d,.one (.agg (r.map C.d)))::s.aO,s.heap⟩) ?_ (fun s' e=>by subst e;exact Te.refl h)
 simp only[gF,hg,hst,AN,jE,St.e9,St.ev,hs,hQ,hd,St.apply]
 exact⟨trivial,r,hr,by simp[hz],by simp[←hz];exact⟨List.take_of_length_le (by simp),rfl⟩⟩
theorem Ll(x:af)(u1 u2 u3:Value):aS (oV x u1 u2 u3)=Hc (bT x) 28 32 33 (.w u1) (.w u2) (.w u3):=rfl
theorem LU(x:af):(bT x)[28]? =XY (.sl (x.an.ae.ad.map aC)):=rfl
theorem LR(x:af):(bT x)[32]? =XY (.sl (x.aK.map cu)):=rfl
theorem LQ(x:af):(bT x)[33]? =XY (.sl (x.aq.map fm)):=rfl
theorem Te.P6{n m:Nat}{B:pr}{s:St}{ds:List DP}{o e:Nat}(hO:hp s.heap o=XY (.arr e 36 (rowsOf ds))):Te n m B (fun s' l'=>s'=⟨s.aO,cH s.heap o (.arr e 36 ((ds.map DP.p).map bT))⟩∧l'=[]) s (cG ds):=by
 refine Te.giveUp hO (by simp[rowsOf]) fun i r r' hr hr'=>?_
 simp only[rowsOf,XV,XR,X0]at hr hr'
 obtain⟨d,hd,rfl⟩:=hr
 obtain⟨d',hd',rfl⟩:=hr'
 rw[hd]at hd';cases hd'
 obtain⟨hlt,he⟩:=XU.1 hd
 have hcut:ds=ds.take i++d::ds.drop (i+1):=by rw[←he,XJ,XF]
 have hti:(cG (ds.take i)).length=3*i:=by rw[Fp,List.length_take];omega
 have t0:(cG ds)[3*i]? =XY (NY d.p d.u1):=by rw[hcut,fS];exact Bb _ _ _ hti
 have t1:(cG ds)[3*i+1]? =XY (NX d.p d.u2):=by rw[hcut,fS];exact Ba _ _ _ _ hti
 have t2:(cG ds)[3*i+2]? =XY (NW d.p d.u3):=by rw[hcut,fS];exact A9 _ _ _ _ _ hti
 refine⟨rfl,fun j a a' ha ha'=>?_⟩
 change (aS (oV d.p d.u1 d.u2 d.u3))[j]? =XY a at ha
 change (bT d.p)[j]? =XY a' at ha'
 rw[Ll,Hb _ _ _ (by show 28<36;decide) (by show 32<36;decide) (by show 33<36;decide) (by decide) (by decide) (by decide)]at ha
 split at ha
 ·rename_i h;subst h;cases ha;rw[LU]at ha';cases ha';exact .inr ⟨_,_,_,_,rfl,t0,rfl⟩
 ·split at ha
  ·rename_i h;subst h;cases ha;rw[LR]at ha';cases ha';exact .inr ⟨_,_,_,_,rfl,t1,rfl⟩
  ·split at ha
   ·rename_i h;subst h;cases ha;rw[LQ]at ha';cases ha';exact .inr ⟨_,_,_,_,rfl,t2,rfl⟩
   ·rw[ha]at ha';cases ha';exact .inl rfl
theorem IL{ds:List DP}{k:Int}{r:List af}(hl:ds.length≤4294967290)(h:oz (ds.map DP.p) k (X3.wrap (k+1))=XY r):∃A d C,ds=A++d::C∧r=(A++C).map DP.p∧oz (ds.map DP.r) k (X3.wrap (k+1))=XY ((A++C).map DP.r):=by
 have h0:=h
 unfold oz at h h0⊢
 rw[XD]at h⊢
 split at h
 ·rename_i hc
  obtain⟨h1,h2,h3,h4⟩:=hc
  have hk:k=(k.toNat:Nat):=by omega
  have hw:X3.wrap (k+1)=((k.toNat+1:Nat):Int):=by rw[hk];exact kA (by omega)
  rw[hw]at h h2 h3⊢
  cases h
  refine⟨ds.take k.toNat,ds[k.toNat]'(by omega),ds.drop (k.toNat+1),by rw[XJ,XF],?_,?_⟩
  ·rw[X4,XL,XM,XN]
  ·rw[if_pos ⟨h1,h2,h3,h4⟩,X4,XL,XM,XN]
 ·cases h
end Go.Proofs.YtojbebejhgbfeaaGreat
