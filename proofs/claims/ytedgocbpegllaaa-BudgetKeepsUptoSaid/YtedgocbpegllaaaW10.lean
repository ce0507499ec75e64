/- Each Go function as a function over typed data, and its walk. -/
import Derived.Test.YtedgocbpegllaaaW0
import Derived.Test.YtedgocbpegllaaaW1
import Derived.Test.YtedgocbpegllaaaW2
import Derived.Test.YtedgocbpegllaaaW3
import Derived.Test.YtedgocbpegllaaaW4
import Derived.Test.YtedgocbpegllaaaW7
import Derived.Test.YtedgocbpegllaaaW8
import Derived.Test.YtedgocbpegllaaaW9
namespace Go.Proofs.Ytedgocbpegllaaa
open Go Go.Fw Go.Shelf
set_option maxRecDepth 100000
set_option maxHeartbeats 4000000
set_option linter.unusedSimpArgs false
set_option linter.unusedVariables false
def cF5kb:AC:=(.seq (.sem (.reg [Qa 22 0,
Qa 23 1,
Ql 24 8 22 23,
Qa 25 24,
Qv 26 25 false 0,
zg 27 25 false (.call 13 [(.t 26)]),
zg 28 25 false (.not (.t 27)),
Qj 29 25 28,
Qa 30 29,
Qv 31 30 false 2,
zg 32 30 false (.len (.t 31)),
zg 33 30 false (.bin .gtr (.t 32) (kI 60)),
Qj 34 30 33,
Qa 35 34,
Qv 36 35 false 1,
zg 37 35 false (.len (.t 36)),
zg 38 35 false (.bin .eql (.t 37) (kI 0)),
Qj 39 35 38,
Qa 40 39,
Qv 41 40 false 1,
zg 42 40 false (.call 19 [(.t 41)]),
zg 43 40 false (.not (.t 42)),
Qj 44 40 43]))
 (.cond (.t 44)
 (.seq (.reg [sq 45 (.call 9 []),
Qa 10 45])
 .ret)
 .skip))
def F5kb(l:List Budget)(pods:List Pod)(order:List Int)(ex:Int)(now:Int):Option ((Bool) ⊕ (Unit)):=(((F8 l pods).bind fun t2=>(if t2=true then some true else(F13 l).bind fun t4=>(if(nb t4)=true then some true else(if 60<(order.length:Int)then some true else(if(pods.length:Int)=0 then some true else(F19 pods).bind fun t8=>some (nb t8)))))).bind fun o1=>(if o1=true then(F9).bind fun t10=>some (Sum.inl t10)else some (Sum.inr (()))))
theorem F5kb_ok{l pods order ex now r}(h:F5kb l pods order ex now=some r):sK Try.prog 169 0 cF5kb [] (sM 169 0 (fun s=>∃o1,r=Sum.inr (o1)∧s=⟨[(0,oc (dM (l.map eBudget))),(1,oc (dM (pods.map ePod))),(2,oc (dM (order.map (eK .u8)))),(3,oc (dI ex)),(4,oc (dI now))],[]⟩) (xQ 169 0 (fun _ _=>False) (fun s=>∃o0,r=Sum.inl o0∧s=⟨[(10,oc (dB o0))],[]⟩)))
 ⟨[(0,oc (dM (l.map eBudget))),(1,oc (dM (pods.map ePod))),(2,oc (dM (order.map (eK .u8)))),(3,oc (dI ex)),(4,oc (dI now))],[]⟩:=by
 rw[F5kb]at h
 simp only[cF5kb,VW.down,Nat.reduceEqDiff,reduceCtorEq,Nat.reduceAdd,Nat.reduceLeDiff,Nat.reduceLT,Nat.reduceBEq,Nat.reduceSub,EE.down]
 obtain⟨o1,ho,h⟩:=bi h
 refine cutS (fun s=>s=⟨[(0,oc (dM (l.map eBudget))),(1,oc (dM (pods.map ePod))),(2,oc (dM (order.map (eK .u8)))),(3,oc (dI ex)),(4,oc (dI now)),(44,oc (dB o1))],[]⟩) ?_ ?_
 ·have h:=ho
  clear ho
  refine ww ?_
  obtain⟨t2,ht2,h⟩:=bi h
  refine cN [] (F8_ok ht2) trivial (ww ?_)
  refine guardSBh h (fun g3 h=>ww ?_) (fun g3 h=>?_)
  ·cases h
   exact eM [] rfl
  ·refine ww ?_
   obtain⟨t4,ht4,h⟩:=bi h
   refine cN [] (F13_ok ht4) trivial (ww ?_)
   refine guardSBh h (fun g5 h=>ww ?_) (fun g5 h=>?_)
   ·cases h
    exact eM [] rfl
   ·refine ww ?_
    refine guardSh h (fun g6 h=>ww ?_) (fun g6 h=>?_)
    ·cases h
     exact eM [] rfl
    ·refine ww ?_
     refine guardSh h (fun g7 h=>ww ?_) (fun g7 h=>?_)
     ·cases h
      exact eM [] rfl
     ·refine ww ?_
      obtain⟨t8,ht8,h⟩:=bi h
      refine cN [] (F19_ok ht8) trivial (ww ?_)
      cases h
      exact eM [] rfl
 ·rintro _ rfl
  clear ho
  refine ww ?_
  refine condBh h (fun c9 h=>ww ?_) (fun c9 h=>?_)
  ·obtain⟨t10,ht10,h⟩:=bi h
   refine cN [] (F9_ok ht10) trivial (ww ?_)
   cases h
   exact eR [] ⟨_,rfl,rfl⟩
  ·refine ww ?_
   cases h
   exact eM [] ⟨_,rfl,rfl⟩
def cF5kz:AC:=(.seq (.reg [sq 168 (.call 9 []),
Qa 10 168])
 .ret)
def F5kz:Option (Bool):=(F9).bind fun t1=>some t1
theorem F5kz_ok{r:Bool}(h:F5kz=some r):sK Try.prog 169 0 cF5kz [] (sM 169 0 (fun _=>False) (xQ 169 0 (fun _ _=>False) (fun s=>s=⟨[(10,oc (dB r))],[]⟩)))
 ⟨[],[]⟩:=by
 rw[F5kz]at h
 simp only[cF5kz,VW.down,Nat.reduceEqDiff,reduceCtorEq,Nat.reduceAdd,Nat.reduceLeDiff,Nat.reduceLT,Nat.reduceBEq,Nat.reduceSub,EE.down]
 obtain⟨t1,ht1,h⟩:=bi h
 refine cN [] (F9_ok ht1) trivial (ww ?_)
 cases h
 exact eR [] rfl
def kC(pods:List Pod)(order:List Int)(now:Int)(fs:List Budget)(go:List D):St:=⟨[(1,oc (dM (pods.map ePod))),(2,oc (dM (order.map (eK .u8)))),(4,oc (dI now)),(11,oc (dM (fs.map eBudget))),(13,oc (.own 0 0 0 (go.length) none))],[some (.arr 0 1 (go.map eRaw))]⟩
def kC2(pods:List Pod)(order:List Int)(now:Int)(fs:List Budget)(go:List D)(i:Int):St:=⟨[(1,oc (dM (pods.map ePod))),(2,oc (dM (order.map (eK .u8)))),(4,oc (dI now)),(11,oc (dM (fs.map eBudget))),(13,oc (.own 0 0 0 (go.length) none)),(14,oc (dI i))],[some (.arr 0 1 (go.map eRaw))]⟩
def kC4(pods:List Pod)(order:List Int)(now:Int)(fs:List Budget)(go:List D)(st:List Budget)(j:Int):St:=⟨[(1,oc (dM (pods.map ePod))),(2,oc (dM (order.map (eK .u8)))),(4,oc (dI now)),(11,oc (dM (fs.map eBudget))),(13,oc (.own 0 0 0 (go.length) none)),(15,oc (dM (st.map eBudget))),(16,oc (dI j))],[some (.arr 0 1 (go.map eRaw))]⟩
def kC6(pods:List Pod)(order:List Int)(now:Int)(fs:List Budget)(go:List D)(st:List Budget)(j:Int)(key:ByteArray)(k:Int):St:=⟨[(1,oc (dM (pods.map ePod))),(2,oc (dM (order.map (eK .u8)))),(4,oc (dI now)),(11,oc (dM (fs.map eBudget))),(13,oc (.own 0 0 0 (go.length) none)),(15,oc (dM (st.map eBudget))),(16,oc (dI j)),(17,oc (dS key)),(20,oc (dI k))],[some (.arr 0 1 (go.map eRaw))]⟩
def kU(pods:List Pod)(order:List Int)(now:Int)(fs:List Budget)(go:List D)(st:List Budget)(j:Int)(key:ByteArray)(k:Int)(ws:List WorkItem):St:=⟨[(1,oc (dM (pods.map ePod))),(2,oc (dM (order.map (eK .u8)))),(4,oc (dI now)),(11,oc (dM (fs.map eBudget))),(13,oc (.own 0 0 0 (go.length) none)),(15,oc (dM (st.map eBudget))),(16,oc (dI j)),(17,oc (dS key)),(20,oc (dI k)),(122,oc (.own 0 0 0 (go.length) none)),(123,oc (dI k)),(127,oc (.own 1 0 0 (ws.length) none))],[some (.arr 0 1 (go.map eRaw)),some (.arr 0 2 (ws.map eWorkItem))]⟩
def kV(pods:List Pod)(order:List Int)(now:Int)(fs:List Budget)(go:List D)(st:List Budget)(j:Int)(key:ByteArray)(k:Int)(y:D):St:=⟨[(1,oc (dM (pods.map ePod))),(2,oc (dM (order.map (eK .u8)))),(4,oc (dI now)),(11,oc (dM (fs.map eBudget))),(13,oc (.own 0 0 0 (go.length) none)),(15,oc (dM (st.map eBudget))),(16,oc (dI j)),(17,oc (dS key)),(20,oc (dI k)),(122,oc (.own 0 0 0 (go.length) none)),(123,oc (dI k)),(131,oc (.d (y)))],[some (.arr 0 1 (go.map eRaw)),some (.arr 1 2 (([]:List WorkItem).map eWorkItem))]⟩
def kF(pods:List Pod)(order:List Int)(now:Int)(fs:List Budget)(go:List D)(i:Int):St:=⟨[(1,oc (dM (pods.map ePod))),(2,oc (dM (order.map (eK .u8)))),(4,oc (dI now)),(11,oc (dM (fs.map eBudget))),(63,oc (dM (fs.map eBudget))),(64,oc (dI i)),(65,oc (.own 0 0 0 (go.length) none))],[some (.arr 0 1 (go.map eRaw))]⟩
def F5init:List Budget→Option (List (List WorkItem))
 |[]=>some []
 |b::r=>(apI ([]:List WorkItem) b.Disrupted).bind fun g=>(F5init r).bind fun gs=>some (g::gs)
def F5add(key:ByteArray):List (List WorkItem)→Option (List (List WorkItem))
 |[]=>some []
 |g::r=>(apI g [(⟨key,0⟩:WorkItem)]).bind fun g2=>(F5add key r).bind fun gs=>some (g2::gs)
def F5run(pods:List Pod)(order:List Int)(now:Int):Nat→Nat→List Budget→List (List WorkItem)→Option (List (List WorkItem))
 |0,_,_,gs=>some gs
 |m+1,j,st,gs=>(F5kn pods order now [] [] st (j:Int)).bind fun key=>(F14 st pods key now).bind fun t=>if t.2=0 then(F5add key gs).bind fun gs2=>F5run pods order now m (j+1) t.1 gs2 else F5run pods order now m (j+1) st gs
def F5(l:List Budget)(pods:List Pod)(order:List Int)(ex:Int)(now:Int):Option Bool:=(F5kb l pods order ex now).bind fun q=>match q with
 |Sum.inl b=>some b
 |Sum.inr _=>(F5kd l pods order ex now).bind fun fs=>(ck (fs.length≤4294967290∧order.length≤4294967290)).bind fun _=>(F5init fs).bind fun gs=>(F5run pods order now order.length 0 fs gs).bind fun gw=>(F5ky pods fs gw).bind fun r=>match r with
  |Sum.inl _=>some false
  |Sum.inr _=>F5kz
def opsOf:AC→List AStep
 | .reg l=>l
 | .regd l=>l
 |_=>[]
def oKi:List AStep:=opsOf cF5ki
def oKz:AStep:=⟨none,none,.store 1 (.t 84) (.t 83),[0,1,2,3,4,5,6,7,8,9,10,11,12],(.lone [])⟩
def cMK:AC:= .reg (opsOf cF5ke++([sq 65 (.mk 1 24 [.sl []] (.t 64) (.t 64))]++opsOf cF5kf))
def cX6:AC:= .reg (opsOf cF5kt++(opsOf cF5ku++(opsOf cF5kv++[su (.store 1 (.t 132) (.t 131))])))
def cK2:AC:= .seq cF5kh (.seq (.block 3 (.regd (oKi++[oKz]))) cF5kj)
def cK6:AC:= .seq cF5ks (.seq (.block 7 cX6) cF5kw)
def cK4:AC:= .seq cF5km (.seq (.block 5 (.seq cF5kn (.seq cF5ko (.seq cF5kp (.seq cF5kq (.seq cF5kr (.block 6 (.loop cK6)))))))) cF5kx)
def a5:AFn:=⟨169,[.tmp 10],.seq cF5ka (.seq cF5kb (.seq cF5kc (.seq cF5kd (.seq cMK (.seq (.seq cF5kg (.block 2 (.loop cK2))) (.seq cF5kk (.seq (.seq cF5kl (.block 4 (.loop cK4))) (.seq cF5ky cF5kz))))))))⟩
theorem a5_ok:afn Try.prog 5=some a5.er:=by kernel_rfl
theorem zeros_ok:zeroOk Try.prog:=zeroOk_of (by kernel_rfl)
def nilD:D:= .v (.slice none 0 0)
def rowV(p:Value×List WorkItem):D:= .v p.1
def enV(p:Value×List WorkItem):Option AE:=some (p.1,2,p.2.map eWorkItem)
def Gn(al:List (Option AE))(gs:List (Value×List WorkItem)):Prop:=∃ps:List Nat,ps.length=gs.length∧(∀(i:Nat) p g,ps[i]? =some p→gs[i]? =some g→al[p]? =some (enV g))∧∀(i j:Nat) p,ps[i]? =some p→ps[j]? =some p→i=j
theorem Gn.nil:Gn [] []:=⟨[],rfl,fun i p g h=>by simp at h,fun i j p h=>by simp at h⟩
theorem Gn.lt{al:List (Option AE)}{gs:List (Value×List WorkItem)}{ps:List Nat}(h1:ps.length=gs.length)(h2:∀(i:Nat) p g,ps[i]? =some p→gs[i]? =some g→al[p]? =some (enV g)){i p:Nat}(h:ps[i]? =some p):p<al.length:=by
 have hi:=(List.getElem?_eq_some_iff.1 h).1
 exact(List.getElem?_eq_some_iff.1 (h2 i p _ h (List.getElem?_eq_getElem (by omega)))).1
theorem Gn.push{al:List (Option AE)}{gs:List (Value×List WorkItem)}(h:Gn al gs)(g:Value×List WorkItem):Gn (al++[enV g]) (gs++[g]):=by
 obtain⟨ps,h1,h2,h3⟩:=h
 refine⟨ps++[al.length],by simp[h1],fun i p g' hp hg=>?_,fun i j p hi hj=>?_⟩
 ·by_cases hlt:i<ps.length
  ·rw[List.getElem?_append_left hlt]at hp
   rw[List.getElem?_append_left (by omega)]at hg
   rw[List.getElem?_append_left (Gn.lt h1 h2 hp)]
   exact h2 i p g' hp hg
  ·rw[List.getElem?_append_right (by omega)]at hp hg
   have hi0:i-ps.length=0:=by
    have:=(List.getElem?_eq_some_iff.1 hp).1;simp at this;omega
   rw[hi0]at hp;rw[show i-gs.length=0 by omega]at hg
   simp only[List.getElem?_cons_zero,Option.some.injEq]at hp hg
   subst hp;subst hg
   simp
 ·have key:∀(i:Nat),(ps++[al.length])[i]? =some p→(i<ps.length∧ps[i]? =some p∧p<al.length)∨(i=ps.length∧p=al.length):=fun i hi=>by
   by_cases hlt:i<ps.length
   ·rw[List.getElem?_append_left hlt]at hi
    exact .inl ⟨hlt,hi,Gn.lt h1 h2 hi⟩
   ·rw[List.getElem?_append_right (by omega)]at hi
    have hi0:i-ps.length=0:=by
     have:=(List.getElem?_eq_some_iff.1 hi).1;simp at this;omega
    rw[hi0]at hi
    simp only[List.getElem?_cons_zero,Option.some.injEq]at hi
    exact .inr ⟨by omega,hi.symm⟩
  rcases key i hi with⟨_,a,b⟩|⟨a,b⟩<;>rcases key j hj with⟨_,c,d⟩|⟨c,d⟩
  ·exact h3 i j p a c
  ·omega
  ·omega
  ·omega
theorem Gn.at{al:List (Option AE)}{A B:List (Value×List WorkItem)}{g:Value×List WorkItem}(h:Gn al (A++g::B)):∃p,al[p]? =some (enV g)∧∀g2,Gn (al.set p none++[enV g2]) (A++g2::B):=by
 obtain⟨ps,h1,h2,h3⟩:=h
 have hlt:A.length<ps.length:=by rw[h1];simp
 obtain⟨p,hp⟩:∃p,ps[A.length]? =some p:=⟨_,List.getElem?_eq_getElem hlt⟩
 refine⟨p,h2 _ p g hp (by simp),fun g2=>⟨ps.set A.length al.length,by simp[h1],fun i q g' hq hg=>?_,fun i j q hi hj=>?_⟩⟩
 ·rw[List.getElem?_set]at hq
  by_cases hi:A.length=i
  ·rw[if_pos hi,if_pos (by omega)]at hq
   cases hq
   subst hi
   simp only[List.getElem?_append_right (Nat.le_refl _),Nat.sub_self,List.getElem?_cons_zero,Option.some.injEq]at hg
   subst hg
   rw[List.getElem?_append_right (by simp)];simp
  ·rw[if_neg hi]at hq
   have hne:q≠p:=fun e=>hi (h3 A.length i p hp (e▸hq))
   have hg':(A++g::B)[i]? =some g':=by
    rw[←hg]
    rw[List.getElem?_append,List.getElem?_append]
    split
    ·rfl
    ·obtain⟨k,hk⟩:∃k,i-A.length=k+1:=⟨i-A.length-1,by omega⟩
     rw[hk];rfl
   have:=h2 i q g' hq hg'
   rw[List.getElem?_append_left (by simpa using Gn.lt h1 h2 hq),List.getElem?_set_ne (fun e=>hne e.symm)]
   exact this
 ·have key:∀(i:Nat),(ps.set A.length al.length)[i]? =some q→(i=A.length∧q=al.length)∨(i≠A.length∧ps[i]? =some q∧q<al.length):=fun i hi=>by
   rw[List.getElem?_set]at hi
   by_cases he:A.length=i
   ·rw[if_pos he,if_pos (by omega)]at hi;cases hi;exact .inl ⟨he.symm,rfl⟩
   ·rw[if_neg he]at hi;exact .inr ⟨fun e=>he e.symm,hi,Gn.lt h1 h2 hi⟩
  rcases key i hi with⟨a,b⟩|⟨_,a,b⟩<;>rcases key j hj with⟨c,d⟩|⟨_,c,d⟩
  ·omega
  ·omega
  ·omega
  ·exact h3 i j q a c
theorem piece_opsD{P:Program}{n m:Nat}{s:St}{ops:List AStep}{Rn:St→Prop}{Q:XT→St→Prop}(h:sK P n m (.regd ops) [] (sM n m Rn Q) s):vcD P s.heap ops 0 s.slots [] fun s'=>∃s'',View n m s' s''∧Rn s'':=by
 rw[sK_eq,sM_eq]at h;exact h
theorem WS.tell{P:Program}{n:Nat}{w0:World}{F0:Nat→Prop}{s:St}{l:List (Option AE)}{K:Lks}{steps:List AStep}{T J:St→List (Option AE)→Lks→Prop}(h:Tell n w0 F0 J s l K)(h2:∀s' l' K',J s' l' K'→WS P n w0 F0 steps T s' l' K'):WS P n w0 F0 steps T s l K:=by
 intro ops mask Q rest0 os k h1 h3 h4 φ F a w hs hQ
 obtain⟨s',l',K',φ',F',hJ,h5⟩:=h φ F a w hs
 exact h2 s' l' K' hJ ops mask Q rest0 os k h1 h3 h4 φ' F' a w h5 hQ
section
variable {w0:World} {F0:Nat→Prop} {R:RB} {pods:List Pod} {order:List Int} {now:Int} {fs:List Budget}
theorem kp_loop2{gs:List (List WorkItem)}(hb:fs.length≤4294967290)(hi:F5init fs=some gs)
 (hE:∀(ps:List (Value×List WorkItem)) (al:List (Option AE)),ps.map Prod.snd=gs→Gn al ps→R .normal (kC pods order now fs (ps.map rowV)) al []):
 WB Try.prog 169 w0 F0 (.block 2 (.loop cK2)) R (kC2 pods order now fs (List.replicate fs.length nilD) 0) [] []:=by
 refine WB.block (WB.loop (fun k s al K=>∃(dn:List (Value×List WorkItem)) (rest:List Budget) (gs2:List (List WorkItem)) (rows:List D),k=rest.length∧fs.drop dn.length=rest∧dn.length≤fs.length∧F5init rest=some gs2∧dn.map Prod.snd++gs2=gs∧rows=dn.map rowV++List.replicate rest.length nilD∧K=[]∧Gn al dn∧
  s=kC2 pods order now fs rows (dn.length:Nat)) ⟨fs.length,[],fs,gs,_,rfl,rfl,Nat.zero_le _,hi,rfl,rfl,rfl,Gn.nil,rfl⟩ ?_)
 rintro k s al K ⟨dn,rest,gs2,rows,rfl,hdrop,hle,hrest,hgs,hrows,rfl,hG,rfl⟩
 have hlen:dn.length+rest.length=fs.length:=by rw[←hdrop];simp;omega
 cases rest with
 |nil=>
  refine WB.pseq kNil (F5kh_ok (r:=Sum.inr ()) (by unfold F5kh;rw[if_neg (by simp at hlen;omega)])) (by rintro _ ⟨_,h,_⟩;cases h) ?_ noR
  rintro _ _ ⟨rfl,_,_,rfl⟩
  cases hrest
  simp only[List.length_nil,List.replicate_zero,List.append_nil]at hrows hgs
  subst hrows
  exact Tell.refl (hE dn al hgs hG)
 |cons b rest=>
  have hb2:fs[dn.length]? =some b:=by rw[←List.head?_drop,hdrop];rfl
  simp only[F5init,Option.bind_eq_some_iff]at hrest
  obtain⟨g,hg,gs3,hgs3,hq⟩:=hrest
  cases hq
  have hrows':rows=dn.map rowV++nilD::List.replicate rest.length nilD:=hrows
  have hrd:rdI rows (dn.length:Int)=some nilD:=by
   have:=@ev_rdm D (dn.map rowV) (List.replicate rest.length nilD) nilD
   rw[List.length_map]at this;rw[hrows'];exact this
  have hrl:rows.length=fs.length:=by rw[hrows',←hlen];simp
  refine WB.pseq kNil (F5kh_ok (r:=Sum.inl ()) (by unfold F5kh;rw[if_pos (by simp at hlen;omega)])) ?_ (by rintro _ _ ⟨_,_,h,_⟩;cases h) noR
  rintro _ ⟨_,_,rfl⟩
  refine WB.seq (WB.block ?_)
  refine WB.drawR (steps:=oKi) (st:=oKz) rfl rfl rfl (by decide) (by decide) (piece_opsD (F5ki_ok (go:=rows) (i:=(dn.length:Nat)) (r:=g) ?_)) ?_
  ·unfold F5ki
   rw[hrd,ev_rdn hb2]
   show(rdN rows _).bind _=_
   unfold rdN
   rw[hrd]
   show(apI ([]:List WorkItem) b.Disrupted).bind _=_
   rw[hg];rfl
  rintro s' ⟨s2,hv,rfl⟩
  refine(Tell.view kNil hv).trans ?_
  rintro _ _ _ ⟨rfl,rfl,rfl⟩
  refine(Tell.expelC (t:=83) (id:=1) (e:=0) (sz:=2) (rows:=g.map eWorkItem) (by rw[List.length_map];rfl) rfl).trans ?_
  rintro _ _ _ ⟨u,rfl,rfl,rfl⟩
  refine Tell.refl ⟨0,0,dn.length,rows.map eRaw,eRaw nilD,eRaw (.v u),.c (.d (.v u)),rfl,rfl,?_,rfl,rfl,rfl,by decide,?_⟩
  ·rw[List.getElem?_map]
   have:=(rdI_some hrd).2.1
   simp only[Int.toNat_natCast]at this
   rw[this];rfl
  ·have hr2:(rows.map eRaw).set dn.length (eRaw (.v u))=(((dn++[(u,g)]).map rowV)++List.replicate rest.length nilD).map eRaw:=by
    have:=@ev_setm D (dn.map rowV) (List.replicate rest.length nilD) nilD (.v u)
    rw[List.length_map]at this
    rw[←List.map_set,hrows',this];simp[rowV]
   have hr3:(((dn++[(u,g)]).map rowV)++List.replicate rest.length nilD).length=rows.length:=by rw[hrl,←hlen];simp<;>omega
   generalize hrows2:((dn++[(u,g)]).map rowV)++List.replicate rest.length nilD=rows2 at hr2 hr3
   rw[hr2]
   refine WB.tell (Tell.view (s':=kC2 pods order now fs rows2 (dn.length:Nat)) (m:=0) kNil ?_) ?_
   ·unfold kC2;rw[hr3]
    exact eV [some 0] (hs:=by simp only[ZZ.down,Nat.reduceEqDiff,reduceCtorEq,Nat.reduceAdd,Nat.reduceLeDiff,Nat.reduceLT,Nat.reduceBNe,EE.down];exact Nat.le_of_eq hr3.symm)
   rintro _ _ _ ⟨rfl,rfl,rfl⟩
   refine WB.pc kNil (F5kj_ok rfl) ?_ noX noR
   rintro _ rfl
   refine Tell.refl ⟨rest.length,by simp,dn++[(u,g)],rest,gs3,rows2,rfl,by rw[List.length_append,←List.drop_drop,hdrop];rfl,by simp at hlen⊢;omega,hgs3,by rw[←hgs];simp,hrows2.symm,rfl,hG.push (u,g),?_⟩
   rw[wrapN (by omega)]
   simp[kC2]
theorem kp_loop6{st:List Budget}{j:Int}{key:ByteArray}{gs:List (List WorkItem)}{ps:List (Value×List WorkItem)}{al:List (Option AE)}(hb:ps.length≤4294967290)(hG:Gn al ps)(ha:F5add key (ps.map Prod.snd)=some gs)
 (hE:∀(ps2:List (Value×List WorkItem)) (al2:List (Option AE)),ps2.map Prod.snd=gs→Gn al2 ps2→R .normal (kC4 pods order now fs (ps2.map rowV) st j) al2 []):
 WB Try.prog 169 w0 F0 (.block 6 (.loop cK6)) R (kC6 pods order now fs (ps.map rowV) st j key 0) al []:=by
 refine WB.block (WB.loop (fun k s al K=>∃(dn rest:List (Value×List WorkItem)) (gs2:List (List WorkItem)) (rows:List D),k=rest.length∧dn.length+rest.length=ps.length∧F5add key (rest.map Prod.snd)=some gs2∧dn.map Prod.snd++gs2=gs∧rows=(dn++rest).map rowV∧K=[]∧Gn al (dn++rest)∧
  s=kC6 pods order now fs rows st j key (dn.length:Nat)) ⟨ps.length,[],ps,gs,_,rfl,by simp,ha,rfl,rfl,rfl,hG,rfl⟩ ?_)
 rintro k s al K ⟨dn,rest,gs2,rows,rfl,hlen,hrest,hgs,hrows,rfl,hG,rfl⟩
 have hrl:rows.length=dn.length+rest.length:=by rw[hrows];simp
 cases rest with
 |nil=>
  refine WB.pseq kNil (F5ks_ok (r:=Sum.inr ()) (by unfold F5ks;rw[if_neg (by simp at hrl;omega)])) (by rintro _ ⟨_,h,_⟩;cases h) ?_ noR
  rintro _ _ ⟨rfl,_,_,rfl⟩
  cases hrest
  simp only[List.append_nil]at hrows hgs hG
  subst hrows
  exact Tell.refl (hE dn al hgs hG)
 |cons g rest=>
  obtain⟨u,ws⟩:=g
  simp only[List.map_cons,F5add,Option.bind_eq_some_iff]at hrest
  obtain⟨ws2,hws2,gs3,hgs3,hq⟩:=hrest
  cases hq
  have hrows':rows=dn.map rowV++ .v u::rest.map rowV:=by rw[hrows];simp[rowV]
  have hrd:rdI rows (dn.length:Int)=some (.v u):=by
   have:=@ev_rdm D (dn.map rowV) (rest.map rowV) (.v u)
   rw[List.length_map]at this;rw[hrows'];exact this
  obtain⟨p,hp,hG2⟩:=hG.at
  refine WB.pseq kNil (F5ks_ok (r:=Sum.inl ()) (by unfold F5ks;rw[if_pos (by simp at hrl;omega)])) ?_ (by rintro _ _ ⟨_,_,h,_⟩;cases h) noR
  rintro _ ⟨_,_,rfl⟩
  refine WB.seq (WB.block ?_)
  refine WB.ws (WS.append (WS.ops (piece_ops (F5kt_ok (go:=rows) (k:=(dn.length:Nat)) (r:= .v u) (by unfold F5kt;rw[hrd];rfl))) ?_))
  rintro s' ⟨s2,hv,rfl⟩
  refine(Tell.view kNil hv).trans ?_
  rintro _ _ _ ⟨rfl,rfl,rfl⟩
  refine(Tell.adoptC (t:=127) (i:=p) (sz:=2) (u:=u) (rows:=ws.map eWorkItem) rfl hp).trans ?_
  rintro _ _ _ ⟨rfl,rfl,rfl⟩
  refine Tell.unlink.trans ?_
  rintro _ _ _ ⟨rfl,rfl,rfl⟩
  rw[List.length_map]
  refine(Tell.view (s':=kU pods order now fs rows st j key (dn.length:Nat) ws) (m:=0) kNil ?_).trans ?_
  ·exact eV [some 0,some 1]
  rintro _ _ _ ⟨rfl,rfl,rfl⟩
  refine Tell.refl (WS.append (WS.ops (piece_ops (F5ku_ok (r:=ws2) (by unfold F5ku;rw[hws2];rfl))) ?_))
  rintro s' ⟨s2,hv,rfl⟩
  refine(Tell.view kNil hv).trans ?_
  rintro _ _ _ ⟨rfl,rfl,rfl⟩
  refine(Tell.expelC (t:=131) (id:=1) (e:=0) (sz:=2) (rows:=ws2.map eWorkItem) (by rw[List.length_map];rfl) rfl).trans ?_
  rintro _ _ _ ⟨u2,rfl,rfl,rfl⟩
  refine(Tell.view (s':=kV pods order now fs rows st j key (dn.length:Nat) (.v u2)) (m:=0) kNil ?_).trans ?_
  ·exact eV [some 0,some 1]
  rintro _ _ _ ⟨rfl,rfl,rfl⟩
  refine Tell.refl (WS.append (WS.ops (piece_ops (F5kv_ok (r:=()) (by unfold F5kv;rw[hrd];rfl))) ?_))
  rintro s' ⟨s2,hv,rfl⟩
  refine(Tell.view kNil hv).trans ?_
  rintro _ _ _ ⟨rfl,rfl,rfl⟩
  refine Tell.refl (WS.raw rfl rfl rfl ⟨0,0,dn.length,rows.map eRaw,eRaw (.v u),eRaw (.v u2),.c (.d (.v u2)),rfl,rfl,?_,rfl,rfl,rfl,by decide,?_⟩)
  ·rw[List.getElem?_map]
   have:=(rdI_some hrd).2.1
   simp only[Int.toNat_natCast]at this
   rw[this];rfl
  ·have hr2:(rows.map eRaw).set dn.length (eRaw (.v u2))=((dn++[(u2,ws2)]++rest).map rowV).map eRaw:=by
    have:=@ev_setm D (dn.map rowV) (rest.map rowV) (.v u) (.v u2)
    rw[List.length_map]at this
    rw[←List.map_set,hrows',this];simp[rowV]
   have hr3:((dn++[(u2,ws2)]++rest).map rowV).length=rows.length:=by rw[hrl];simp<;>omega
   generalize hrows2:(dn++[(u2,ws2)]++rest).map rowV=rows2 at hr2 hr3
   rw[hr2]
   refine WB.tell (Tell.view (s':=kC6 pods order now fs rows2 st j key (dn.length:Nat)) (m:=0) kNil ?_) ?_
   ·unfold kC6;rw[hr3]
    exact eV [some 0] (hs:=by simp only[ZZ.down,Nat.reduceEqDiff,reduceCtorEq,Nat.reduceAdd,Nat.reduceLeDiff,Nat.reduceLT,Nat.reduceBNe,EE.down];exact Nat.le_of_eq hr3.symm)
   rintro _ _ _ ⟨rfl,rfl,rfl⟩
   refine WB.pc kNil (F5kw_ok rfl) ?_ noX noR
   rintro _ rfl
   refine Tell.refl ⟨rest.length,by simp,dn++[(u2,ws2)],rest,gs3,rows2,rfl,by simp at hlen⊢;omega,hgs3,by rw[←hgs];simp,hrows2.symm,rfl,by have h9:=hG2 (u2,ws2);simp only[enV]at h9;simpa using h9,?_⟩
   rw[wrapN (by simp at hlen;omega)]
   simp[kC6]
theorem F5add_len{key:ByteArray}:∀{gs gs2:List (List WorkItem)},F5add key gs=some gs2→gs2.length=gs.length
 |[],gs2,h=>by cases h;rfl
 |g::r,gs2,h=>by
  simp only[F5add,Option.bind_eq_some_iff]at h
  obtain⟨_,_,gs3,h3,h4⟩:=h
  cases h4;simp[F5add_len h3]
theorem kp_loop4{gw:List (List WorkItem)}{ps:List (Value×List WorkItem)}{al:List (Option AE)}(ho:order.length≤4294967290)(hb:ps.length≤4294967290)(hG:Gn al ps)(hr:F5run pods order now order.length 0 fs (ps.map Prod.snd)=some gw)
 (hE:∀(ps2:List (Value×List WorkItem)) (al2:List (Option AE)),ps2.map Prod.snd=gw→Gn al2 ps2→R .normal ⟨[(1,oc (dM (pods.map ePod))),(11,oc (dM (fs.map eBudget))),(13,oc (.own 0 0 0 ((ps2.map rowV).length) none))],[some (.arr 0 1 ((ps2.map rowV).map eRaw))]⟩ al2 []):
 WB Try.prog 169 w0 F0 (.block 4 (.loop cK4)) R (kC4 pods order now fs (ps.map rowV) fs 0) al []:=by
 refine WB.block (WB.loop (fun k s al K=>∃(j:Nat) (st:List Budget) (ps:List (Value×List WorkItem)),k=order.length-j∧j≤order.length∧ps.length≤4294967290∧F5run pods order now (order.length-j) j st (ps.map Prod.snd)=some gw∧K=[]∧Gn al ps∧
  s=kC4 pods order now fs (ps.map rowV) st (j:Nat)) ⟨order.length,0,fs,ps,by simp,Nat.zero_le _,hb,by simpa using hr,rfl,hG,rfl⟩ ?_)
 rintro k s al K ⟨j,st,ps,rfl,hj,hb,hrun,rfl,hG,rfl⟩
 by_cases hlt:j<order.length
 ·obtain⟨m,hm⟩:∃m,order.length-j=m+1:=⟨order.length-j-1,by omega⟩
  rw[hm]at hrun
  simp only[F5run,Option.bind_eq_some_iff]at hrun
  obtain⟨key,hkey,t,ht,hrun⟩:=hrun
  refine WB.pseq kNil (F5km_ok (r:=Sum.inl ()) (by unfold F5km;rw[if_pos (by omega)])) ?_ (by rintro _ _ ⟨_,_,h,_⟩;cases h) noR
  rintro _ ⟨_,_,rfl⟩
  have round:∀(st2:List Budget) (ps2:List (Value×List WorkItem)) (al2:List (Option AE)),ps2.length≤4294967290→Gn al2 ps2→F5run pods order now m (j+1) st2 (ps2.map Prod.snd)=some gw→
   WB Try.prog 169 w0 F0 cF5kx (thenB (fun s' l' K'=>∃k',k'<order.length-j∧∃(j:Nat) (st:List Budget) (ps:List (Value×List WorkItem)),k'=order.length-j∧j≤order.length∧ps.length≤4294967290∧F5run pods order now (order.length-j) j st (ps.map Prod.snd)=some gw∧K'=[]∧Gn l' ps∧
    s'=kC4 pods order now fs (ps.map rowV) st (j:Nat)) (blockB 4 R)) (kC4 pods order now fs (ps2.map rowV) st2 (j:Nat)) al2 []:=by
   intro st2 ps2 al2 hb2 hG2 hr2
   refine WB.pc kNil (F5kx_ok rfl) ?_ noX noR
   rintro _ rfl
   refine Tell.refl ⟨order.length-(j+1),by omega,j+1,st2,ps2,rfl,by omega,hb2,by rw[show order.length-(j+1)=m by omega];exact hr2,rfl,hG2,?_⟩
   rw[wrapN (by omega)]
   rfl
  refine WB.seq (WB.block ?_)
  refine WB.pseq kNil (F5kn_ok (r:=key) hkey) ?_ noX noR
  rintro _ rfl
  refine WB.pseq kNil (F5ko_ok (r:=t) (by unfold F5ko;rw[ht];rfl)) ?_ noX noR
  rintro _ rfl
  by_cases he:t.2=0
  ·rw[if_pos he]at hrun
   simp only[Option.bind_eq_some_iff]at hrun
   obtain⟨gs2,hgs2,hrun⟩:=hrun
   refine WB.pseq kNil (F5kp_ok (r:=Sum.inr ()) (by unfold F5kp;rw[if_neg (by simpa using he)])) ?_ (by rintro _ _ ⟨_,_,h,_⟩;cases h) noR
   rintro _ ⟨_,_,rfl⟩
   refine WB.pseq kNil (F5kq_ok rfl) ?_ noX noR
   rintro _ rfl
   refine WB.pseq kNil (F5kr_ok rfl) ?_ noX noR
   rintro _ rfl
   refine kp_loop6 hb hG hgs2 fun ps2 al2 hps2 hG2=>?_
   refine round t.1 ps2 al2 ?_ hG2 (by rw[hps2];exact hrun)
   have:=F5add_len hgs2
   rw[←hps2]at this
   simp only[List.length_map]at this
   omega
  ·rw[if_neg he]at hrun
   refine WB.pseq kNil (F5kp_ok (r:=Sum.inl ()) (by unfold F5kp;rw[if_pos he])) (by rintro _ ⟨_,h,_⟩;cases h) ?_ noR
   rintro _ _ ⟨rfl,_,_,rfl⟩
   exact Tell.refl (round st ps al hb hG hrun)
 ·have hj2:order.length-j=0:=by omega
  rw[hj2]at hrun
  cases hrun
  refine WB.pseq kNil (F5km_ok (r:=Sum.inr ()) (by unfold F5km;rw[if_neg (by omega)])) (by rintro _ ⟨_,h,_⟩;cases h) ?_ noR
  rintro _ _ ⟨rfl,_,_,rfl⟩
  exact Tell.refl (hE ps al rfl hG)
theorem kp_end{b:Bool}:endQ 0 [.tmp 10] [.c (dB b)] [] .ret ⟨[(10,oc (dB b))],[]⟩:=by
 have:sE 0 [.tmp 10] [.c (dB b)] [] .ret ⟨[(10,oc (dB b))],[]⟩:=by
  refine ww ?_
  exact eF []
 rw[sE_eq]at this;exact this
theorem F5init_len:∀{fs:List Budget} {gs:List (List WorkItem)},F5init fs=some gs→gs.length=fs.length
 |[],gs,h=>by cases h;rfl
 |b::r,gs,h=>by
  simp only[F5init,Option.bind_eq_some_iff]at h
  obtain⟨_,_,gs3,h3,h4⟩:=h
  cases h4;simp[F5init_len h3]
end
theorem F5_ok{l pods order r}{ex now:Int}(h:F5 l pods order ex now=some r):
 CallD Try.prog 5 [.c (dM (l.map eBudget)),.c (dM (pods.map ePod)),.c (dM (order.map (eK .u8))),.c (dI ex),.c (dI now)] [] (tupV [.c (dB r)]) []:=by
 simp only[F5,Option.bind_eq_some_iff]at h
 obtain⟨q,hq,h⟩:=h
 refine callD_al (A:=a5) a5_ok (show 5≤169 by decide) fun w0 F0=>?_
 refine WB.pseq kNil (F5ka_ok (l:=l) (pods:=pods) (order:=order) (ex:=ex) (now:=now) rfl) ?_ noX noR
 rintro _ rfl
 refine WB.pseq kNil (F5kb_ok (r:=q) hq) ?_ noX ?_
 ·rintro _ ⟨_,rfl,rfl⟩
  simp only[Option.bind_eq_some_iff]at h
  obtain⟨fs,hfs,_,hck,gs,hgs,gw,hgw,rr,hrr,h⟩:=h
  have hck:=ck_some hck
  refine WB.pseq kNil (F5kc_ok rfl) ?_ noX noR
  rintro _ rfl
  refine WB.pseq kNil (F5kd_ok (r:=fs) hfs) ?_ noX noR
  rintro _ rfl
  refine WB.seq (WB.ws (WS.append (WS.ops (piece_ops (F5ke_ok (fs:=fs) rfl)) ?_)))
  rintro s' ⟨s2,hv,rfl⟩
  refine(Tell.view kNil hv).trans ?_
  rintro _ _ _ ⟨rfl,rfl,rfl⟩
  refine Tell.refl (WS.append (WS.mk (k:=fs.length) (c:=fs.length) zeros_ok rfl rfl rfl rfl rfl (Nat.le_refl _) (by omega) ?_))
  have hrl:(List.replicate fs.length nilD).length=fs.length:=by simp
  have hrm:List.replicate fs.length [D.v (.slice none 0 0)]=(List.replicate fs.length nilD).map eRaw:=by rw[List.map_replicate];rfl
  rw[hrm]
  refine WS.tell (Tell.view (s':=kF pods order now fs (List.replicate fs.length nilD) (fs.length:Int)) (m:=0) kNil ?_) ?_
  ·unfold kF;rw[hrl]
   exact eV [some 0] (hs:=by simp only[ZZ.down,Nat.reduceEqDiff,reduceCtorEq,Nat.reduceAdd,Nat.reduceLeDiff,Nat.reduceLT,Nat.reduceBNe,EE.down];exact Nat.le_of_eq hrl.symm)
  rintro _ _ _ ⟨rfl,rfl,rfl⟩
  refine WS.ops (piece_ops (F5kf_ok (go:=List.replicate fs.length nilD) rfl)) ?_
  rintro s' ⟨s2,hv,rfl⟩
  refine(Tell.view kNil hv).trans ?_
  rintro _ _ _ ⟨rfl,rfl,rfl⟩
  refine Tell.refl ?_
  refine WB.seq (WB.seq (WB.pc kNil (F5kg_ok rfl) ?_ noX noR))
  rintro _ rfl
  refine Tell.refl (kp_loop2 hck.1 hgs fun ps al hps hG=>?_)
  refine WB.pseq kNil (F5kk_ok rfl) ?_ noX noR
  rintro _ rfl
  refine WB.seq (WB.pseq kNil (F5kl_ok rfl) ?_ noX noR)
  rintro _ rfl
  have hpl:ps.length≤4294967290:=by
   have:=F5init_len hgs
   rw[←hps]at this
   simp only[List.length_map]at this
   omega
  refine kp_loop4 hck.2 hpl hG (by rw[hps];exact hgw) fun ps2 al2 hps2 hG2=>?_
  refine WB.tell (Tell.giveUp (o:=0) (e:=0) (so:=1) (R:=(ps2.map rowV).map eRaw) (R':=gw.map (eL eWorkItem)) rfl (by rw[←hps2];simp) ?_) ?_
  ·intro i r1 r2 h1 h2
   rw[←hps2]at h2
   simp only[List.getElem?_map,Option.map_map]at h1 h2
   cases hp:ps2[i]? with
   |none=>rw[hp]at h1;cases h1
   |some p=>
    rw[hp]at h1 h2
    cases h1;cases h2
    obtain⟨qs,g1,g2,g3⟩:=hG2
    have hi:=(List.getElem?_eq_some_iff.1 hp).1
    obtain⟨z,hz⟩:∃z,qs[i]? =some z:=⟨_,List.getElem?_eq_getElem (by omega)⟩
    refine⟨rfl,fun j d d' h3 h4=> .inr ⟨z,p.1,2,p.2.map eWorkItem,?_,g2 i z p hz hp,?_⟩⟩
    ·cases j with
     |zero=>exact(Option.some.inj h3).symm
     |succ j=>cases h3
    ·cases j with
     |zero=>exact(Option.some.inj h4).symm
     |succ j=>cases h4
  rintro _ _ _ ⟨rfl,rfl,rfl⟩
  have hgl:(ps2.map rowV).length=gw.length:=by rw[←hps2];simp
  rw[hgl]
  refine WB.pseq kNil (F5ky_ok (r:=rr) hrr) ?_ noX ?_
  ·rintro _ ⟨_,rfl,rfl⟩
   refine WB.pc kNil (F5kz_ok (r:=r) h) noR noX ?_
   rintro _ rfl
   exact Tell.refl kp_end
  ·rintro _ ⟨_,rfl,rfl⟩
   cases h
   exact Tell.refl kp_end
 ·rintro _ ⟨o0,rfl,rfl⟩
  cases h
  exact Tell.refl kp_end
end Go.Proofs.Ytedgocbpegllaaa
