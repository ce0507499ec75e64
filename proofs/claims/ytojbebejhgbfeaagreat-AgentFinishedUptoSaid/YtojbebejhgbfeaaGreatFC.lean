/- Code, and what it asks. -/
import Derived.Test.YtojbebejhgbfeaaGreatFB2
import Derived.Lib.Overlaps
open List renaming getElem?_eq_some_iff->XC,getElem?_eq_getElem->XD,all_eq_true->XF,mem_range->XG,mem_cons_of_mem->XH,mem_cons->XI,range->XJ,getElem?_eq_none->XK,mem_append_left->XL,mem_cons_self->XM,length_cons->XN,getElem?_take->XO,flatMap_cons->XP,range'->XQ,mem_filter->XR,getElem?_cons_zero->XS,filter_cons_of_pos->XU,filter_cons_of_neg->XV,mem_iff_getElem?->XW,mem_of_mem_drop->XX,mem_of_getElem?->XY,getElem?_drop->XZ,cons_append->X0,any_eq_true->X1,nil_append->X2,mem_append->X3,replicate->X4,mem_map->X5,mapM->X6
open Option renaming some->X7,map_eq_some_iff->X8,bind_eq_some_iff->X9,none->Ya,none_or->Yb,map_some->Yc,some_or->Yd,getD_some->Ye,bind_some->Yf
open Bool renaming false->Yg,true->Yh,false_eq_true->Yi,and_eq_true->Yj,or_eq_true->Yk,not_eq_true'->Yl,false_or->Ym
open Go renaming Program->Yn,World->Yo,Oper->Yp,ResultVar->Yq,FuncId->Yr,MapEntry->Ys,sizeOf->Yt
open Array renaming getD->Yu,replicate->Yv,getElem?_eq_getElem->Yw,getElem?_setIfInBounds_ne->Yx,getElem?_eq_some_iff->Yy,length_toList->Yz,all_eq_true'->YA
open Option.some renaming injEq->YB
open Nat renaming le_refl->YC,zero_add->YD,zero_le->YE,zero_testBit->YF,strongRecOn->YG,ne_of_lt->YH
open Go.Region renaming wanted->YI,binds->YJ,ready->YK
open Ne renaming symm->YL
open Go.IntKind renaming signed->YM,wrap->YN,bits->YO,i64->YP
open Go.Extern.SlicesOverlaps renaming overlaps->YQ
open Go.Act renaming put->YR
open Go.Oper renaming wp_mono->YS
set_option linter.unusedVariables false
set_option linter.unusedSimpArgs false
set_option linter.unusedSectionVars false
namespace Go.Fw
def NB:O→Bool
 | .t _=>Yh
 | .k (.c (.d _))=>Yh
 |_=>Yg
def iD:jS→Option (Option Nat)
 | .mv x=>if NB x then X7 Ya else Ya
 | .ext x _=>if NB x then X7 Ya else Ya
 | .field _ _ x=>if NB x then X7 Ya else Ya
 | .bin .. | .not .. | .neg .. | .conv .. | .max .. | .min .. | .slen .. | .beq .. =>X7 Ya
 | .load _ (.t a)=>X7 (X7 a)
 | .fieldA _ (.t a)=>X7 (X7 a)
 | .indexA _ (.t a) _=>X7 (X7 a)
 | .len (.t a)=>X7 (X7 a)
 | .slice _ (.t a) _ _ Ya=>X7 (X7 a)
 |_=>Ya
def gC:C→List (Nat×bw)→Bool
 | .own id _ _ _ _,wr=>wr.all fun p=>p.1 !=id
 | .pt id _,wr=>wr.all fun p=>p.1 !=id
 | .pe id _ _ _,wr=>wr.all fun p=>p.1 !=id
 |_,_=>Yh
def fu:Option AV→List (Nat×bw)→Bool
 |some (.one (.c c)),wr=>gC c wr
 |_,_=>Yg
def eP(aO:List (Nat×AV))(wr:List (Nat×bw)):List Nat→Bool
 |[]=>Yh
 |a::ts=>fu (lk aO a) wr&&eP aO wr ts
inductive Lone where
 |new (own:List Nat)
 |lone (ts:List Nat)
 deriving Inhabited
structure cq where
 dst:Option Nat
 guard:Option (Nat×Bool)
 op:jS
 fD:List Nat
 lone:Lone
 deriving Inhabited
inductive AC where
 |skip
 |reg (ops:List cq)
 |regd (ops:List cq)
 |seq (a b:AC)
 |cond (c:O) (a b:AC)
 |block (id:Nat) (a:AC)
 |loop (a:AC)
 |exit (id:Nat)
 |ret
 |sem (a:AC)
 deriving Inhabited
def AC.er:AC→AC
 | .seq a b=> .seq a.er b.er
 | .cond c a b=> .cond c a.er b.er
 | .block id a=> .block id a.er
 | .loop a=> .loop a.er
 | .sem a=>a.er
 |a=>a
inductive XT where
 |normal
 |exit (id:Nat)
 |ret
def dr:Out:=⟨X7 (.tup []),[]⟩
def fU(aO:List (Nat×AV))(g:Nat)(b:Bool):List (Nat×AV):=(g,.one (.c (.d (.v (.bool b)))))::aO
def gF(P:Yn):List cq→St→(St→Prop)→Prop
 |[],s,K=>K s
 |st::r,s,K=>match st.guard with
  |none=>AN P st.op s fun out=>gF P r (s.apply st.dst out) K
  |some (g,want)=>match lk s.aO g with
   |some (.one (.c (.d (.v (.bool t)))))=>(t=want→AN P st.op ⟨fU s.aO g want,s.heap⟩ fun out=>gF P r (St.apply ⟨fU s.aO g want,s.heap⟩ st.dst out) K)∧
     (t= !want→gF P r (St.apply ⟨fU s.aO g (!want),s.heap⟩ st.dst dr) K)
   |some (.tup [])=>gF P r (s.apply st.dst dr) K
   |_=>False
def gO:List (Nat×List (Nat×bw))→List (Nat×bw)
 |[]=>[]
 |(_,w)::r=>w++gO r
def tl(fD:List Nat):List (Nat×List (Nat×bw))→List (Nat×bw)
 |[]=>[]
 |(i,w)::r=>if fD.contains i then w++tl fD r else tl fD r
def oq(h:List (Option bw))(wl:List (Nat×List (Nat×bw)))(fD:List Nat):List (Option bw):=
 match wl with
 |[]=>h
 |wl=>fE (h++X4 ((fE h (gO wl)).length-h.length) Ya) (tl fD wl)
def pz(i:Nat)(w:List (Nat×bw))(wl:List (Nat×List (Nat×bw))):List (Nat×List (Nat×bw)):=
 match w with
 |[]=>wl
 |w=>wl++[(i,w)]
def fO(aO:List (Nat×AV))(dst:Option Nat)(v:Option AV):List (Nat×AV):=
 match dst with
 |some d=>match v with
  |some v=>(d,v)::aO
  |none=>aO.filter (·.1 !=d)
 |none=>aO
def OP(n:Nat)(wl:List (Nat×List (Nat×bw)))(own:List Nat)(x:Nat):Bool:=
 Nat.ble n x&&wl.all fun p=> !(p.2.any fun q=>q.1==x)||own.contains p.1
def r8(aO:List (Nat×AV))(h:List (Option bw))(wl:List (Nat×List (Nat×bw)))(lone:Lone)(wr:List (Nat×bw)):Prop:=
 wr=[]∨(∃ts,lone= .lone ts∧eP aO wr ts=Yh)∨∃own,(lone= .new own∨own=[])∧∀x∈wr,(fE h (gO wl)).length≤x.1∨OP h.length wl own x.1=Yh
def w9(P:Yn)(h:List (Option bw)):List cq→Nat→List (Nat×AV)→List (Nat×List (Nat×bw))→(St→Prop)→Prop
 |[],_,aO,wl,K=>K ⟨aO,fE h (gO wl)⟩
 |st::r,i,aO,wl,K=>match st.guard with
  |none=>jE P st.op ⟨aO,oq h wl st.fD⟩ fun out=>r8 aO h wl st.lone out.wr∧w9 P h r (i+1) (fO aO st.dst out.val) (pz i out.wr wl) K
  |some (g,want)=>match lk aO g with
   |some (.one (.c (.d (.v (.bool t)))))=>(t=want→jE P st.op ⟨fU aO g want,oq h wl st.fD⟩ fun out=>r8 (fU aO g want) h wl st.lone out.wr∧w9 P h r (i+1) (fO (fU aO g want) st.dst out.val) (pz i out.wr wl) K)∧
     (t= !want→w9 P h r (i+1) (fO (fU aO g (!want)) st.dst dr.val) wl K)
   |some (.tup [])=>w9 P h r (i+1) (fO aO st.dst dr.val) wl K
   |_=>False
structure gY(m:Nat)(φ:gP)(F:Nat→Prop)(G:eg)(w:Yo)(φ':gP)(F':Nat→Prop)(G':eg)(w':Yo):Prop where
 fY:∀b,F b→F' b∧w'.heap[b]? =w.heap[b]?
 bZ:∀id,id<m→gX φ w φ' w' id (G id) (G' id)
theorem ix.m{m φ F G w φ' F' G' w'}(h:ix φ F G w φ' F' G' w'):gY m φ F G w φ' F' G' w':=⟨h.fY,fun id _=>h.bZ id⟩
theorem gY.refl(m φ F G w):gY m φ F G w φ F G w:=(ix.refl φ F G w).m
theorem gY.trans{m φ F G w φ' F' G' w' φ'' F'' G'' w''}(h:gY m φ F G w φ' F' G' w')(h':gY m φ' F' G' w' φ'' F'' G'' w''):gY m φ F G w φ'' F'' G'' w'':=
 ⟨fun b hb=>⟨(h'.fY b (h.fY b hb).1).1,(h'.fY b (h.fY b hb).1).2.trans (h.fY b hb).2⟩,fun id hi=>(h.bZ id hi).trans (h'.bZ id hi)⟩
def qC(n m:Nat)(φ:gP)(F:Nat→Prop)(s:St)(w:Yo)(K:St→Prop)(a':Act)(w':Yo):Prop:=
 ∃s' φ' F',K s'∧dm n φ' F' s' a' w'∧Fr φ F w φ' F' w'∧gY m φ F (hp s.heap) w φ' F' (hp s'.heap) w'
def QA(n m:Nat)(φ:gP)(F:Nat→Prop)(s:St)(w:Yo)(Q:XT→St→Prop):Exit→Act→Yo→Prop
 | .normal,a',w'=>qC n m φ F s w (Q .normal) a' w'
 | .exit id,a',w'=>qC n m φ F s w (Q (.exit id)) a' w'
 | .ret,a',w'=>qC n m φ F s w (Q .ret) a' w'
 |_,_,_=>False
def QQ(P:Yn)(n m:Nat)(c:Code)(Q:XT→St→Prop)(s:St):Prop:=
 ∀φ F a w,dm n φ F s a w→c.wp P (QA n m φ F s w Q) a w
theorem dm.put{n φ F s a w}{φ' F' w'}(h:dm n φ F s a w){dst:Option Nat}(hd:∀d,dst=X7 d→d<n){out:Out}{v:Value}
 (hv:∀av,out.val=X7 av→ec φ' F' (hp (fE s.heap out.wr)) w' av v) (hr:Rel φ' F' (hp (fE s.heap out.wr)) w') (hs:ix φ F (hp s.heap) w φ' F' (hp (fE s.heap out.wr)) w'):
 dm n φ' F' (s.apply dst out) (a.put dst v) w':=by
 refine⟨?_,?_,hr,fun t av ht=>?_⟩
 ·cases dst<;>simp[YR,h.size]
 ·cases dst<;>simp[YR,h.defers]
 ·have hold:∀t av,lk s.aO t=X7 av→ec φ' F' (hp (fE s.heap out.wr)) w' av (a.tmps.getD t undef):=fun t av ht=>(h.slot t av ht).mono hs
  cases dst with
  |none=>exact hold t av ht
  |some d=>
   have hdn:=hd d rfl
   have hlk:∀(l:List (Nat×AV)) t,lk (l.filter (·.1 !=d)) t=if t=d then Ya else lk l t:=by
    intro l t
    induction l with
    |nil=>simp[lk]
    |cons x l ih=>
     obtain⟨k,v⟩:=x
     by_cases hk:k=d
     ·subst hk
      rw[XV (by simp),ih]
      by_cases htk:t=k
      ·simp[htk]
      ·simp[lk,htk,YL htk]
     ·rw[XU (by simp[hk])]
      simp only[lk,ih]
      by_cases htk:k=t
      ·subst htk;simp[hk]
      ·simp[htk]
   by_cases htd:t=d
   ·subst htd
    simp only[St.apply]at ht
    cases hval:out.val with
    |none=>rw[hval]at ht;simp only[]at ht;rw[hlk]at ht;simp at ht
    |some av'=>
     rw[hval]at ht
     simp only[lk,if_true,YB]at ht
     subst ht
     have:(a.put (X7 t) v).tmps.getD t undef=v:=by
      simp[YR,Yu,h.size,hdn]
     rw[this];exact hv _ hval
   ·have hne:(a.put (X7 d) v).tmps.getD t undef=a.tmps.getD t undef:=by
     simp[YR,YL htd,Yx]
    rw[hne]
    refine hold t av ?_
    simp only[St.apply]at ht
    cases hval:out.val with
    |none=>rw[hval]at ht;simp only[]at ht;rw[hlk,if_neg htd]at ht;exact ht
    |some av'=>rw[hval]at ht;simp only[lk]at ht;rw[if_neg (YL htd)]at ht;exact ht
def ye(mask:Nat→Nat)(N i:Nat):List Nat:=(XJ N).filter fun j=>(mask i).testBit j
def yW(P:Yn)(ops:Array Yp)(mask:Nat→Nat)(i:Nat)(op:jS):Option (List Nat):=
 if(iD op).isSome then Ya else
 (XJ ops.size).foldr (fun j acc=>acc.bind fun l=>
   if j==i||(mask i).testBit j||(mask j).testBit i then X7 l
   else if j<i then match(ops[j]?).bind fun o=>zD P o.op with
    |some op=>match iD op with
     |some Ya=>X7 l
     |some (X7 a)=>if(XJ ops.size).all fun k=> !(decide (j≤k)&&decide (k<i)&&(ops[k]?).any fun o=>o.dst==X7 a)then X7 (a::l)else Ya
     |none=>Ya
    |none=>Ya
   else Ya) (X7 [])
def jS.xP:jS→Bool
 | .app .. | .appz .. | .copy .. | .clear .. | .store .. | .call .. | .callv .. | .bslice .. =>Yh
 |_=>Yg
def vT(P:Yn)(ops:Array Yp)(mask:Nat→Nat)(i:Nat)(op:jS):Lone:=
 match yW P ops mask i op with
 |some ts=> .lone ts
 |none=> .new (if op.xP then(ye mask ops.size i).filter fun c=>(XJ ops.size).all fun k=>k==i||(mask i).testBit k||(mask k).testBit i|| !(mask k).testBit c else [])
def Bx(P:Yn)(n:Nat)(ops:Array Yp)(mask:Nat→Nat)(i:Nat)(o:Yp):Option cq:=
 if o.dst.all (·<n)then
  (zD P o.op).bind fun op=>
    match o.guard with
    |none=>X7 ⟨o.dst,Ya,op,ye mask ops.size i,vT P ops mask i op⟩
    |some (g,want)=>match(ops[g]?).bind (·.dst)with
     |some d=>if d<n then X7 ⟨o.dst,X7 (d,want),op,ye mask ops.size i,vT P ops mask i op⟩else Ya
     |none=>Ya
 else Ya
def dL(P:Yn)(n:Nat)(ops:Array Yp)(mask:Nat→Nat):Nat→List Yp→Option (List cq)
 |_,[]=>X7 []
 |i,o::r=>(Bx P n ops mask i o).bind fun s=>(dL P n ops mask (i+1) r).map (s::·)
theorem gk{P:Yn}{n:Nat}{ops:Array Yp}{mask:Nat→Nat}{i:Nat}{o:Yp}{st:cq}(h:Bx P n ops mask i o=X7 st):
 (∀d,o.dst=X7 d→d<n)∧zD P o.op=X7 st.op∧st.dst=o.dst∧st.fD=ye mask ops.size i∧
 st.lone=vT P ops mask i st.op∧
 (match o.guard with|none=>st.guard=Ya|some (g,want)=>∃d,(ops[g]?).bind (·.dst)=X7 d∧d<n∧st.guard=X7 (d,want)):=by
 unfold Bx at h
 split at h
 ·rename_i hd
  rw[X9]at h
  obtain⟨op,hop,h⟩:=h
  refine⟨fun d he=>by rw[he]at hd;simpa using hd,?_⟩
  cases hg:o.guard with
  |none=>
   rw[hg]at h
   simp only[YB]at h
   subst h
   exact⟨hop,rfl,rfl,rfl,rfl⟩
  |some x=>
   obtain⟨g,want⟩:=x
   rw[hg]at h
   simp only at h
   split at h
   ·rename_i d hd'
    split at h
    ·rename_i hdn
     cases h
     exact⟨hop,rfl,rfl,rfl,d,hd',hdn,rfl⟩
    ·cases h
   ·cases h
 ·cases h
theorem pK{ops:Array Yp}{a:Act}{g d:Nat}(hd:(ops[g]?).bind (·.dst)=X7 d)(hlt:d<a.tmps.size):
 yielded ops a.tmps g=match a.tmps.getD d undef with| .bool b=>X7 b|_=>Ya:=by
 unfold yielded
 rw[hd]
 simp only[Yf]
 rw[Yw hlt]
 simp only[Yu,hlt,dif_pos]
 split<;>simp_all
theorem qD.mono{P:Yn}{o:Yp}{a:Act}{φ F s w K K'}(hm:∀out,K out→K' out)(h:qD P o a φ F s w K):qD P o a φ F s w K':=by
 intro Q
 refine YS ?_ (h Q)
 rintro a' w' ⟨v,rfl,⟨⟨out,φ',F',h1,h2⟩⟩⟩
 exact⟨v,rfl,⟨⟨out,φ',F',hm _ h1,h2⟩⟩⟩
theorem qD.Q8{P:Yn}{o:Yp}{a:Act}{φ F s w}{K:Out→Prop}{out:Out}(hk:K out)(h:qD P o a φ F s w (·=out)):qD P o a φ F s w K:=
 h.mono fun o ho=>by subst ho;exact hk
theorem xM{P:Yn}{o:Yp}{a:Act}{n φ F s w}{K:Out→Prop}(h:dm n φ F s a w){aop:jS}(hc:zD P o.op=X7 aop)(hk:AN P aop s K):qD P o a φ F s w K:=by
 have gen:jE P aop s K→qD P o a φ F s w K:=by
  intro hk
  obtain⟨out,h1,h2⟩:=yL hk
  exact qD.Q8 h2 (oX h hc h1)
 unfold AN at hk
 split at hk
 ·rename_i neg x
  refine oX h hc ?_
  simp only[eN,dp]
  split at hk
  ·rename_i hx;simp only[hx];exact hk
  ·rename_i rows hx
   simp only[hx]
   exact fun b hb=>hk b fun he=>hb (by intro h0;subst h0;simp at he)
  ·rename_i hx
   simp only[hx]
   split at hk
   ·rename_i hG
    simp only[hG]
    exact⟨hk.1,fun b hb=>hk.2 b fun he=>hb (by intro h0;subst h0;simp at he)⟩
   ·exact hk.elim
  ·exact hk.elim
 ·exact gen hk
theorem rE{aO:List (Nat×AV)}{g:Nat}{b:Bool}(h:lk aO g=X7 (.one (.c (.d (.v (.bool b))))))(t:Nat):lk (fU aO g b) t=lk aO t:=by
 simp only[fU,lk]
 by_cases hg:g=t
 ·subst hg;simp[h]
 ·simp[hg]
theorem dm.fU{n φ F s a w}(h:dm n φ F s a w){g:Nat}{b:Bool}(hg:lk s.aO g=X7 (.one (.c (.d (.v (.bool b)))))):dm n φ F ⟨Fw.fU s.aO g b,s.heap⟩ a w:=
 ⟨h.size,h.defers,h.rel,fun t av ht=>h.slot t av (by rw[rE hg]at ht;exact ht)⟩
section
variable {P:Yn} {n m:Nat}
theorem tz{ops:Array Yp}{mask:Nat→Nat}{Q:Exit→Act→Yo→Prop}:∀(l:List Yp) (k:Nat) (steps:List cq) (s:St) (K:St→Prop),
 (∀j,l[j]? =ops[k+j]?)→k+l.length=ops.size→dL P n ops mask k l=X7 steps→gF P steps s K→
 ∀{φ F a w},dm n φ F s a w→(∀a' w',qC n m φ F s w K a' w'→Q .normal a' w')→wpOps P ops Q (XQ k l.length) a w
 |[],k,steps,s,K,hl,hk,hc,hv,φ,F,a,w,h,hQ=>by
  cases hc
  exact hQ a w ⟨s,φ,F,hv,h,Fr.refl _ _ _,gY.refl _ _ _ _ _⟩
 |o::l,k,steps,s,K,hl,hk,hc,hv,φ,F,a,w,h,hQ=>by
  simp only[dL,X9,X8]at hc
  obtain⟨st,hst,steps',hsteps,rfl⟩:=hc
  obtain⟨hdn,hop,hdst,_,_,hguard⟩:=gk hst
  have ho:ops[k]? =X7 o:=by have:=hl 0;simpa using this.symm
  simp only[XN,List.range'_succ]
  have rest:∀{s':St} {φ' F' a' w'},gF P steps' s' K→dm n φ' F' s' a' w'→Fr φ F w φ' F' w'→gY m φ F (hp s.heap) w φ' F' (hp s'.heap) w'→
   wpOps P ops Q (XQ (k+1) l.length) a' w':=by
   intro s' φ' F' a' w' hv' h' hf hs
   refine tz l (k+1) steps' s' K (fun j=>?_) (by simp at hk;omega) hsteps hv' h' fun a'' w'' hp=>hQ _ _ ?_
   ·have:=hl (j+1);simp only[List.getElem?_cons_succ]at this;rw[this];congr 1;omega
   ·obtain⟨s2,φ2,F2,h1,h2,h3,h4⟩:=hp
    exact⟨s2,φ2,F2,h1,h2,hf.trans h3,hs.trans h4⟩
  have go:∀(sl:List (Nat×AV)),dm n φ F ⟨sl,s.heap⟩ a w→AN P st.op ⟨sl,s.heap⟩ (fun out=>gF P steps' (St.apply ⟨sl,s.heap⟩ st.dst out) K)→o.wp P a w (wpOps P ops Q (XQ (k+1) l.length)) Q:=by
   intro sl h hrun
   refine YS ?_ (xM h hop hrun Q)
   rintro a' w' ⟨v,rfl,⟨⟨out,φ',F',hK,hav,hr,hs,hf⟩⟩⟩
   rw[hdst]at hK
   exact rest hK (h.put hdn hav hr hs) hf hs.m
  have skip:∀(sl:List (Nat×AV)),dm n φ F ⟨sl,s.heap⟩ a w→gF P steps' (St.apply ⟨sl,s.heap⟩ st.dst dr) K→wpOps P ops Q (XQ (k+1) l.length) (a.put o.dst undef) w:=by
   intro sl h hsk
   rw[hdst]at hsk
   refine rest hsk (h.put hdn (out:=dr) (fun av hav=>?_) h.rel (ix.refl _ _ _ _)) (Fr.refl _ _ _) (gY.refl _ _ _ _ _)
   cases hav;exact⟨[],rfl,.nil⟩
  rw[wpOps_cons]
  unfold wpOp
  rw[ho]
  simp only
  simp only[gF]at hv
  cases hg:o.guard with
  |none=>
   rw[hg]at hguard
   rw[hguard]at hv
   simp only at hv
   simp only[YI,hg,if_true]
   exact .inl (go s.aO h hv)
  |some x=>
   obtain⟨g,want⟩:=x
   rw[hg]at hguard
   obtain⟨d,hd,hdn',hguard⟩:=hguard
   rw[hguard]at hv
   simp only at hv
   have hy:=pK (a:=a) hd (by rw[h.size];exact hdn')
   split at hv
   ·rename_i t ht
    have hval:=h.slot _ _ ht
    generalize a.tmps.getD d undef=u at hval hy
    cases hval
    simp only at hy
    simp only[YI,hg,hy]
    by_cases htw:t=want
    ·subst htw;simp only[beq_self_eq_true,if_true];exact .inl (go _ (h.fU ht) (hv.1 rfl))
    ·have:(X7 t==X7 want)=Yg:=by simpa using htw
     simp only[this,Yi,if_false]
     have htn:t= !want:=by cases t<;>cases want<;>simp_all
     exact skip _ (h.fU (by rw[←htn];exact ht)) (hv.2 htn)
   ·rename_i ht
    obtain⟨vs,hval,hvs⟩:=h.slot _ _ ht
    cases hvs
    rw[hval]at hy
    simp only at hy
    simp only[YI,hg,hy]
    have:((Ya:Option Bool)==X7 want)=Yg:=rfl
    simp only[this,Yi,if_false]
    exact skip s.aO h hv
   ·exact hv.elim
end
end Go.Fw
namespace Go.Fw
def O.rd:O→List Nat
 | .t n=>[n]
 |_=>[]
def HQ:Option O→List Nat
 |some o=>o.rd
 |none=>[]
def jS.xE:jS→List Nat
 | .mv x| .box x| .load _ x| .fieldA _ x| .field _ _ x| .ext x _| .len x| .slen x| .cap x| .eqnil _ x| .not x| .neg x| .conv _ x| .clear _ _ x=>x.rd
 | .pick c x y=>c.rd++(x.rd++y.rd)
 | .zbox _=>[]
 | .mins x r=>x.rd++r.flatMap O.rd
 | .istr x=>x.rd
 | .mkmap=>[]
 | .mget _ _ _ m k=>m.rd++k.rd
 | .mset _ m k v=>m.rd++(k.rd++v.rd)
 | .mdel _ m k=>m.rd++k.rd
 | .mlen m=>m.rd
 | .opq _ x=>x.rd
 | .build _ ps=>ps.flatMap fun p=>p.2.2.rd
 | .bslice _ ps=>ps.flatMap O.rd
 | .store _ a x=>a.rd++x.rd
 | .indexA _ x i=>x.rd++i.rd
 | .sidx x i=>x.rd++i.rd
 | .slice _ x lo hi mx=>x.rd++(HQ lo++(HQ hi++HQ mx))
 | .sslice x lo hi=>x.rd++(HQ lo++HQ hi)
 | .fn _ cs=>cs.flatMap O.rd
 | .bin _ x y| .max x y| .min x y| .app _ _ x y| .appz _ _ _ x y| .copy _ x y| .eqs _ _ x y| .beq _ x y=>x.rd++y.rd
 | .mk _ _ _ l c=>l.rd++c.rd
 | .call _ args=>args.flatMap O.rd
 | .callv g args=>g.rd++args.flatMap O.rd
structure db(ts:List Nat)(s s':St):Prop where
 heap:s'.heap=s.heap
 slot:∀t∈ts,lk s'.aO t=lk s.aO t
theorem db.left{ts us:List Nat}{s s':St}(h:db (ts++us) s s'):db ts s s':=⟨h.heap,fun t ht=>h.slot t (XL _ ht)⟩
theorem db.right{ts us:List Nat}{s s':St}(h:db (ts++us) s s'):db us s s':=⟨h.heap,fun t ht=>h.slot t (List.mem_append_right _ ht)⟩
theorem db.ev{o:O}{s s':St}(h:db o.rd s s'):s'.ev o=s.ev o:=by
 cases o with
 |t n=>exact h.slot n (by simp[O.rd])
 |_=>rfl
theorem db.e9{o:O}{s s':St}(h:db o.rd s s'):s'.e9 o=s.e9 o:=by simp[St.e9,h.ev]
theorem db.eZ{o:O}{s s':St}(h:db o.rd s s'):s'.eZ o=s.eZ o:=by simp[St.eZ,h.ev]
theorem db.uw{s s':St}:∀{l:List O} {K:List A1→Prop},db (l.flatMap O.rd) s s'→uw s l K→uw s' l K
 |[],_,_,h=>h
 |o::l,K,ha,h=>by
  simp only[XP]at ha
  simp only[Fw.uw,ha.left.ev]at h⊢
  split at h
  ·exact db.uw ha.right h
  ·exact h.elim
theorem db.gV{s s':St}:∀{l:List O} {K:List (Nat×Nat)→Prop},db (l.flatMap O.rd) s s'→gV s l K→gV s' l K
 |[],_,_,h=>h
 |o::l,K,ha,h=>by
  simp only[XP]at ha
  simp only[Fw.gV,ha.left.e9]at h⊢
  split at h
  ·exact db.gV ha.right h
  ·exact h.elim
theorem db.Gu{s s':St}:∀{l:List (Nat×Nat×O)} {cs:List C} {K:List C→Prop},db (l.flatMap fun p=>p.2.2.rd) s s'→Gu s cs l K→Gu s' cs l K
 |[],_,_,_,h=>h
 |(off,n,o)::l,cs,K,ha,h=>by
  simp only[XP]at ha
  simp only[Fw.Gu,ha.left.ev]at h⊢
  split at h
  ·exact⟨h.1,h.2.1,db.Gu ha.right h.2.2⟩
  ·exact h.elim
theorem db.ia{s s':St}{o:Option O}(ha:db (HQ o) s s')(d:Nat)(K:Nat→Prop):ia s' o d K=ia s o d K:=by
 cases o with
 |none=>rfl
 |some o=>simp only[Fw.ia,db.eZ (o:=o) ha]
theorem ko.agree{P:Yn}{f:Yr}{as:List A1}{s s':St}{K:Out→Prop}(hh:s'.heap=s.heap)(h:ko P f as s K):ko P f as s' K:=by
 intro φ F w vs hr hA
 rw[hh]at hr hA
 refine(h φ F w vs hr hA).mono ?_
 rintro v w' ⟨⟨out,φ',F',h1,h2,h3,h4,h5⟩⟩
 exact⟨⟨out,φ',F',h1,by rw[hh];exact h2,by rw[hh];exact h3,by rw[hh];exact h4,h5⟩⟩
theorem xO{P:Yn}{op:jS}{s s':St}{K:Out→Prop}(ha:db op.xE s s')(h:eN P op s K):eN P op s' K:=by
 have hh:=ha.heap
 cases op with
 |mv x=>simp only[eN,dp,db.ev (o:=x) ha]at h⊢;exact h
 |box x=>simp only[eN,dp,db.ev (o:=x) ha,hh]at h⊢;exact h
 |load n x=>simp only[eN,dp,db.e9 (o:=x) ha,hh]at h⊢;exact h
 |fieldA n x=>simp only[eN,dp,db.e9 (o:=x) ha,hh]at h⊢;exact h
 |field off n x=>simp only[eN,dp,db.ev (o:=x) ha]at h⊢;exact h
 |ext x i=>simp only[eN,dp,db.ev (o:=x) ha]at h⊢;exact h
 |len x=>simp only[eN,dp,db.e9 (o:=x) ha,hh]at h⊢;exact h
 |slen x=>simp only[eN,dp,db.eZ (o:=x) ha]at h⊢;exact h
 |cap x=>simp only[eN,dp,db.e9 (o:=x) ha,hh]at h⊢;exact h
 |eqnil n x=>simp only[eN,dp,db.e9 (o:=x) ha,hh]at h⊢;exact h
 |not x=>simp only[eN,dp,db.eZ (o:=x) ha]at h⊢;exact h
 |neg x=>simp only[eN,dp,db.eZ (o:=x) ha]at h⊢;exact h
 |conv k x=>simp only[eN,dp,db.eZ (o:=x) ha]at h⊢;exact h
 |clear sz z x=>simp only[eN,db.e9 (o:=x) ha,KL,hh]at h⊢;exact h
 |pick c x y=>
  have ha:db (c.rd++(x.rd++y.rd)) s s':=ha
  simp only[eN,dp,ha.left.eZ,ha.right.left.ev,ha.right.right.ev]at h⊢;exact h
 |zbox cs=>simp only[eN,dp,hh]at h⊢;exact h
 |build z ps=>simp only[eN,dp]at h⊢;exact db.Gu ha h
 |bslice sz ps=>simp only[eN,dp,hh]at h⊢;exact db.uw ha h
 |store n a x=>
  have ha:db (a.rd++x.rd) s s':=ha
  simp only[eN,dp,ha.left.e9,ha.right.ev,hh]at h⊢;exact h
 |indexA sz x i=>
  have ha:db (x.rd++i.rd) s s':=ha
  simp only[eN,dp,ha.left.e9,ha.right.eZ,hh]at h⊢;exact h
 |sidx x i=>
  have ha:db (x.rd++i.rd) s s':=ha
  simp only[eN,dp,ha.left.eZ,ha.right.eZ]at h⊢;exact h
 |slice sz x lo hi mx=>
  have ha:db (x.rd++(HQ lo++(HQ hi++HQ mx))) s s':=ha
  cases mx with
  |none=>simp only[eN,dp,ha.left.e9,ha.right.left.ia,ha.right.right.left.ia,ha.right.right.right.ia,hh]at h⊢;exact h
  |some m=>simp only[eN,dp,ha.left.e9,ha.right.left.ia,ha.right.right.left.ia,ha.right.right.right.ia,hh]at h⊢;exact h
 |sslice x lo hi=>
  have ha:db (x.rd++(HQ lo++HQ hi)) s s':=ha
  simp only[eN,dp,ha.left.eZ,ha.right.left.ia,ha.right.right.ia]at h⊢;exact h
 |fn f cs=>simp only[eN,dp]at h⊢;exact db.gV ha h
 |bin op x y=>
  have ha:db (x.rd++y.rd) s s':=ha
  simp only[eN,dp,ha.left.eZ,ha.right.eZ]at h⊢;exact h
 |max x y=>
  have ha:db (x.rd++y.rd) s s':=ha
  simp only[eN,dp,ha.left.eZ,ha.right.eZ]at h⊢;exact h
 |min x y=>
  have ha:db (x.rd++y.rd) s s':=ha
  simp only[eN,dp,ha.left.eZ,ha.right.eZ]at h⊢;exact h
 |app sz b x y=>
  have ha:db (x.rd++y.rd) s s':=ha
  simp only[eN,ha.left.e9,ha.right.e9,r6,hh]at h⊢;exact h
 |appz sz b z x y=>
  have ha:db (x.rd++y.rd) s s':=ha
  simp only[eN,ha.left.e9,ha.right.eZ,r6,hh]at h⊢;exact h
 |copy sz x y=>
  have ha:db (x.rd++y.rd) s s':=ha
  simp only[eN,ha.left.e9,ha.right.e9,KL,hh]at h⊢;exact h
 |eqs n p x y=>
  have ha:db (x.rd++y.rd) s s':=ha
  simp only[eN,dp,db.ev (o:=x) ha.left,db.ev (o:=y) ha.right]at h⊢;exact h
 |beq n x y=>
  have ha:db (x.rd++y.rd) s s':=ha
  simp only[eN,dp,ha.left.eZ,ha.right.eZ]at h⊢;exact h
 |mins x r=>
  have ha:db (x.rd++r.flatMap O.rd) s s':=ha
  have key:∀(r:List O) (k:IntKind) (a:Int),db (r.flatMap O.rd) s s'→px s r k a K→px s' r k a K:=by
   intro r
   induction r with
   |nil=>intro k a _ h;exact h
   |cons y r ih=>
    intro k a hb h
    have hb:db (y.rd++r.flatMap O.rd) s s':=hb
    simp only[px,hb.left.eZ]at h⊢
    split at h
    ·rename_i hy
     exact ih _ _ hb.right h
    ·exact h.elim
  simp only[eN,dp,ha.left.eZ]at h⊢
  split at h
  ·exact key _ _ _ ha.right h
  ·exact h.elim
 |istr x=>simp only[eN,dp,db.eZ (o:=x) ha]at h⊢;exact h
 |mkmap=>simp only[eN,dp,hh]at h⊢;exact h
 |mget kd ok z m k=>
  have ha:db (m.rd++k.rd) s s':=ha
  simp only[eN,dp,ha.left.e9,ha.right.eZ,hh]at h⊢;exact h
 |mdel kd m k=>
  have ha:db (m.rd++k.rd) s s':=ha
  simp only[eN,dp,ha.left.e9,ha.right.eZ,hh]at h⊢;exact h
 |mlen m=>simp only[eN,dp,db.e9 (o:=m) ha,hh]at h⊢;exact h
 |opq k x=>simp only[eN,dp]at h
 |mset kd m k v=>
  have ha:db (m.rd++(k.rd++v.rd)) s s':=ha
  simp only[eN,dp,ha.left.e9,ha.right.left.eZ,ha.right.right.ev,hh]at h⊢;exact h
 |mk sz b z l c=>
  have ha:db (l.rd++c.rd) s s':=ha
  simp only[eN,ha.left.eZ,ha.right.eZ,hh]at h⊢;exact h
 |call f args=>
  simp only[eN]at h⊢
  have key:∀{l:List O} {K K':List A1→Prop},(∀as,K as→K' as)→uw s l K→uw s l K':=by
   intro l
   induction l with
   |nil=>intro K K' hi h;exact hi _ h
   |cons o l ih=>
    intro K K' hi h
    simp only[Fw.uw]at h⊢
    split at h
    ·exact ih (fun as=>hi _) h
    ·exact h.elim
  exact db.uw ha (key (fun as=>ko.agree hh) h)
 |callv g args=>
  have ha:db (g.rd++args.flatMap O.rd) s s':=ha
  simp only[eN,ha.left.e9]at h⊢
  have key:∀{l:List O} {K K':List A1→Prop},(∀as,K as→K' as)→uw s l K→uw s l K':=by
   intro l
   induction l with
   |nil=>intro K K' hi h;exact hi _ h
   |cons o l ih=>
    intro K K' hi h
    simp only[Fw.uw]at h⊢
    split at h
    ·exact ih (fun as=>hi _) h
    ·exact h.elim
  split at h
  ·exact db.uw ha.right (key (fun as=>ko.agree hh) h)
  ·exact h.elim
end Go.Fw
namespace Go.Fw
def wv:List (Nat×bw)→Nat→Option bw
 |[],_=>Ya
 |(i,b)::r,x=>match wv r x with
  |some c=>X7 c
  |none=>if i=x then X7 b else Ya
theorem mU:∀(l:List (Nat×bw)) (h:List (Option bw)) (x:Nat),hp (fE h l) x=(wv l x).or (hp h x)
 |[],h,x=>by simp[fE,wv]
 |(i,b)::r,h,x=>by
  simp only[fE,wv,mU r,eQ]
  cases hw:wv r x with
  |some c=>simp
  |none=>
   by_cases hi:i=x
   ·subst hi;simp
   ·simp[hi,cn _ _ (YL hi)]
theorem si:∀(l m:List (Nat×bw)) (x:Nat),wv (l++m) x=(wv m x).or (wv l x)
 |[],m,x=>by simp only[X2,wv];cases wv m x<;>rfl
 |(i,b)::l,m,x=>by
  simp only[X0,wv,si l m]
  cases wv m x<;>cases wv l x<;>simp
theorem sg:∀{l:List (Nat×bw)} {x:Nat},wv l x≠Ya→∃p∈l,p.1=x
 |[],x,h=>(h rfl).elim
 |(i,b)::r,x,h=>by
  simp only[wv]at h
  cases hw:wv r x with
  |some c=>
   obtain⟨p,hp,hx⟩:=sg (l:=r) (x:=x) (by simp[hw])
   exact⟨p,by simp[hp],hx⟩
  |none=>
   rw[hw]at h
   by_cases hi:i=x
   ·exact⟨(i,b),by simp,hi⟩
   ·simp[hi]at h
section
variable (out:Nat→Out) (h0:List (Option bw)) (sl0:List (Nat×AV)) (dst:Nat→Option Nat)
def GS(S:Nat→Bool):Nat→eg
 |0=>hp h0
 |k+1=>if S k then fun x=>(wv (out k).wr x).or (GS S k x)else GS S k
def LS(S:Nat→Bool):Nat→Nat→Option AV
 |0=>lk sl0
 |k+1=>fun t=>if S k=Yh∧dst k=X7 t then(out k).val else LS S k t
theorem se{S S':Nat→Bool}{x:Nat}:∀{n:Nat},(∀j,j<n→wv (out j).wr x≠Ya→S j=S' j)→GS out h0 S n x=GS out h0 S' n x
 |0,_=>rfl
 |n+1,h=>by
  have ih:=se (S:=S) (S':=S') (x:=x) (n:=n) fun j hj=>h j (by omega)
  simp only[GS]
  by_cases hw:wv (out n).wr x=Ya
  ·split<;>split<;>simp[hw,ih]
  ·rw[h n (by omega) hw]
   split
   ·simp only[ih]
   ·exact ih
theorem KG{S:Nat→Bool}{x:Nat}{i:Nat}:∀{n:Nat},i≤n→(∀j,i≤j→S j=Yg)→GS out h0 S n x=GS out h0 S i x
 |n,hi,h=>by
  induction n with
  |zero=>have:i=0:=by omega
         subst this;rfl
  |succ n ih=>
   by_cases he:i=n+1
   ·subst he;rfl
   ·simp only[GS,h n (by omega),Yi,if_false]
    exact ih (by omega)
theorem nk{S:Nat→Bool}{x:Nat}{b:bw}:∀{n:Nat},GS out h0 S n x=X7 b→hp h0 x=X7 b∨∃j,j<n∧S j=Yh∧wv (out j).wr x=X7 b
 |0,h=> .inl h
 |n+1,h=>by
  simp only[GS]at h
  split at h
  ·rename_i hS
   cases hw:wv (out n).wr x with
   |some c=>simp only[hw,Yd,YB]at h;subst h;exact .inr ⟨n,by omega,hS,hw⟩
   |none=>
    simp only[hw,Yb]at h
    rcases nk (n:=n) h with h|⟨j,h1,h2,h3⟩
    ·exact .inl h
    ·exact .inr ⟨j,by omega,h2,h3⟩
  ·rcases nk (n:=n) h with h|⟨j,h1,h2,h3⟩
   ·exact .inl h
   ·exact .inr ⟨j,by omega,h2,h3⟩
theorem uz{S:Nat→Bool}{x:Nat}(hx:hp h0 x≠Ya):∀n,GS out h0 S n x≠Ya
 |0=>hx
 |n+1=>by
  simp only[GS]
  split
  ·cases hw:wv (out n).wr x with
   |some c=>simp[hw]
   |none=>simpa[hw]using uz hx n
  ·exact uz hx n
theorem KE{S:Nat→Bool}{x:Nat}{j:Nat}(hS:S j=Yh)(hw:wv (out j).wr x≠Ya):∀{n:Nat},j<n→GS out h0 S n x≠Ya
 |n+1,hj=>by
  simp only[GS]
  by_cases he:j=n
  ·subst he
   rw[if_pos hS]
   cases hc:wv (out j).wr x with
   |some c=>simp
   |none=>exact(hw hc).elim
  ·have:=KE hS hw (n:=n) (by omega)
   split
   ·cases hc:wv (out n).wr x with
    |some c=>simp[hc]
    |none=>simpa[hc]using this
   ·exact this
theorem KF{S:Nat→Bool}{i:Nat}{x:Nat}:∀{n:Nat},i<n→(∀j,j<n→i<j→S j=Yh→wv (out i).wr x≠Ya→wv (out j).wr x=Ya)→S i=Yg→
 GS out h0 (fun j=>if j=i then Yh else S j) n x=(wv (out i).wr x).or (GS out h0 S n x)
 |n+1,hi,h,hS=>by
  by_cases he:i=n
  ·subst he
   have:GS out h0 (fun j=>if j=i then Yh else S j) i x=GS out h0 S i x:=se out h0 fun j hj _=>by simp[YH hj]
   simp only[GS,if_true,hS,Yi,if_false,this]
  ·have ih:=KF (S:=S) (i:=i) (x:=x) (n:=n) (by omega) (fun j hj=>h j (by omega)) hS
   simp only[GS,YL he,if_false]
   split
   ·rename_i hSn
    simp only[ih]
    cases hc:wv (out i).wr x with
    |none=>simp
    |some c=>
     have:=h n (by omega) (by omega) hSn (by simp[hc])
     simp[this]
   ·exact ih
theorem KC{S:Nat→Bool}{i t:Nat}(hd:∀j,j≠i→dst i=X7 t→dst j≠X7 t):∀{n:Nat},i<n→S i=Yg→
 LS out sl0 dst (fun j=>if j=i then Yh else S j) n t=if dst i=X7 t then(out i).val else LS out sl0 dst S n t
 |n+1,hi,hS=>by
  by_cases he:i=n
  ·subst he
   have:∀m,m≤i→LS out sl0 dst (fun j=>if j=i then Yh else S j) m t=LS out sl0 dst S m t:=by
    intro m hm
    induction m with
    |zero=>rfl
    |succ m ih=>simp only[LS,YH (by omega:m<i),if_false,ih (by omega)]
   simp only[LS,if_true,this i (YC _),hS,Yi,false_and,if_false,true_and]
  ·have ih:=KC (S:=S) (i:=i) (t:=t) hd (n:=n) (by omega) hS
   simp only[LS,YL he,if_false,ih]
   by_cases hdi:dst i=X7 t
   ·simp only[hdi,if_true]
    rw[if_neg]
    rintro⟨_,h⟩
    exact hd n (YL he) hdi h
   ·simp only[hdi,if_false]
theorem sb{S S':Nat→Bool}{t:Nat}:∀{n:Nat},(∀j,j<n→dst j=X7 t→S j=S' j)→LS out sl0 dst S n t=LS out sl0 dst S' n t
 |0,_=>rfl
 |n+1,h=>by
  have ih:=sb (S:=S) (S':=S') (t:=t) (n:=n) fun j hj=>h j (by omega)
  simp only[LS,ih]
  by_cases hd:dst n=X7 t
  ·rw[h n (by omega) hd]
  ·simp[hd]
theorem KD{S:Nat→Bool}{t:Nat}{i:Nat}:∀{n:Nat},i≤n→(∀j,i≤j→S j=Yg)→LS out sl0 dst S n t=LS out sl0 dst S i t
 |n,hi,h=>by
  induction n with
  |zero=>have:i=0:=by omega
         subst this;rfl
  |succ n ih=>
   by_cases he:i=n+1
   ·subst he;rfl
   ·simp only[LS,h n (by omega),Yi,false_and,if_false]
    exact ih (by omega)
end
theorem C.ji(c:C):c.ff (fun x=>x)=c:=by cases c<;>simp[C.ff]
theorem A1.ji(c:A1):c.ff (fun x=>x)=c:=by cases c<;>simp[A1.ff,C.ji,show C.ff (fun x=>x)=id from funext C.ji]
theorem AV.ji(c:AV):c.ff (fun x=>x)=c:=by cases c<;>simp[AV.ff,A1.ji,show A1.ff (fun x=>x)=id from funext A1.ji]
theorem bw.ji(c:bw):c.ff (fun x=>x)=c:=by cases c<;>simp[bw.ff,A1.ji,show C.ff (fun x=>x)=id from funext C.ji]
theorem dA.live{φ F G w c v}(h:dA φ F G w c v):c.live G:=by
 cases c with
 |own id ep off len cap=>obtain⟨_,_,_,hG,_⟩:=h;simp[C.live,hG]
 |pt id off=>obtain⟨_,_,_,hG,_⟩:=h;simp[C.live,hG]
 |pe id ep row off=>obtain⟨_,_,_,hG,_⟩:=h;simp[C.live,hG]
 |mref id=>obtain⟨_,_,hG,_⟩:=h;simp[C.live,hG]
 |fn f gV=>
  obtain⟨us,_,_,hk⟩:=h
  intro c hc
  obtain⟨j,hj⟩:=XW.1 hc
  obtain⟨_,_,_,hG,_⟩:=hk j c hj
  simp[hG]
 |_=>trivial
theorem bX.uj{α β:Type}{R:α→β→Prop}{l:List α}{m:List β}(h:bX R l m){a:α}(ha:a∈l):∃b,R a b:=by
 obtain⟨i,hi⟩:=XW.1 ha
 obtain⟨b,_,hb⟩:=bX.get h hi
 exact⟨b,hb⟩
theorem cm.live{φ F G w c v}(h:cm φ F G w c v):c.live G:=by
 cases c with
 |c x=>exact dA.live h
 |agg cs=>
  obtain⟨vs,_,h⟩:=h
  intro c hc
  obtain⟨b,hb⟩:=bX.uj h hc
  exact hb.live
def AV.live(H:eg):AV→Prop
 | .one a=>a.live H
 | .tup l=>∀a∈l,a.live H
theorem ec.live{φ F G w c v}(h:ec φ F G w c v):c.live G:=by
 cases c with
 |one x=>exact cm.live h
 |tup l=>
  obtain⟨vs,_,h⟩:=h
  intro c hc
  obtain⟨b,hb⟩:=bX.uj h hc
  exact hb.live
theorem Rel.closed{φ F G w}(h:Rel φ F G w){x bZ}(hx:G x=X7 bZ):bZ.live G:=by
 have hB:=h.bZ x bZ hx
 cases bZ with
 |box cells=>
  obtain⟨b,o,cs,T,_,_,_,h3⟩:=hB
  intro c hc
  obtain⟨v,hv⟩:=bX.uj h3 hc
  exact hv.live
 |arr=>trivial
 |map ents=>
  obtain⟨b,es,clock,_,_,_,h3⟩:=hB
  intro c hc
  obtain⟨v,hv⟩:=bX.uj h3 hc
  exact hv.2.live
theorem C.gp{H H':eg}(hm:∀x,H x≠Ya→H' x≠Ya){c:C}(h:c.live H):c.live H':=by
 cases c with
 |own=>exact hm _ h
 |pt=>exact hm _ h
 |pe=>exact hm _ h
 |mref=>exact hm _ h
 |fn f gV=>exact fun c hc=>hm _ (h c hc)
 |_=>trivial
theorem A1.gp{H H':eg}(hm:∀x,H x≠Ya→H' x≠Ya){c:A1}(h:c.live H):c.live H':=by
 cases c with
 |c x=>exact C.gp hm h
 |agg cs=>exact fun c hc=>C.gp hm (h c hc)
theorem AV.gp{H H':eg}(hm:∀x,H x≠Ya→H' x≠Ya){c:AV}(h:c.live H):c.live H':=by
 cases c with
 |one x=>exact A1.gp hm h
 |tup cs=>exact fun c hc=>A1.gp hm (h c hc)
theorem bw.gp{H H':eg}(hm:∀x,H x≠Ya→H' x≠Ya){c:bw}(h:c.live H):c.live H':=by
 cases c with
 |box cs=>exact fun c hc=>C.gp hm (h c hc)
 |arr=>trivial
 |map ents=>exact fun c hc=>A1.gp hm (h c hc)
theorem ec.down{H G φ F w}(he:KJ (fun x=>x) H G){c:AV}{v:Value}(hl:c.live H)(h:ec φ F G w c v):ec (Fw.down (fun x=>x) H φ) F H w c v:=by
 rw[←AV.ji c]at h
 cases c with
 |one x=>exact cm.down he hl h
 |tup l=>
  obtain⟨vs,rfl,h⟩:=h
  exact⟨vs,rfl,bX.l8 h fun c hc b hb=>cm.down he (hl c hc) hb⟩
end Go.Fw
namespace Go.Fw
def Lv:C→Option Nat
 | .own id _ _ _ _=>X7 id
 | .pt id _=>X7 id
 | .pe id _ _ _=>X7 id
 |_=>Ya
theorem wW{aO:List (Nat×AV)}{wr:List (Nat×bw)}{a:Nat}{c:C}:∀{ts:List Nat},eP aO wr ts=Yh→a∈ts→lk aO a=X7 (.one (.c c))→∀p∈wr,Lv c≠X7 p.1
 |[],_,ha,_=>by cases ha
 |b::ts,h,ha,hc=>by
  simp only[eP,Yj]at h
  rcases XI.1 ha with rfl|ha
  ·intro p hp
   have h1:=h.1
   rw[hc]at h1
   simp only[fu]at h1
   cases c<;>simp only[Lv,ne_eq,YB,reduceCtorEq,not_false_eq_true]<;>simp only[gC,XF,bne_iff_ne,ne_eq]at h1<;>exact fun e=>h1 p hp e.symm
  ·exact wW h.2 ha hc
theorem zk{sl:List (Nat×AV)}{E:List (Option bw)}{x:O}{v:AV}(hx:NB x=Yh)(hl:∀t∈x.rd,∀av,lk sl t=X7 av→av.live (hp E))(h:St.ev ⟨sl,E⟩ x=X7 v):v.live (hp E):=by
 cases x with
 |t n=>exact hl n (by simp[O.rd]) v h
 |f id=>simp[NB]at hx
 |k a=>
  simp only[St.ev,YB]at h
  subst h
  cases a with
  |agg cs=>simp[NB]at hx
  |c c=>cases c<;>first|exact trivial|simp[NB]at hx
theorem rF{n:Option Nat}{cs:List C}{out:Out}{H:eg}(hc:∀c∈cs,c.live H)(h:s5 n cs (·=out)):out.wr=[]∧∀av,out.val=X7 av→av.live H:=by
 cases n with
 |none=>
  cases cs with
  |nil=>exact h.elim
  |cons c cs=>cases h;exact⟨rfl,fun av hav=>by cases hav;exact hc c (XM ..)⟩
 |some n=>obtain⟨_,h⟩:=h;cases h;exact⟨rfl,fun av hav=>by cases hav;exact fun c hc'=>hc c (List.mem_of_mem_take hc')⟩
theorem BC{op:BinOp}{x y:Value}{out:Out}(h:fA op x y (ey (·=out))):out.wr=[]∧∀H av,out.val=X7 av→av.live H:=by
 have key:∀v,ey (·=out) v→out.wr=[]∧∀H av,out.val=X7 av→av.live H:=fun v hv=>by
  cases hv;exact⟨rfl,fun H av hav=>by cases hav;exact trivial⟩
 unfold fA at h
 split at h
 ·obtain⟨_,h⟩:=h
  cases op<;>first|exact h.elim|exact key _ h|exact key _ h.2
 ·cases op<;>first|exact h.elim|exact key _ h|exact key _ h.2
 ·exact h.elim
theorem dR{v:Value}{out:Out}(h:ey (·=out) v):out.wr=[]∧∀H av,out.val=X7 av→av.live H:=by
 cases h;exact⟨rfl,fun H av hav=>by cases hav;exact trivial⟩
theorem eT{s:St}{o:Option O}{d:Nat}{K:Nat→Prop}(h:ia s o d K):∃l,K l:=by
 unfold ia at h
 split at h
 ·exact⟨_,h⟩
 ·split at h
  ·unfold idx at h
   split at h
   ·exact⟨_,h.2⟩
   ·exact h.elim
  ·exact h.elim
theorem Ap{P:Yn}{op:jS}{oa:Option Nat}{sl:List (Nat×AV)}{E E':List (Option bw)}{out:Out}(hr:iD op=X7 oa)(h:eN P op ⟨sl,E⟩ (·=out))
 (hE:∀a,oa=X7 a→∀c,lk sl a=X7 (.one (.c c))→∀k,Lv c=X7 k→∀bZ,hp E k=X7 bZ→hp E' k=X7 bZ)
 (hc:∀x bZ,hp E x=X7 bZ→bZ.live (hp E)) (hl:∀t∈op.xE,∀av,lk sl t=X7 av→av.live (hp E)):
 eN P op ⟨sl,E'⟩ (·=out)∧out.wr=[]∧∀av,out.val=X7 av→av.live (hp E):=by
 have e1:∀x,St.ev ⟨sl,E'⟩ x=St.ev ⟨sl,E⟩ x:=fun x=>by cases x<;>rfl
 have e2:∀x,St.e9 ⟨sl,E'⟩ x=St.e9 ⟨sl,E⟩ x:=fun x=>by cases x<;>rfl
 have e3:∀x,St.eZ ⟨sl,E'⟩ x=St.eZ ⟨sl,E⟩ x:=fun x=>by cases x<;>rfl
 have e4:∀(o:Option O) (d:Nat) (K:Nat→Prop),ia ⟨sl,E'⟩ o d K=ia ⟨sl,E⟩ o d K:=fun o d K=>by cases o<;>simp only[ia,e3]
 cases op with
 |mv x=>
  simp only[iD]at hr
  split at hr
  ·rename_i hx
   simp only[eN,dp,e1]at h⊢
   cases hv:St.ev ⟨sl,E⟩ x with
   |none=>rw[hv]at h;exact h.elim
   |some v=>rw[hv]at h;cases h;exact⟨rfl,rfl,fun av hav=>by cases hav;exact zk hx hl hv⟩
  ·cases hr
 |ext x i=>
  simp only[iD]at hr
  split at hr
  ·rename_i hx
   simp only[eN,dp,e1]at h⊢
   refine⟨h,?_⟩
   split at h
   ·rename_i l hv
    split at h
    ·rename_i a ha
     cases h
     have:=zk hx hl hv
     exact⟨rfl,fun av hav=>by cases hav;exact this a (XY ha)⟩
    ·exact h.elim
   ·exact h.elim
  ·cases hr
 |field off n x=>
  simp only[iD]at hr
  split at hr
  ·rename_i hx
   simp only[eN,dp,e1]at h⊢
   refine⟨h,?_⟩
   split at h
   ·rename_i cs hv
    have:=zk hx hl hv
    exact rF (fun c hc=>this c (XX hc)) h
   ·exact h.elim
  ·cases hr
 |bin op x y=>
  simp only[eN,dp,e3]at h⊢
  refine⟨h,?_⟩
  split at h
  ·have:=BC h;exact⟨this.1,this.2 _⟩
  ·exact h.elim
 |not x=>
  simp only[eN,dp,e3]at h⊢
  refine⟨h,?_⟩
  split at h
  ·have:=dR h;exact⟨this.1,this.2 _⟩
  ·exact h.elim
 |neg x=>
  simp only[eN,dp,e3]at h⊢
  refine⟨h,?_⟩
  split at h
  ·have:=dR h;exact⟨this.1,this.2 _⟩
  ·exact h.elim
 |conv k x=>
  simp only[eN,dp,e3]at h⊢
  refine⟨h,?_⟩
  split at h
  ·have:=dR h;exact⟨this.1,this.2 _⟩
  ·exact h.elim
 |max x y=>
  simp only[eN,dp,e3]at h⊢
  refine⟨h,?_⟩
  split at h
  ·have:=dR h;exact⟨this.1,this.2 _⟩
  ·exact h.elim
 |min x y=>
  simp only[eN,dp,e3]at h⊢
  refine⟨h,?_⟩
  split at h
  ·have:=dR h;exact⟨this.1,this.2 _⟩
  ·exact h.elim
 |slen x=>
  simp only[eN,dp,e3]at h⊢
  refine⟨h,?_⟩
  split at h
  ·have:=dR h;exact⟨this.1,this.2 _⟩
  ·exact h.elim
 |beq neg x y=>
  simp only[eN,dp,e3]at h⊢
  refine⟨h,?_⟩
  split at h
  ·have:=dR h;exact⟨this.1,this.2 _⟩
  ·exact h.elim
 |load n x=>
  cases x with
  |t a=>
   simp only[iD,YB]at hr
   subst hr
   simp only[eN,dp,e2]at h⊢
   cases hv:St.e9 ⟨sl,E⟩ (.t a)with
   |none=>rw[hv]at h;exact h.elim
   |some c=>
    have hv':lk sl a=X7 (.one (.c c)):=by
     simp only[St.e9,St.ev]at hv
     split at hv
     ·rename_i c' hc';cases hv;exact hc'
     ·cases hv
    have hE':=hE a rfl c hv'
    rw[hv]at h
    cases c with
    |pt id off=>
     simp only at h⊢
     cases hb:hp E id with
     |none=>rw[hb]at h;exact h.elim
     |some b=>
      rw[hb]at h
      rw[hE' id rfl b hb]
      refine⟨h,?_⟩
      cases b with
      |arr=>exact h.elim
      |map=>exact h.elim
      |box cells=>exact rF (fun c hc'=>hc id _ hb c (XX hc')) h
    |pe id ep row off=>
     simp only at h⊢
     cases hb:hp E id with
     |none=>rw[hb]at h;exact h.elim
     |some b=>
      rw[hb]at h
      rw[hE' id rfl b hb]
      refine⟨h,?_⟩
      cases b with
      |box=>exact h.elim
      |map=>exact h.elim
      |arr e sz rows=>
       obtain⟨_,r,_,h⟩:=h
       exact rF (fun c hc'=>by obtain⟨d,_,rfl⟩:=X5.1 hc';exact trivial) h
    |fp cells=>exact⟨h,rF (fun c hc'=>by obtain⟨d,_,rfl⟩:=X5.1 hc';exact trivial) h⟩
    |d x=>exact h.elim
    |own=>exact h.elim
    |fn=>exact h.elim
    |mref=>exact h.elim
  |k v=>cases hr
  |f id=>cases hr
 |fieldA off x=>
  cases x with
  |t a=>
   simp only[iD,YB]at hr
   subst hr
   simp only[eN,dp,e2]at h⊢
   cases hv:St.e9 ⟨sl,E⟩ (.t a)with
   |none=>rw[hv]at h;exact h.elim
   |some c=>
    have hv':lk sl a=X7 (.one (.c c)):=by
     simp only[St.e9,St.ev]at hv
     split at hv
     ·rename_i c' hc';cases hv;exact hc'
     ·cases hv
    have hE':=hE a rfl c hv'
    have hlive:c.live (hp E):=hl a (by simp[jS.xE,O.rd]) _ hv'
    rw[hv]at h
    cases c with
    |pt id o=>cases h;exact⟨rfl,rfl,fun av hav=>by cases hav;exact hlive⟩
    |pe id ep row o=>
     simp only at h⊢
     cases hb:hp E id with
     |none=>rw[hb]at h;exact h.elim
     |some b=>
      rw[hb]at h
      rw[hE' id rfl b hb]
      refine⟨h,?_⟩
      cases b with
      |box=>exact h.elim
      |map=>exact h.elim
      |arr e sz rows=>obtain⟨_,h⟩:=h;cases h;exact⟨rfl,fun av hav=>by cases hav;exact hlive⟩
    |fp cells=>cases h;exact⟨rfl,rfl,fun av hav=>by cases hav;exact trivial⟩
    |d x=>exact h.elim
    |own=>exact h.elim
    |fn=>exact h.elim
    |mref=>exact h.elim
  |k v=>cases hr
  |f id=>cases hr
 |indexA sz x i=>
  cases x with
  |t a=>
   simp only[iD,YB]at hr
   subst hr
   simp only[eN,dp,e2,e3]at h⊢
   cases hi:St.eZ ⟨sl,E⟩ i with
   |none=>rw[hi]at h;exact h.elim
   |some v=>
    rw[hi]at h
    simp only at h⊢
    cases v with
    |int k j=>
     obtain⟨hj,h⟩:=h
     cases hv:St.e9 ⟨sl,E⟩ (.t a)with
     |none=>rw[hv]at h;exact h.elim
     |some c=>
      have hv':lk sl a=X7 (.one (.c c)):=by
       simp only[St.e9,St.ev]at hv
       split at hv
       ·rename_i c' hc';cases hv;exact hc'
       ·cases hv
      have hE':=hE a rfl c hv'
      have hlive:c.live (hp E):=hl a (by simp[jS.xE,O.rd]) _ hv'
      rw[hv]at h
      refine⟨⟨hj,?_⟩,?_⟩
      ·cases c with
       |own id ep off len cap=>
        obtain⟨h1,h⟩:=h
        refine⟨h1,?_⟩
        cases hb:hp E id with
        |none=>rw[hb]at h;exact h.elim
        |some b=>rw[hb]at h;rw[hE' id rfl b hb];exact h
       |d x=>
        cases x with
        |sl rows=>exact h
        |w u=>exact h.elim
        |v u=>exact h.elim
       |pt=>exact h.elim
       |pe=>exact h.elim
       |fp=>exact h.elim
       |fn=>exact h.elim
       |mref=>exact h.elim
      ·cases c with
       |own id ep off len cap=>
        obtain⟨h1,h⟩:=h
        split at h
        ·obtain⟨_,_,_,h⟩:=h;cases h;exact⟨rfl,fun av hav=>by cases hav;exact hlive⟩
        ·exact h.elim
       |d x=>
        cases x with
        |sl rows=>obtain⟨r,_,_,h⟩:=h;cases h;exact⟨rfl,fun av hav=>by cases hav;exact trivial⟩
        |w u=>exact h.elim
        |v u=>exact h.elim
       |pt=>exact h.elim
       |pe=>exact h.elim
       |fp=>exact h.elim
       |fn=>exact h.elim
       |mref=>exact h.elim
    |_=>exact h.elim
  |k v=>cases hr
  |f id=>cases hr
 |len x=>
  cases x with
  |t a=>
   simp only[iD,YB]at hr
   subst hr
   simp only[eN,dp,e2]at h⊢
   cases hv:St.e9 ⟨sl,E⟩ (.t a)with
   |none=>rw[hv]at h;exact h.elim
   |some c=>
    have hv':lk sl a=X7 (.one (.c c)):=by
     simp only[St.e9,St.ev]at hv
     split at hv
     ·rename_i c' hc';cases hv;exact hc'
     ·cases hv
    have hE':=hE a rfl c hv'
    rw[hv]at h
    cases c with
    |own id ep off len cap=>
     simp only at h⊢
     cases hb:hp E id with
     |none=>rw[hb]at h;exact h.elim
     |some b=>
      rw[hb]at h
      rw[hE' id rfl b hb]
      refine⟨h,?_⟩
      cases b with
      |box=>exact h.elim
      |map=>exact h.elim
      |arr e sz rows=>obtain⟨_,h⟩:=h;have:=dR h;exact⟨this.1,this.2 _⟩
    |d x=>
     cases x with
     |sl rows=>have:=dR h;exact⟨h,this.1,this.2 _⟩
     |w u=>exact h.elim
     |v u=>
      cases u with
      |slice q m c=>have:=dR h;exact⟨h,this.1,this.2 _⟩
      |_=>exact h.elim
    |pt=>exact h.elim
    |pe=>exact h.elim
    |fp=>exact h.elim
    |fn=>exact h.elim
    |mref=>exact h.elim
  |k v=>cases hr
  |f id=>cases hr
 |slice sz x lo hi mx=>
  cases x with
  |t a=>
   cases mx with
   |some mx=>cases hr
   |none=>
    simp only[iD,YB]at hr
    subst hr
    simp only[eN,dp,e2,e4]at h⊢
    cases hv:St.e9 ⟨sl,E⟩ (.t a)with
    |none=>rw[hv]at h;exact h.elim
    |some c=>
     have hv':lk sl a=X7 (.one (.c c)):=by
      simp only[St.e9,St.ev]at hv
      split at hv
      ·rename_i c' hc';cases hv;exact hc'
      ·cases hv
     have hE':=hE a rfl c hv'
     have hlive:c.live (hp E):=hl a (by simp[jS.xE,O.rd]) _ hv'
     rw[hv]at h
     cases c with
     |own id ep off len cap=>
      simp only at h⊢
      cases hb:hp E id with
      |none=>rw[hb]at h;exact h.elim
      |some b=>
       rw[hb]at h
       rw[hE' id rfl b hb]
       refine⟨h,?_⟩
       cases b with
       |box=>exact h.elim
       |map=>exact h.elim
       |arr e sz' rows=>
        obtain⟨_,_,h⟩:=h
        cases cap with
        |none=>
         obtain⟨x,h⟩:=eT h
         obtain⟨y,h⟩:=eT h
         obtain⟨_,_,h⟩:=h
         cases h
         exact⟨rfl,fun av hav=>by cases hav;exact hlive⟩
        |some c=>
         obtain⟨z,h⟩:=eT h
         obtain⟨x,h⟩:=eT h
         obtain⟨y,h⟩:=eT h
         obtain⟨_,_,_,h⟩:=h
         cases h
         exact⟨rfl,fun av hav=>by cases hav;exact hlive⟩
     |d x=>
      cases x with
      |sl rows=>
       refine⟨h,?_⟩
       obtain⟨x,h⟩:=eT h
       obtain⟨y,h⟩:=eT h
       obtain⟨_,_,_,h⟩:=h
       cases h
       exact⟨rfl,fun av hav=>by cases hav;exact trivial⟩
      |w u=>exact h.elim
      |v u=>
       cases u with
       |slice q m c=>
        cases q with
        |some q=>exact h.elim
        |none=>
         cases m with
         |succ m=>exact h.elim
         |zero=>
          cases c with
          |succ c=>exact h.elim
          |zero=>
           refine⟨h,?_⟩
           obtain⟨_,h⟩:=h
           obtain⟨x,h⟩:=eT h
           obtain⟨y,h⟩:=eT h
           obtain⟨_,_,h⟩:=h
           have:=dR h
           exact⟨this.1,this.2 _⟩
       |_=>exact h.elim
     |pt=>exact h.elim
     |pe=>exact h.elim
     |fp=>exact h.elim
     |fn=>exact h.elim
     |mref=>exact h.elim
  |k v=>cases mx<;>cases hr
  |f id=>cases mx<;>cases hr
 |_=>cases hr
theorem yZ{n:Option Nat}{cs:List C}{out:Out}(h:s5 n cs (·=out)):out.wr=[]:=by
 cases n with
 |none=>
  cases cs with
  |nil=>exact h.elim
  |cons c cs=>cases h;rfl
 |some n=>obtain⟨_,h⟩:=h;cases h;rfl
theorem HM{P:Yn}{op:jS}{oa:Option Nat}{s:St}{out:Out}(hr:iD op=X7 oa)(h:eN P op s (·=out)):out.wr=[]:=by
 cases op with
 |mv x=>simp only[eN,dp]at h;split at h;cases h;rfl;exact h.elim
 |ext x i=>simp only[eN,dp]at h;split at h;split at h;cases h;rfl;exact h.elim;exact h.elim
 |field off n x=>simp only[eN,dp]at h;split at h;exact yZ h;exact h.elim
 |bin op x y=>simp only[eN,dp]at h;split at h;exact(BC h).1;exact h.elim
 |not x=>simp only[eN,dp]at h;split at h;exact(dR h).1;exact h.elim
 |neg x=>simp only[eN,dp]at h;split at h;exact(dR h).1;exact h.elim
 |conv k x=>simp only[eN,dp]at h;split at h;exact(dR h).1;exact h.elim
 |max x y=>simp only[eN,dp]at h;split at h;exact(dR h).1;exact h.elim
 |min x y=>simp only[eN,dp]at h;split at h;exact(dR h).1;exact h.elim
 |slen x=>simp only[eN,dp]at h;split at h;exact(dR h).1;exact h.elim
 |beq neg x y=>simp only[eN,dp]at h;split at h;exact(dR h).1;exact h.elim
 |load n x=>
  simp only[eN,dp]at h
  split at h
  ·split at h
   ·exact yZ h
   ·exact h.elim
  ·split at h
   ·obtain⟨_,_,_,h⟩:=h;exact yZ h
   ·exact h.elim
  ·exact yZ h
  ·exact h.elim
 |fieldA off x=>
  simp only[eN,dp]at h
  split at h
  ·cases h;rfl
  ·split at h
   ·obtain⟨_,h⟩:=h;cases h;rfl
   ·exact h.elim
  ·cases h;rfl
  ·exact h.elim
 |indexA sz x i=>
  simp only[eN,dp]at h
  split at h
  ·rename_i v _
   cases v with
   |int k j=>
    obtain⟨_,h⟩:=h
    split at h
    ·obtain⟨_,_,_,h⟩:=h;cases h;rfl
    ·obtain⟨_,h⟩:=h
     split at h
     ·obtain⟨_,_,_,h⟩:=h;cases h;rfl
     ·exact h.elim
    ·exact h.elim
   |_=>exact h.elim
  ·exact h.elim
 |len x=>
  simp only[eN,dp]at h
  split at h
  ·exact(dR h).1
  ·exact(dR h).1
  ·split at h
   ·obtain⟨_,h⟩:=h;exact(dR h).1
   ·exact h.elim
  ·exact h.elim
 |slice sz x lo hi mx=>
  cases x with
  |t a=>
   cases mx with
   |some mx=>cases hr
   |none=>
    simp only[eN,dp]at h
    split at h
    ·obtain⟨x,h⟩:=eT h
     obtain⟨y,h⟩:=eT h
     obtain⟨_,_,_,h⟩:=h
     cases h;rfl
    ·obtain⟨_,h⟩:=h
     obtain⟨x,h⟩:=eT h
     obtain⟨y,h⟩:=eT h
     obtain⟨_,_,h⟩:=h
     exact(dR h).1
    ·split at h
     ·obtain⟨_,_,h⟩:=h
      split at h
      ·obtain⟨x,h⟩:=eT h
       obtain⟨y,h⟩:=eT h
       obtain⟨_,_,h⟩:=h
       cases h;rfl
      ·obtain⟨z,h⟩:=eT h
       obtain⟨x,h⟩:=eT h
       obtain⟨y,h⟩:=eT h
       obtain⟨_,_,_,h⟩:=h
       cases h;rfl
     ·exact h.elim
    ·exact h.elim
  |k v=>cases mx<;>cases hr
  |f id=>cases mx<;>cases hr
 |_=>cases hr
end Go.Fw
namespace Go.Fw
theorem NL(l:List (Option bw))(k:Nat):hp (l++X4 k Ya)=hp l:=by
 funext x
 simp only[hp]
 rw[List.getElem?_append]
 split
 ·rfl
 ·rename_i h
  rw[XK (by omega:l.length≤x),List.getElem?_replicate]
  split<;>rfl
theorem tU(fD:List Nat)(i:Nat)(w:List (Nat×bw)):∀l,tl fD (l++[(i,w)])=tl fD l++(if fD.contains i then w else [])
 |[]=>by simp only[X2,tl];split<;>simp
 |(j,u)::l=>by
  simp only[X0,tl,tU fD i w l]
  split<;>simp
theorem tX(i:Nat)(w:List (Nat×bw)):∀l,gO (l++[(i,w)])=gO l++w
 |[]=>by simp[gO]
 |(j,u)::l=>by simp[gO,tX i w l]
theorem Kq(fD:List Nat)(i:Nat)(w:List (Nat×bw))(l):tl fD (pz i w l)=tl fD l++(if fD.contains i then w else []):=by
 cases w with
 |nil=>simp[pz]
 |cons x w=>exact tU fD i _ l
theorem wX(i:Nat)(w:List (Nat×bw))(l):gO (pz i w l)=gO l++w:=by
 cases w with
 |nil=>simp[pz]
 |cons x w=>exact tX i _ l
theorem j8:∀(l:List (Option bw)) (i:Nat) (b:bw),l.length≤(cH l i b).length∧i<(cH l i b).length
 |[],0,b=>by simp[cH]
 |[],n+1,b=>by have:=j8 [] n b;simp only[cH,XN];exact⟨by simp,by omega⟩
 |x::l,0,b=>by simp[cH]
 |x::l,n+1,b=>by have:=j8 l n b;simp only[cH,XN];omega
theorem yh:∀(w:List (Nat×bw)) (h:List (Option bw)),h.length≤(fE h w).length∧∀p∈w,p.1<(fE h w).length
 |[],h=>by simp[fE]
 |(i,b)::r,h=>by
  obtain⟨h1,h2⟩:=yh r (cH h i b)
  have:=j8 h i b
  simp only[fE]
  refine⟨by omega,fun p hp=>?_⟩
  rcases XI.1 hp with rfl|hp
  ·simp only;omega
  ·exact h2 p hp
def kp(aO:List (Nat×AV))(g:Option (Nat×Bool)):Option Bool:=
 match g with
 |none=>X7 Yh
 |some (g,want)=>match lk aO g with
  |some (.one (.c (.d (.v (.bool t)))))=>X7 (t==want)
  |some (.tup [])=>X7 Yg
  |_=>Ya
def DV(P:Yn)(h0:List (Option bw))(st:cq)(aO:List (Nat×AV))(wl:List (Nat×List (Nat×bw)))(out:Out):Prop:=
 (kp aO st.guard=X7 Yh∧eN P st.op ⟨aO,oq h0 wl st.fD⟩ (·=out)∧r8 aO h0 wl st.lone out.wr)∨
 (kp aO st.guard=X7 Yg∧out=dr)
theorem mN(aO:List (Nat×AV))(d:Option Nat)(v:Option AV)(t:Nat):lk (fO aO d v) t=if d=X7 t then v else lk aO t:=by
 cases d with
 |none=>simp[fO]
 |some d=>
  cases v with
  |some v=>simp[fO,lk]
  |none=>
   simp only[fO,YB]
   induction aO with
   |nil=>simp[lk]
   |cons x l ih=>
    obtain⟨k,u⟩:=x
    by_cases hk:k=d
    ·subst hk
     rw[XV (by simp),ih]
     by_cases htk:k=t
     ·simp[htk]
     ·simp[lk,htk]
    ·rw[XU (by simp[hk])]
     simp only[lk,ih]
     by_cases htk:k=t
     ·subst htk;simp[YL hk]
     ·simp[htk]
theorem NA{P:Yn}{op:jS}{sl sl':List (Nat×AV)}{E:List (Option bw)}{K:Out→Prop}(hl:∀t,lk sl t=lk sl' t)(h:eN P op ⟨sl,E⟩ K):eN P op ⟨sl',E⟩ K:=
 xO (s:=⟨sl,E⟩) ⟨rfl,fun t _=>(hl t).symm⟩ h
theorem yf{sl sl':List (Nat×AV)}{wr:List (Nat×bw)}(hl:∀t,lk sl t=lk sl' t):∀ts,eP sl wr ts=eP sl' wr ts
 |[]=>rfl
 |a::ts=>by simp only[eP,hl,yf hl ts]
theorem L5{sl sl':List (Nat×AV)}{h:List (Option bw)}{wl:List (Nat×List (Nat×bw))}{lone:Lone}{wr:List (Nat×bw)}(hl:∀t,lk sl t=lk sl' t)(hw:r8 sl h wl lone wr):r8 sl' h wl lone wr:=by
 rcases hw with hw|⟨ts,h1,h2⟩|hw
 ·exact .inl hw
 ·exact .inr (.inl ⟨ts,h1,by rw[←yf hl];exact h2⟩)
 ·exact .inr (.inr hw)
theorem uH{P:Yn}{h0:List (Option bw)}{K:St→Prop}:∀(steps:List cq) (i:Nat) (aO:List (Nat×AV)) (wl:List (Nat×List (Nat×bw))),w9 P h0 steps i aO wl K→
 ∃(out:Nat→Out) (T:Nat→List (Nat×AV)) (W:Nat→List (Nat×List (Nat×bw))),T i=aO∧W i=wl∧
  (∀j st,steps[j]? =X7 st→DV P h0 st (T (i+j)) (W (i+j)) (out (i+j))∧(∀t,lk (T (i+j+1)) t=lk (fO (T (i+j)) st.dst (out (i+j)).val) t)∧W (i+j+1)=pz (i+j) (out (i+j)).wr (W (i+j)))∧
  K ⟨T (i+steps.length),fE h0 (gO (W (i+steps.length)))⟩
 |[],i,aO,wl,h=>⟨fun _=>dr,fun _=>aO,fun _=>wl,rfl,rfl,fun j st hj=>by simp at hj,h⟩
 |st::r,i,aO,wl,h=>by
  have glue:∀(o:Out) (sl:List (Nat×AV)),(∀t,lk sl t=lk aO t)→DV P h0 st aO wl o→w9 P h0 r (i+1) (fO sl st.dst o.val) (pz i o.wr wl) K→
   ∃(out:Nat→Out) (T:Nat→List (Nat×AV)) (W:Nat→List (Nat×List (Nat×bw))),T i=aO∧W i=wl∧
   (∀j st',(st::r)[j]? =X7 st'→DV P h0 st' (T (i+j)) (W (i+j)) (out (i+j))∧(∀t,lk (T (i+j+1)) t=lk (fO (T (i+j)) st'.dst (out (i+j)).val) t)∧W (i+j+1)=pz (i+j) (out (i+j)).wr (W (i+j)))∧
   K ⟨T (i+(st::r).length),fE h0 (gO (W (i+(st::r).length)))⟩:=by
   intro o sl hsl hok hr
   obtain⟨out,T,W,h1,h2,h3,h4⟩:=uH r (i+1) _ _ hr
   refine⟨fun j=>if j=i then o else out j,fun j=>if j=i then aO else T j,fun j=>if j=i then wl else W j,by simp,by simp,fun j st' hj=>?_,?_⟩
   ·cases j with
    |zero=>
     simp only[XS,YB]at hj
     subst hj
     simp only[Nat.add_zero,if_true,Nat.add_one_ne_self,if_false]
     exact⟨hok,fun t=>by rw[h1,mN,mN,hsl],h2⟩
    |succ j=>
     have:=h3 j st' (by simpa using hj)
     rw[show i+1+j=i+(j+1)by omega]at this
     have e1:¬(i+(j+1)=i):=by omega
     have e2:¬(i+(j+1)+1=i):=by omega
     simp only[e1,e2,if_false]
     exact this
   ·simp only[XN]
    have e1:¬(i+(r.length+1)=i):=by omega
    simp only[e1,if_false]
    rw[show i+(r.length+1)=i+1+r.length by omega]
    exact h4
  simp only[w9]at h
  split at h
  ·rename_i hg
   obtain⟨out,h1,h2,h3⟩:=yL h
   exact glue out aO (fun _=>rfl) (.inl ⟨by simp[kp,hg],h1,h2⟩) h3
  ·rename_i g want hg
   split at h
   ·rename_i t ht
    by_cases htw:t=want
    ·subst htw
     obtain⟨out,h1,h2,h3⟩:=yL (h.1 rfl)
     exact glue out _ (rE ht) (.inl ⟨by simp[kp,hg,ht],NA (rE ht) h1,L5 (rE ht) h2⟩) h3
    ·have htn:t= !want:=by cases t<;>cases want<;>simp_all
     exact glue dr _ (rE (by rw[←htn];exact ht)) (.inr ⟨by simp[kp,hg,ht,htw],rfl⟩) (h.2 htn)
   ·rename_i ht
    exact glue dr aO (fun _=>rfl) (.inr ⟨by simp[kp,hg,ht],rfl⟩) h
   ·exact h.elim
def cq.xE(st:cq):List Nat:=st.op.xE++(match st.guard with|some (g,_)=>[g]|none=>[])
structure tv(P:Yn)(n:Nat)(ops:Array Yp)(steps:List cq):Prop where
 len:steps.length=ops.size
 step:∀(i:Nat) o,ops[i]? =X7 o→∃st,steps[i]? =X7 st∧(∀d,o.dst=X7 d→d<n)∧zD P o.op=X7 st.op∧st.dst=o.dst∧
  (match o.guard with|none=>st.guard=Ya|some (g,want)=>∃d,(ops[g]?).bind (·.dst)=X7 d∧d<n∧st.guard=X7 (d,want))
 lone:∀(i:Nat) st,steps[i]? =X7 st→∀ts,st.lone= .lone ts→∀(j:Nat) st',steps[j]? =X7 st'→j≠i→j∈st.fD∨i∈st'.fD∨
  (j<i∧∃oa,iD st'.op=X7 oa∧∀a,oa=X7 a→a∈ts∧∀(k:Nat) stk,j≤k→k<i→steps[k]? =X7 stk→stk.dst≠X7 a)
 own:∀(i:Nat) st,steps[i]? =X7 st→∀cs,st.lone= .new cs→∀c∈cs,c∈st.fD∧∀(k:Nat) st',steps[k]? =X7 st'→k≠i→k∈st.fD∨i∈st'.fD∨c∉st'.fD
 Bn:∀(i:Nat) o st,ops[i]? =X7 o→steps[i]? =X7 st→(∀e∈o.after,YJ .any e=Yh→e.on∈st.fD)∧
  (∀j∈st.fD,∃e∈o.after,YJ .any e=Yh∧(j=e.on∨∃st',steps[e.on]? =X7 st'∧j∈st'.fD))
 trans:∀(i:Nat) st,steps[i]? =X7 st→∀j∈st.fD,j<i∧∃st',steps[j]? =X7 st'∧∀k∈st'.fD,k∈st.fD
 read:∀(i:Nat) st,steps[i]? =X7 st→∀t∈st.xE,∀(k:Nat) st',steps[k]? =X7 st'→k≠i→st'.dst=X7 t→k∈st.fD∨i∈st'.fD
 dst:∀(i k:Nat) st st' t,steps[i]? =X7 st→steps[k]? =X7 st'→i≠k→st.dst=X7 t→st'.dst≠X7 t
end Go.Fw
namespace Go.Fw
theorem v8{l:List (Option bw)}{x:Nat}(h:hp l x≠Ya):x<l.length:=by
 by_cases hx:x<l.length
 ·exact hx
 ·exact(h (by simp[hp,XK (by omega:l.length≤x)])).elim
theorem Fh{out:Nat→Out}{sl0:List (Nat×AV)}{dst:Nat→Option Nat}{S:Nat→Bool}{t:Nat}{av:AV}:∀{n:Nat},LS out sl0 dst S n t=X7 av→
 lk sl0 t=X7 av∨∃j,j<n∧S j=Yh∧dst j=X7 t∧(out j).val=X7 av
 |0,h=> .inl h
 |n+1,h=>by
  simp only[LS]at h
  split at h
  ·rename_i hc;exact .inr ⟨n,by omega,hc.1,hc.2,h⟩
  ·rcases Fh (n:=n) h with h|⟨j,h1,h2⟩
   ·exact .inl h
   ·exact .inr ⟨j,by omega,h2⟩
def tK(aO:List (Nat×AV))(ts:List Nat):List (Nat×AV):=ts.filterMap fun t=>(lk aO t).map fun v=>(t,v)
theorem ma(aO:List (Nat×AV)):∀(ts:List Nat) (t:Nat),lk (tK aO ts) t=if t∈ts then lk aO t else Ya
 |[],t=>by simp[tK,lk]
 |u::ts,t=>by
  have ih:=ma aO ts t
  unfold tK at ih⊢
  simp only[List.filterMap_cons]
  cases hu:lk aO u with
  |none=>
   simp only[Option.map_none,ih,XI]
   by_cases htu:t=u
   ·subst htu;simp[hu]
   ·simp[htu]
  |some v=>
   simp only[Yc,lk,ih,XI]
   by_cases htu:u=t
   ·subst htu;simp[hu]
   ·simp[htu,YL htu]
theorem mem_ready{ops:Array Yp}{listed:Array Bool}{i:Nat}:i∈YK .any ops listed↔i<ops.size∧listed.getD i Yh=Yg∧∃o,ops[i]? =X7 o∧∀e∈o.after,YJ .any e=Yh→listed.getD e.on Yg=Yh:=by
 unfold YK
 simp only[XR,XG,Yj,Yl]
 constructor
 ·rintro⟨h1,h2,h3⟩
  refine⟨h1,h2,?_⟩
  cases ho:ops[i]? with
  |none=>rw[ho]at h3;simp at h3
  |some o=>
   rw[ho]at h3
   simp only[Yc,Ye,YA]at h3
   refine⟨o,rfl,fun e he hb=>?_⟩
   have:=h3 e he
   simpa[hb]using this
 ·rintro⟨h1,h2,o,ho,h3⟩
  refine⟨h1,h2,?_⟩
  rw[ho]
  simp only[Yc,Ye,YA]
  intro e he
  cases hb:YJ .any e with
  |false=>simp
  |true=>simpa using h3 e he hb
theorem Fi(out:Nat→Out)(h:List (Option bw))(S:Nat→Bool):∀n,∃L:List (Option bw),hp L=GS out h S n
 |0=>⟨h,by funext x;rfl⟩
 |n+1=>by
  obtain⟨L,hL⟩:=Fi out h S n
  by_cases hs:S n=Yh
  ·refine⟨fE L (out n).wr,?_⟩
   funext x
   rw[mU,hL]
   simp[GS,hs]
  ·exact⟨L,by funext x;rw[hL];simp[GS,hs]⟩
section
variable {P:Yn} {n m:Nat} {ops:Array Yp} {steps:List cq}
def jb(steps:List cq)(i:Nat):Nat→Bool:=fun j=>((steps[i]?).map (·.fD.contains j)).getD Yg
def Bp(steps:List cq)(i:Nat):Option Nat:=(steps[i]?).bind (·.dst)
theorem lr(hd:tv P n ops steps){s0:St}{K:St→Prop}(hv:w9 P s0.heap steps 0 s0.aO [] K)
 {φ0 F0 a0 w0} (h0:dm n φ0 F0 s0 a0 w0) {Q:Exit→Act→Yo→Prop} (hQ:∀a' w',qC n m φ0 F0 s0 w0 K a' w'→Q .normal a' w'):
 wpAny P .any ops Q ops.size (Yv ops.size Yg) a0 w0:=by
 obtain⟨out,T,W,hT0,hW0,hrec,hK⟩:=uH steps 0 s0.aO [] hv
 simp only[YD]at hrec hK
 let h:=s0.heap
 let dst:=Bp steps
 have hN:steps.length=ops.size:=hd.len
 have hTL:∀i,i≤steps.length→∀t,lk (T i) t=LS out s0.aO dst (fun _=>Yh) i t:=by
  intro i
  induction i with
  |zero=>intro _ t;rw[hT0];rfl
  |succ i ih=>
   intro hi t
   obtain⟨st,hst⟩:∃st,steps[i]? =X7 st:=⟨_,XD (by omega)⟩
   rw[(hrec i st hst).2.1 t,mN]
   simp only[LS,true_and]
   have hdi:dst i=st.dst:=by simp[dst,Bp,hst]
   rw[hdi,ih (by omega) t]
 have hWL:∀i,i≤steps.length→∀fD x,hp (fE h (tl fD (W i))) x=GS out h (fun j=>fD.contains j) i x:=by
  intro i
  induction i with
  |zero=>intro _ fD x;rw[hW0];rfl
  |succ i ih=>
   intro hi fD x
   obtain⟨st,hst⟩:∃st,steps[i]? =X7 st:=⟨_,XD (by omega)⟩
   rw[(hrec i st hst).2.2,Kq,mU,si]
   simp only[GS]
   have:=ih (by omega) fD x
   rw[mU]at this
   by_cases hc:fD.contains i=Yh
   ·simp only[hc,if_true]
    rw[←this]
    cases wv (out i).wr x<;>simp
   ·simp only[hc,Yi,if_false]
    rw[←this];simp[wv]
 have hWA:∀i,i≤steps.length→∀x,hp (fE h (gO (W i))) x=GS out h (fun _=>Yh) i x:=by
  intro i
  induction i with
  |zero=>intro _ x;rw[hW0];rfl
  |succ i ih=>
   intro hi x
   obtain⟨st,hst⟩:∃st,steps[i]? =X7 st:=⟨_,XD (by omega)⟩
   rw[(hrec i st hst).2.2,wX,mU,si]
   simp only[GS,if_true]
   have:=ih (by omega) x
   rw[mU]at this
   rw[←this]
   cases wv (out i).wr x<;>simp
 have hEnv:∀i,i≤steps.length→∀fD,hp (oq h (W i) fD)=GS out h (fun j=>fD.contains j) i:=by
  intro i hi fD
  funext x
  rw[←hWL i hi fD x]
  unfold oq
  split
  ·rename_i he;rw[he];rfl
  ·rw[mU,mU,NL]
 let nx:Nat→Nat:=fun i=>(fE h (gO (W i))).length
 have hnx1:∀i,h.length≤nx i:=fun i=>(yh _ _).1
 have hnx2:∀i,i≤steps.length→∀j,j<i→∀p∈(out j).wr,p.1<nx i:=by
  intro i
  induction i with
  |zero=>intro _ j hj;omega
  |succ i ih=>
   intro hi j hj p hp'
   obtain⟨st,hst⟩:∃st,steps[i]? =X7 st:=⟨_,XD (by omega)⟩
   show p.1<(fE h (gO (W (i+1)))).length
   rw[(hrec i st hst).2.2,wX]
   refine(yh _ _).2 p ?_
   rw[X3]
   by_cases hji:j=i
   ·subst hji;exact .inr hp'
   ·left
    have:∀i,i≤steps.length→j<i→p∈gO (W i):=by
     intro i
     induction i with
     |zero=>intro _ hj;omega
     |succ i ih2=>
      intro hi hj2
      obtain⟨st,hst⟩:∃st,steps[i]? =X7 st:=⟨_,XD (by omega)⟩
      rw[(hrec i st hst).2.2,wX,X3]
      by_cases hji:j=i
      ·subst hji;exact .inr hp'
      ·exact .inl (ih2 (by omega) (by omega))
    exact this i (by omega) (by omega)
 have hWmem:∀i,i≤steps.length→∀j,j<i→(out j).wr≠[]→(j,(out j).wr)∈W i:=by
  intro i
  induction i with
  |zero=>intro _ j hj;omega
  |succ i ih=>
   intro hi j hj hw
   obtain⟨st,hst⟩:∃st,steps[i]? =X7 st:=⟨_,XD (by omega)⟩
   rw[(hrec i st hst).2.2]
   by_cases hji:j=i
   ·subst hji
    cases hc:(out j).wr with
    |nil=>exact(hw hc).elim
    |cons x l=>simp[pz]
   ·have:=ih (by omega) j (by omega) hw
    cases hc:(out i).wr with
    |nil=>exact this
    |cons x l=>exact XL _ this
 have hcond:∀i st,steps[i]? =X7 st→(∃ts,st.lone= .lone ts∧eP (T i) (out i).wr ts=Yh)∨
  ∃own,(st.lone= .new own∨own=[])∧∀p∈(out i).wr,nx i≤p.1∨(h.length≤p.1∧∀j,j<i→wv (out j).wr p.1≠Ya→j∈own):=by
  intro i st hst
  have hil:=(XC.1 hst).1
  rcases(hrec i st hst).1 with⟨_,_,g|g|⟨own,ho,g⟩⟩|⟨_,g⟩
  ·right;refine⟨[],.inr rfl,?_⟩;rw[g];intro p hp';cases hp'
  ·exact .inl g
  ·right;refine⟨own,ho,fun p hp'=>?_⟩
   rcases g p hp' with g|g
   ·exact .inl g
   ·right
    simp only[OP,Yj,Nat.ble_eq,XF]at g
    refine⟨g.1,fun j hj hw=>?_⟩
    obtain⟨q,hq1,hq2⟩:=sg hw
    have g2:=g.2 _ (hWmem i (by omega) j hj (by intro he;rw[he]at hq1;cases hq1))
    rw[Yk]at g2
    rcases g2 with g2|g2
    ·exfalso
     simp only[Yl,List.any_eq_false]at g2
     exact g2 q hq1 (by simp[hq2])
    ·simpa using g2
  ·right;refine⟨[],.inr rfl,?_⟩;rw[g];intro p hp';cases hp'
 have rd_wr:∀i st oa,steps[i]? =X7 st→iD st.op=X7 oa→(out i).wr=[]:=by
  intro i st oa hst hr
  rcases(hrec i st hst).1 with⟨_,h1,_⟩|⟨_,h1⟩
  ·exact HM hr h1
  ·rw[h1];rfl
 have T_same:∀a i n,i+n≤steps.length→(∀(k:Nat) stk,i≤k→k<i+n→steps[k]? =X7 stk→stk.dst≠X7 a)→lk (T (i+n)) a=lk (T i) a:=by
  intro a i n
  induction n with
  |zero=>intro _ _;rfl
  |succ n ih=>
   intro hle hk
   obtain⟨st,hst⟩:∃st,steps[i+n]? =X7 st:=⟨_,XD (by omega)⟩
   show lk (T (i+n+1)) a=_
   rw[(hrec (i+n) st hst).2.1 a,mN,if_neg (hk (i+n) st (by omega) (by omega) hst)]
   exact ih (by omega) fun k stk h1 h2=>hk k stk h1 (by omega)
 have bef_st:∀i st,steps[i]? =X7 st→∀j,jb steps i j=st.fD.contains j:=by intro i st hst j;simp[jb,hst]
 have bef_lt:∀i j,jb steps i j=Yh→j<i∧j<steps.length∧∀k,jb steps j k=Yh→jb steps i k=Yh:=by
  intro i j hj
  cases hst:steps[i]? with
  |none=>simp[jb,hst]at hj
  |some st=>
   rw[bef_st i st hst]at hj
   obtain⟨h1,st',hst',h2⟩:=hd.trans i st hst j (by simpa using hj)
   refine⟨h1,(XC.1 hst').1,fun k hk=>?_⟩
   rw[bef_st j st' hst']at hk
   rw[bef_st i st hst]
   simpa using h2 k (by simpa using hk)
 have clash:∀i j x,i<steps.length→j<steps.length→i≠j→wv (out i).wr x≠Ya→wv (out j).wr x≠Ya→jb steps j i=Yh∨jb steps i j=Yh:=by
  have key:∀i j x,i<j→j<steps.length→wv (out i).wr x≠Ya→wv (out j).wr x≠Ya→jb steps j i=Yh:=by
   intro i j x hij hj hi' hj'
   obtain⟨p,hp1,rfl⟩:=sg hi'
   obtain⟨q,hq1,hq2⟩:=sg hj'
   have h1:=hnx2 j (by omega) i hij p hp1
   obtain⟨st,hst⟩:∃st,steps[j]? =X7 st:=⟨_,XD hj⟩
   obtain⟨sti,hsti⟩:∃st,steps[i]? =X7 st:=⟨_,XD (by omega)⟩
   rcases hcond j st hst with⟨ts,hl,_⟩|hl
   ·rcases hd.lone j st hst ts hl i sti hsti (by omega)with h2|h2|⟨_,oa,h2,_⟩
    ·rw[bef_st j st hst];simpa using h2
    ·have:=(hd.trans i sti hsti j h2).1;omega
    ·rw[rd_wr i sti oa hsti h2]at hp1;cases hp1
   ·obtain⟨own,ho,hl⟩:=hl
    rcases hl q hq1 with h2|⟨_,h2⟩
    ·omega
    ·have h3:=h2 i hij (by rw[hq2];exact hi')
     rcases ho with ho|ho
     ·have h4:=(hd.own j st hst own ho i h3).1
      rw[bef_st j st hst];simpa using h4
     ·rw[ho]at h3;cases h3
  intro i j x hi hj hne h1 h2
  rcases Nat.lt_or_gt_of_ne hne with hlt|hgt
  ·exact .inl (key i j x hlt hj h1 h2)
  ·exact .inr (key j i x hgt hi h2 h1)
 have old_write:∀i j x st,steps[i]? =X7 st→j<steps.length→i≠j→wv (out j).wr x≠Ya→x<nx j→jb steps j i=Yh∨jb steps i j=Yh∨
  (∃oa,iD st.op=X7 oa∧∀a,oa=X7 a→∀c,lk (T i) a=X7 (.one (.c c))→Lv c≠X7 x)∨GS out h (jb steps i) i x=Ya:=by
  intro i j x sti hsti hj hne hw hx
  have hw0:=hw
  obtain⟨p,hp1,rfl⟩:=sg hw
  obtain⟨st,hst⟩:∃st,steps[j]? =X7 st:=⟨_,XD hj⟩
  rcases hcond j st hst with⟨ts,hl,hap⟩|hl
  ·rcases hd.lone j st hst ts hl i sti hsti hne with h2|h2|⟨hij,oa,h2,h3⟩
   ·left;rw[bef_st j st hst];simpa using h2
   ·right;left;rw[bef_st i sti hsti];simpa using h2
   ·right;right;left
    refine⟨oa,h2,fun a ha c hc=>?_⟩
    obtain⟨h4,h5⟩:=h3 a ha
    have e:=T_same a i (j-i) (by omega) fun k stk g1 g2 g3=>h5 k stk g1 (by omega) g3
    rw[show i+(j-i)=j by omega]at e
    exact wW hap h4 (by rw[e];exact hc) p hp1
  ·obtain⟨own,ho,hl⟩:=hl
   rcases hl p hp1 with h2|⟨h2,h3⟩
   ·omega
   ·by_cases hij:jb steps i j=Yh
    ·exact .inr (.inl hij)
    by_cases hji:jb steps j i=Yh
    ·exact .inl hji
    refine .inr (.inr (.inr ?_))
    cases hg:GS out h (jb steps i) i p.1 with
    |none=>rfl
    |some bZ=>
     exfalso
     rcases nk out h hg with h4|⟨c,h4,h5,h6⟩
     ·have:=v8 (l:=h) (x:=p.1) (by rw[h4];simp);omega
     ·have hcj:c≠j:=by intro he;subst he;exact hij h5
      have hcl:=(bef_lt i c h5).2.1
      rcases clash c j p.1 hcl hj hcj (by rw[h6];simp) hw0 with h7|h7
      ·have hc2:=h3 c (bef_lt j c h7).1 (by rw[h6];simp)
       rcases ho with ho|ho
       ·rcases(hd.own j st hst own ho c hc2).2 i sti hsti hne with h8|h8|h8
        ·exact hji (by rw[bef_st j st hst];simpa using h8)
        ·exact hij (by rw[bef_st i sti hsti];simpa using h8)
        ·rw[bef_st i sti hsti]at h5;exact h8 (by simpa using h5)
       ·rw[ho]at hc2;cases hc2
      ·exact hij ((bef_lt i c h5).2.2 j h7)
 let G:(Nat→Bool)→eg:=fun S=>GS out h S steps.length
 let HJ:Nat→eg:=fun j=>fun x=>(wv (out j).wr x).or (GS out h (jb steps j) j x)
 have main:∀(fuel:Nat) (listed:Array Bool) (a:Act) (w:Yo),listed.size=ops.size→listed.toList.count Yg≤fuel→
  (∃φ F,a.tmps.size=n∧a.defers=[]∧Rel φ F (G fun j=>listed.getD j Yg) w∧
    (∀t av,LS out s0.aO dst (fun j=>listed.getD j Yg) steps.length t=X7 av→ec φ F (G fun j=>listed.getD j Yg) w av (a.tmps.getD t undef))∧
    Fr φ0 F0 w0 φ F w∧gY m φ0 F0 (hp s0.heap) w0 φ F (G fun j=>listed.getD j Yg) w)→
  (∀j,listed.getD j Yg=Yh→∀k,jb steps j k=Yh→listed.getD k Yg=Yh)→
  (∀j,listed.getD j Yg=Yh→(∀x bZ,HJ j x=X7 bZ→bZ.live (HJ j))∧∀av,(out j).val=X7 av→av.live (HJ j))→
  wpAny P .any ops Q fuel listed a w:=by
  have done:∀(listed:Array Bool) (a:Act) (w:Yo),listed.size=ops.size→(∀j,j<ops.size→listed.getD j Yg=Yh)→
   (∃φ F,a.tmps.size=n∧a.defers=[]∧Rel φ F (G fun j=>listed.getD j Yg) w∧
     (∀t av,LS out s0.aO dst (fun j=>listed.getD j Yg) steps.length t=X7 av→ec φ F (G fun j=>listed.getD j Yg) w av (a.tmps.getD t undef))∧
     Fr φ0 F0 w0 φ F w∧gY m φ0 F0 (hp s0.heap) w0 φ F (G fun j=>listed.getD j Yg) w)→Q .normal a w:=by
   rintro listed a w hsz hall ⟨φ,F,h1,h2,h3,h4,h5,h6⟩
   have hG:(G fun j=>listed.getD j Yg)=hp (fE h (gO (W steps.length))):=by
    funext x
    rw[hWA _ (YC _)]
    exact se out h fun j hj _=>hall j (by omega)
   have hL:∀t,LS out s0.aO dst (fun j=>listed.getD j Yg) steps.length t=lk (T steps.length) t:=by
    intro t
    rw[hTL _ (YC _)]
    exact sb out s0.aO dst fun j hj _=>hall j (by omega)
   rw[hG]at h3 h4 h6
   exact hQ a w ⟨_,φ,F,hK,⟨h1,h2,h3,fun t av ht=>h4 t av (by rw[hL];exact ht)⟩,h5,h6⟩
  have notReady:∀(listed:Array Bool),listed.size=ops.size→YK .any ops listed=[]→∀j,j<ops.size→listed.getD j Yg=Yh:=by
   intro listed hsz hr j
   induction j using YG with
   |_ j ih=>
    intro hj
    by_cases hl:listed.getD j Yg=Yh
    ·exact hl
    exfalso
    have:j∈YK .any ops listed:=by
     rw[mem_ready]
     refine⟨hj,?_,ops[j],Yw hj,fun e he hb=>?_⟩
     ·simp only[Yu,hsz,hj,dif_pos]at hl⊢;simpa using hl
     ·obtain⟨st,hst⟩:∃st,steps[j]? =X7 st:=⟨_,XD (by omega)⟩
      have h1:=(hd.Bn j _ st (Yw hj) hst).1 e he hb
      obtain⟨h2,st',hst',_⟩:=hd.trans j st hst _ h1
      have h3:=(XC.1 hst').1
      exact ih _ h2 (by omega)
    rw[hr]at this;cases this
  intro fuel
  induction fuel with
  |zero=>
   intro listed a w hsz hcnt hinv _ _
   have hall:∀j,j<ops.size→listed.getD j Yg=Yh:=by
    intro j hj
    have hc:listed.toList.count Yg=0:=by omega
    rw[List.count_eq_zero]at hc
    simp only[Yu,hsz,hj,dif_pos]
    show listed[j]'(by omega)=Yh
    cases hv:listed[j]'(by omega)with
    |true=>rfl
    |false=>exact(hc (by rw[←hv];simp)).elim
   refine⟨?_,done listed a w hsz hall hinv⟩
   rw[List.eq_nil_iff_forall_not_mem]
   intro i hi
   obtain⟨h1,h2,_⟩:=mem_ready.1 hi
   have:=hall i h1
   simp only[Yu,hsz,h1,dif_pos]at h2 this
   rw[h2]at this;cases this
  |succ fuel ih=>
   intro listed a w hsz hcnt hinv hclo hliv
   refine⟨fun hr=>done listed a w hsz (notReady listed hsz hr) hinv,fun i hi=>?_⟩
   obtain⟨hi1,hi2,o,ho,hedge⟩:=mem_ready.1 hi
   obtain⟨φ,F,g1,g2,g3,g4,g5,g6⟩:=hinv
   have hSi:listed.getD i Yg=Yg:=by simp only[Yu,hsz,hi1,dif_pos]at hi2⊢;exact hi2
   obtain⟨st,hst,hdn,hop,hdst,hguard⟩:=hd.step i o ho
   have hiN:i<steps.length:=by omega
   have hbefS:∀k,jb steps i k=Yh→listed.getD k Yg=Yh:=by
    intro k hk
    rw[bef_st i st hst]at hk
    obtain⟨e,he,hb,h1⟩:=(hd.Bn i o st ho hst).2 k (by simpa using hk)
    have hl:=hedge e he hb
    rcases h1 with rfl|⟨st',hst',hk'⟩
    ·exact hl
    ·exact hclo e.on hl k (by rw[bef_st _ st' hst'];simpa using hk')
   have hbi:∀j,i≤j→jb steps i j=Yg:=by
    intro j hj
    cases hb:jb steps i j with
    |false=>rfl
    |true=>have:=(bef_lt i j hb).1;omega
   let E:=oq h (W i) st.fD
   have hE:hp E=GS out h (jb steps i) i:=by
    show hp (oq h (W i) st.fD)=_
    rw[hEnv i (by omega) st.fD]
    congr 1
    funext j;rw[bef_st i st hst]
   have env_sub':∀x bZ,hp E x=X7 bZ→(∀j,j<steps.length→i≠j→wv (out j).wr x≠Ya→x<nx j→jb steps j i=Yh∨jb steps i j=Yh)→G (fun j=>listed.getD j Yg) x=X7 bZ:=by
    intro x bZ hx hok
    rw[hE]at hx
    have hx':GS out h (jb steps i) steps.length x=X7 bZ:=by rw[KG out h (by omega:i≤steps.length) hbi];exact hx
    rw[←hx']
    refine(se out h fun j hj hw=>?_).symm
    cases hb:jb steps i j with
    |true=>exact(hbefS j hb).symm
    |false=>
     cases hS:listed.getD j Yg with
     |false=>rfl
     |true=>
      exfalso
      have hji:i≠j:=by intro he;subst he;rw[hSi]at hS;cases hS
      by_cases hxn:x<nx j
      ·rcases hok j hj hji hw hxn with h1|h1
       ·have:=hclo j hS i h1;rw[hSi]at this;cases this
       ·rw[h1]at hb;cases hb
      ·rcases nk out h hx with h1|⟨j2,h1,h2,h3⟩
       ·have:=v8 (l:=h) (x:=x) (by rw[h1];simp);have:=hnx1 j;omega
       ·have hne:j≠j2:=by intro he;subst he;rw[h2]at hb;cases hb
        rcases clash j j2 x hj (by omega) hne hw (by rw[h3];simp)with h4|h4
        ·have:=(bef_lt i j2 h2).2.2 j h4;rw[this]at hb;cases hb
        ·obtain⟨p,hp1,rfl⟩:=sg (l:=(out j2).wr) (x:=x) (by rw[h3];simp)
         have:=hnx2 j (by omega) j2 (bef_lt j j2 h4).1 p hp1
         omega
   have env_sub:iD st.op=Ya→∀x bZ,hp E x=X7 bZ→G (fun j=>listed.getD j Yg) x=X7 bZ:=by
    intro hnr x bZ hx
    refine env_sub' x bZ hx fun j hj hji hw hxn=>?_
    rcases old_write i j x st hst hj hji hw hxn with h1|h1|⟨oa,h1,_⟩|h1
    ·exact .inl h1
    ·exact .inr h1
    ·rw[hnr]at h1;cases h1
    ·rw[hE,h1]at hx;cases hx
   have dom_base:∀x,hp h x≠Ya→hp E x≠Ya:=fun x hx=>by rw[hE];exact uz out h hx i
   have dom_HJ:∀j,jb steps i j=Yh→∀x,HJ j x≠Ya→hp E x≠Ya:=by
    intro j hj x hx
    rw[hE]
    have hji:=(bef_lt i j hj).1
    cases hw:wv (out j).wr x with
    |some b=>exact KE out h hj (by rw[hw];simp) hji
    |none=>
     simp only[HJ,hw,Yb]at hx
     cases hg:GS out h (jb steps j) j x with
     |none=>exact(hx hg).elim
     |some b=>
      rcases nk out h hg with h1|⟨j2,h1,h2,h3⟩
      ·exact uz out h (by rw[h1];simp) i
      ·exact KE out h ((bef_lt i j hj).2.2 j2 h2) (by rw[h3];simp) (by omega)
   have hcl0:∀x bZ,hp h x=X7 bZ→bZ.live (hp h):=fun x bZ hx=>h0.rel.closed hx
   have hclE:∀x bZ,hp E x=X7 bZ→bZ.live (hp E):=by
    intro x bZ hx
    have hx2:=hx
    rw[hE]at hx2
    rcases nk out h hx2 with h1|⟨j,h1,h2,h3⟩
    ·exact bw.gp dom_base (hcl0 x bZ h1)
    ·exact bw.gp (dom_HJ j h2) ((hliv j (hbefS j h2)).1 x bZ (by simp[HJ,h3]))
   have emb:iD st.op=Ya→KJ (fun x=>x) (hp E) (G fun j=>listed.getD j Yg):=fun hnr=>
    ⟨fun k bZ hk=>by rw[bw.ji];exact env_sub hnr k bZ hk,fun i j _ _ he=>he,hclE⟩
   have hslot:∀t∈st.xE,lk (T i) t=LS out s0.aO dst (fun j=>listed.getD j Yg) steps.length t:=by
    intro t ht
    rw[hTL i (by omega)]
    have e1:LS out s0.aO dst (fun _=>Yh) i t=LS out s0.aO dst (fun j=>decide (j<i)) i t:=sb out s0.aO dst fun j hj _=>by simp[hj]
    have e2:LS out s0.aO dst (fun j=>decide (j<i)) steps.length t=LS out s0.aO dst (fun j=>decide (j<i)) i t:=KD out s0.aO dst (by omega) fun j hj=>by simp;omega
    rw[e1,←e2]
    refine sb out s0.aO dst fun j hj hdj=>?_
    obtain⟨stj,hstj⟩:∃st,steps[j]? =X7 st:=⟨_,XD hj⟩
    have hdj':stj.dst=X7 t:=by have:=hdj;simp[dst,Bp,hstj]at this;exact this
    by_cases hji:j=i
    ·subst hji;rw[hSi];simp
    ·rcases hd.read i st hst t ht j stj hstj hji hdj' with h1|h1
     ·have h2:jb steps i j=Yh:=by rw[bef_st i st hst];simpa using h1
      rw[hbefS j h2];simpa using(bef_lt i j h2).1
     ·have h2:jb steps j i=Yh:=by rw[bef_st j stj hstj];simpa using h1
      have h3:=(bef_lt j i h2).1
      cases hS:listed.getD j Yg with
      |false=>simp;omega
      |true=>have:=hclo j hS i h2;rw[hSi]at this;cases this
   have hslive:∀t∈st.xE,∀av,lk (T i) t=X7 av→av.live (hp E):=by
    intro t ht av hav
    rw[hslot t ht]at hav
    rcases Fh hav with h1|⟨j,h1,h2,h3,h4⟩
    ·exact AV.gp dom_base (h0.slot t av h1).live
    ·obtain⟨stj,hstj⟩:∃st,steps[j]? =X7 st:=⟨_,XD h1⟩
     have hdj':stj.dst=X7 t:=by have:=h3;simp[dst,Bp,hstj]at this;exact this
     have hji:j≠i:=by intro he;subst he;rw[hSi]at h2;cases h2
     rcases hd.read i st hst t ht j stj hstj hji hdj' with h5|h5
     ·have h6:jb steps i j=Yh:=by rw[bef_st i st hst];simpa using h5
      exact AV.gp (dom_HJ j h6) ((hliv j h2).2 av h4)
     ·have h6:jb steps j i=Yh:=by rw[bef_st j stj hstj];simpa using h5
      have:=hclo j h2 i h6;rw[hSi]at this;cases this
   let sr:St:=⟨tK (T i) st.xE,E⟩
   have hsr:iD st.op=Ya→dm n (down (fun x=>x) (hp E) φ) F sr a w:=by
    intro hnr
    refine⟨g1,g2,Rel.down (emb hnr) g3,fun t av ht=>?_⟩
    simp only[sr,ma]at ht
    split at ht
    ·rename_i htr
     exact ec.down (emb hnr) (hslive t htr av ht) (g4 t av (by rw[←hslot t htr];exact ht))
    ·cases ht
   have hlen':(listed.setIfInBounds i Yh).size=ops.size:=by simp[hsz]
   have hget':(fun j=>(listed.setIfInBounds i Yh).getD j Yg)=fun j=>if j=i then Yh else listed.getD j Yg:=by
    funext j
    simp only[Yu,Array.size_setIfInBounds]
    by_cases hj:j<listed.size
    ·simp only[hj,dif_pos]
     by_cases hji:j=i
     ·subst hji;simp
     ·rw[if_neg hji]
      show(listed.setIfInBounds i Yh)[j]=listed[j]
      rw[Array.getElem_setIfInBounds_ne _ (YL hji)]
    ·simp only[hj,dif_neg,not_false_iff]
     rw[if_neg (by omega)]
   have hcnt':(listed.setIfInBounds i Yh).toList.count Yg≤fuel:=by
    have hil:i<listed.toList.length:=by simp;omega
    have hfalse:listed.toList[i]=Yg:=by simp only[Yu,hsz,hi1,dif_pos]at hSi;simpa using hSi
    rw[Array.toList_setIfInBounds,List.count_set hil,hfalse]
    have e:(Yh==Yg)=Yg:=rfl
    simp only[beq_self_eq_true,if_true,e,Yi,if_false]
    have:0<listed.toList.count Yg:=List.count_pos_iff.2 (by rw[←hfalse];exact List.getElem_mem hil)
    omega
   have hclo':∀j,(listed.setIfInBounds i Yh).getD j Yg=Yh→∀k,jb steps j k=Yh→(listed.setIfInBounds i Yh).getD k Yg=Yh:=by
    intro j hj k hk
    have e1:=congrFun hget' j
    have e2:=congrFun hget' k
    rw[e1]at hj;rw[e2]
    by_cases hki:k=i
    ·simp[hki]
    ·rw[if_neg hki]
     by_cases hji:j=i
     ·subst hji;exact hbefS k hk
     ·rw[if_neg hji]at hj;exact hclo j hj k hk
   have hHJ:HJ i=fun x=>(wv (out i).wr x).or (hp E x):=by funext x;simp only[HJ,hE]
   have hGput:(G fun j=>(listed.setIfInBounds i Yh).getD j Yg)=fun x=>(wv (out i).wr x).or (G (fun j=>listed.getD j Yg) x):=by
    rw[hget']
    funext x
    refine KF out h hiN (fun j hj hij hS hw=>?_) hSi
    cases hwj:wv (out j).wr x with
    |none=>rfl
    |some b=>
     exfalso
     rcases clash i j x hiN hj (by omega) hw (by rw[hwj];simp)with h1|h1
     ·have:=hclo j hS i h1;rw[hSi]at this;cases this
     ·have:=(bef_lt i j h1).1;omega
   have hLput:∀t,LS out s0.aO dst (fun j=>(listed.setIfInBounds i Yh).getD j Yg) steps.length t=if dst i=X7 t then(out i).val else LS out s0.aO dst (fun j=>listed.getD j Yg) steps.length t:=by
    intro t
    rw[hget']
    refine KC out s0.aO dst (fun j hj hdi=>?_) hiN hSi
    cases hstj:steps[j]? with
    |none=>simp[dst,Bp,hstj]
    |some stj=>
     have h1:st.dst=X7 t:=by have:=hdi;simp[dst,Bp,hst]at this;exact this
     have:=hd.dst i j st stj t hst hstj (YL hj) h1
     simp[dst,Bp,hstj];exact this
   have hdi:dst i=o.dst:=by simp[dst,Bp,hst,hdst]
   have go:∀{v:Value} {φ' F' w'},Rel φ' F' (fun x=>(wv (out i).wr x).or (G (fun j=>listed.getD j Yg) x)) w'→
    (∀av,(out i).val=X7 av→ec φ' F' (fun x=>(wv (out i).wr x).or (G (fun j=>listed.getD j Yg) x)) w' av v)→
    ix φ F (G fun j=>listed.getD j Yg) w φ' F' (fun x=>(wv (out i).wr x).or (G (fun j=>listed.getD j Yg) x)) w'→Fr φ F w φ' F' w'→
    ((∀x bZ,HJ i x=X7 bZ→bZ.live (HJ i))∧∀av,(out i).val=X7 av→av.live (HJ i))→
    wpAny P .any ops Q fuel (listed.setIfInBounds i Yh) (a.put o.dst v) w':=by
    intro v φ' F' w' k1 k2 k3 k4 k5
    refine ih _ _ _ hlen' hcnt' ⟨φ',F',by cases o.dst<;>simp[YR,g1],by cases o.dst<;>simp[YR,g2],by rw[hGput];exact k1,fun t av ht=>?_,g5.trans k4,by rw[hGput];exact g6.trans k3.m⟩ hclo' fun j hj=>?_
    ·rw[hLput,hdi]at ht
     rw[hGput]
     by_cases hdt:o.dst=X7 t
     ·rw[if_pos hdt]at ht
      have:(a.put o.dst v).tmps.getD t undef=v:=by
       rw[hdt];simp[YR,Yu,g1,hdn t hdt]
      rw[this];exact k2 av ht
     ·rw[if_neg hdt]at ht
      have:(a.put o.dst v).tmps.getD t undef=a.tmps.getD t undef:=by
       cases hdd:o.dst with
       |none=>rfl
       |some d=>
        have:d≠t:=fun he=>hdt (by rw[hdd,he])
        simp[YR,Yx this]
      rw[this];exact(g4 t av ht).mono k3
    ·have e1:=congrFun hget' j
     rw[e1]at hj
     by_cases hji:j=i
     ·subst hji;exact k5
     ·rw[if_neg hji]at hj;exact hliv j hj
   have goRun:eN P st.op ⟨T i,E⟩ (·=out i)→o.wp P a w (wpAny P .any ops Q fuel (listed.setIfInBounds i Yh)) Q:=by
    intro hrun
    have hrun':eN P st.op sr (·=out i):=xO (s:=⟨T i,E⟩) ⟨rfl,fun t ht=>by
     have:t∈st.xE:=XL _ ht
     simp only[sr,ma,if_pos this]⟩ hrun
    cases hrd:iD st.op with
    |some oa=>
     obtain⟨GL,hGL⟩:=Fi out h (fun j=>listed.getD j Yg) steps.length
     have hGL':hp GL=G fun j=>listed.getD j Yg:=hGL
     obtain⟨q1,q2,q3⟩:=Ap (E':=GL) hrd hrun' (fun a ha c hc k hk bZ hb=>by
      rw[hGL']
      refine env_sub' k bZ hb fun j hj hji hw hxn=>?_
      rcases old_write i j k st hst hj hji hw hxn with h1|h1|⟨oa',h1,h2⟩|h1
      ·exact .inl h1
      ·exact .inr h1
      ·rw[hrd]at h1;cases h1
       simp only[ma]at hc
       split at hc
       ·exact(h2 a ha c hc hk).elim
       ·cases hc
      ·rw[hE,h1]at hb;cases hb) hclE (fun t ht av hav=>by
      simp only[ma]at hav
      split at hav
      ·rename_i htr;exact hslive t htr av hav
      ·cases hav)
     have hsr2:dm n φ F ⟨tK (T i) st.xE,GL⟩ a w:=by
      refine⟨g1,g2,by rw[show(St.mk (tK (T i) st.xE) GL).heap=GL from rfl,hGL'];exact g3,fun t av ht=>?_⟩
      simp only[ma]at ht
      split at ht
      ·rename_i htr
       rw[show(St.mk (tK (T i) st.xE) GL).heap=GL from rfl,hGL']
       exact g4 t av (by rw[←hslot t htr];exact ht)
      ·cases ht
     refine YS ?_ (oX hsr2 hop q1 Q)
     rintro a' w' ⟨v,rfl,⟨⟨out',φ',F',rfl,hav,hr,hs,hf⟩⟩⟩
     have e0:(St.mk (tK (T i) st.xE) GL).heap=GL:=rfl
     have e1:(fun x=>(wv (out i).wr x).or (G (fun j=>listed.getD j Yg) x))=G fun j=>listed.getD j Yg:=by funext x;rw[q2];simp[wv]
     rw[e0,q2]at hav hr hs
     simp only[fE]at hav hr hs
     rw[hGL']at hav hr hs
     have e2:HJ i=hp E:=by rw[hHJ];funext x;rw[q2];simp[wv]
     refine go (by rw[e1];exact hr) (by rw[e1];exact hav) (by rw[e1];exact hs) hf ?_
     rw[e2]
     exact⟨hclE,q3⟩
    |none=>
    replace emb:=emb hrd
    replace env_sub:=env_sub hrd
    refine YS ?_ (oX (hsr hrd) hop hrun' Q)
    rintro a' w' ⟨v,rfl,⟨⟨out',φ',F',rfl,hav,hr,hs,hf⟩⟩⟩
    have hH:hp (fE E (out i).wr)=HJ i:=by rw[hHJ];funext x;exact mU _ _ _
    rw[show sr.heap=E from rfl]at hav hr hs
    rw[hH]at hav hr hs
    obtain⟨f1,f2,f3,f4⟩:=frame (ρ:=fun x=>x) (ρ':=fun x=>x) (G':=fun x=>(wv (out i).wr x).or (G (fun j=>listed.getD j Yg) x)) g3 emb hr hs hf (fun _ _=>rfl) (fun _ _ _ _ he=>he)
     (fun k hk hn=>by
       rw[hHJ]at hk
       simp only[hn,Option.or_none]at hk
       cases hg:G (fun j=>listed.getD j Yg) k with
       |none=>rfl
       |some b=>
        exfalso
        rcases nk out h hg with h1|⟨j,h1,h2,h3⟩
        ·exact dom_base k (by rw[h1];simp) hn
        ·have hji:i≠j:=by intro he;subst he;rw[hSi]at h2;cases h2
         rcases clash i j k hiN h1 hji hk (by rw[h3];simp)with h4|h4
         ·have:=hclo j h2 i h4;rw[hSi]at this;cases this
         ·exact dom_HJ j h4 k (by simp[HJ,h3]) hn)
     (fun k bZ hk=>by
       rw[bw.ji]
       rw[hHJ]at hk
       cases hw:wv (out i).wr k with
       |some b=>simp only[hw,Yd]at hk⊢;exact hk
       |none=>simp only[hw,Yb]at hk⊢;exact env_sub k bZ hk)
     (fun x hx=>by
       have:HJ i x=Ya:=by cases hc:HJ i x with|none=>rfl|some b=>exact(hx x (by rw[hc];simp) rfl).elim
       rw[hHJ]at this
       cases hw:wv (out i).wr x with
       |some b=>simp[hw]at this
       |none=>simp)
    refine go f1 (fun av hav'=>?_) f2 f3 ⟨fun x bZ hx=>hr.closed hx,fun av hav'=>(hav av hav').live⟩
    have:=ec.up (ρ:=fun x=>x) (G:=fun x=>(wv (out i).wr x).or (G (fun j=>listed.getD j Yg) x)) (φ':=upφ (fun x=>x) (HJ i) φ' φ) (fun k bZ hk=>by
     rw[bw.ji]
     rw[hHJ]at hk
     cases hw:wv (out i).wr k with
     |some b=>simp only[hw,Yd]at hk⊢;exact hk
     |none=>simp only[hw,Yb]at hk⊢;exact env_sub k bZ hk) f4 (hav av hav')
    rw[AV.ji]at this
    exact this
   have goSkip:out i=dr→wpAny P .any ops Q fuel (listed.setIfInBounds i Yh) (a.put o.dst undef) w:=by
    intro hsk
    have e1:(fun x=>(wv (out i).wr x).or (G (fun j=>listed.getD j Yg) x))=G fun j=>listed.getD j Yg:=by funext x;rw[hsk];simp[dr,wv]
    refine go (v:=undef) (φ':=φ) (F':=F) (w':=w) ?_ ?_ ?_ (Fr.refl _ _ _) ?_
    ·rw[e1];exact g3
    ·intro av hav;rw[hsk]at hav;cases hav;exact⟨[],rfl,.nil⟩
    ·rw[e1];exact ix.refl _ _ _ _
    ·have e2:HJ i=hp E:=by rw[hHJ];funext x;rw[hsk];simp[dr,wv]
     rw[e2]
     exact⟨hclE,fun av hav=>by rw[hsk]at hav;cases hav;intro a ha;cases ha⟩
   unfold wpOp
   rw[ho]
   simp only
   have hstep:=(hrec i st hst).1
   cases hg:o.guard with
   |none=>
    rw[hg]at hguard
    simp only at hguard
    simp only[YI,hg,if_true]
    rcases hstep with⟨_,h2,_⟩|⟨h1,_⟩
    ·exact .inl (goRun h2)
    ·simp[kp,hguard]at h1
   |some y=>
    obtain⟨g,want⟩:=y
    rw[hg]at hguard
    obtain⟨d,hd1,hd2,hguard⟩:=hguard
    have hy:=pK (a:=a) hd1 (by rw[g1];exact hd2)
    have hdr:d∈st.xE:=by simp[cq.xE,hguard]
    have hw0:∀av,lk (T i) d=X7 av→ec φ F (G fun j=>listed.getD j Yg) w av (a.tmps.getD d undef):=fun av hav=>g4 d av (by rw[←hslot d hdr];exact hav)
    have key:∀b,kp (T i) st.guard=X7 b→YI o (yielded ops a.tmps)=b:=by
     intro b hb
     simp only[kp,hguard]at hb
     split at hb
     ·rename_i t ht
      cases hb
      have hval:=hw0 _ ht
      generalize a.tmps.getD d undef=u at hval hy
      cases hval
      simp only at hy
      simp only[YI,hg,hy]
      cases t<;>cases want<;>rfl
     ·rename_i ht
      cases hb
      obtain⟨vs,hval,hvs⟩:=hw0 _ ht
      cases hvs
      rw[hval]at hy
      simp only at hy
      simp only[YI,hg,hy];rfl
     ·cases hb
    rcases hstep with⟨h1,h2,_⟩|⟨h1,h2⟩
    ·rw[key _ h1];simp only[if_true];exact .inl (goRun h2)
    ·rw[key _ h1];simp only[Yi,if_false];exact goSkip h2
 have hS0:(fun j=>(Yv ops.size Yg).getD j Yg)=fun _=>Yg:=by
  funext j
  simp only[Yu]
  split
  ·rename_i hj
   show(Yv ops.size Yg)[j]=Yg
   simp
  ·rfl
 have hG0:G (fun _=>Yg)=hp s0.heap:=by
  funext x
  exact KG out h (YE _) (fun _ _=>rfl)
 refine main ops.size _ a0 w0 (by simp) (by simp[List.count_replicate]) ⟨φ0,F0,h0.size,h0.defers,?_,?_,Fr.refl _ _ _,?_⟩ ?_ ?_
 ·rw[hS0,hG0];exact h0.rel
 ·intro t av ht
  rw[hS0]at ht⊢
  rw[hG0]
  rw[KD out s0.aO dst (YE _) (fun _ _=>rfl)]at ht
  exact h0.slot t av ht
 ·rw[hS0,hG0];exact gY.refl _ _ _ _ _
 ·intro j hj
  have:=congrFun hS0 j
  rw[this]at hj;cases hj
 ·intro j hj
  have:=congrFun hS0 j
  rw[this]at hj;cases hj
end
end Go.Fw
namespace Go.Fw
def vO(tab:List Nat)(acc:Nat)(e:Edge):Nat:=if YJ .any e then acc|||(2^e.on|||tab.getD e.on 0)else acc
def vN(tab:List Nat)(o:Yp):Nat:=o.after.toList.foldl (vO tab) 0
def uk(ops:List Yp):List Nat:=ops.foldl (fun tab o=>tab++[vN tab o]) []
def IK(ops:List Yp)(steps:List cq)(tab:List Nat):Bool:=
 let N:=ops.length
 let mask:=fun i=>tab.getD i 0
 (XJ N).all fun i=>
   (match ops[i]?,steps[i]? with
   |some o,X7 st=>
    decide (mask i<2^i)&&(mask i==vN tab o)&&(o.after.toList.all fun e=> !Region.binds .any e||decide (e.on<N))&&
    ((XJ N).all fun j=> !(mask i).testBit j||(mask j&&& mask i==mask j))&&
    (st.xE.all fun t=>(XJ N).all fun k=>k==i||(match steps[k]? with|some st'=>st'.dst !=X7 t||(mask i).testBit k||(mask k).testBit i|none=>Yh))&&
    (match st.dst with|none=>Yh|some t=>(XJ N).all fun k=>k==i||(match steps[k]? with|some st'=>st'.dst !=X7 t|none=>Yh))
   |_,_=>Yg)
def pG(P:Yn)(n:Nat)(ops:Array Yp):Option AC:=
 let tab:=uk ops.toList
 (dL P n ops (fun i=>tab.getD i 0) 0 ops.toList).bind fun steps=>if IK ops.toList steps tab&&P.follows .mixedOrders then X7 (.regd steps)else Ya
def dC(P:Yn)(n:Nat):Code→Option AC
 | .skip=>X7 .skip
 | .label _=>X7 .skip
 | .region _ ops draw=>if draw then pG P n ops else(dL P n ops (fun _=>0) 0 ops.toList).map .reg
 | .seq a b=>(dC P n a).bind fun x=>(dC P n b).map fun y=> .seq x y
 | .cond c a b=>(cO c).bind fun c=>(dC P n a).bind fun x=>(dC P n b).map fun y=> .cond c x y
 | .block id a=>(dC P n a).map (.block id)
 | .loop a=>(dC P n a).map .loop
 | .exit id=>X7 (.exit id)
 | .ret=>X7 .ret
 |_=>Ya
def Fe(P:Yn)(n m:Nat)(ac:AC)(Q:XT→St→Prop)(s:St):Prop:=∀c,dC P n c=X7 ac.er→QQ P n m c Q s
def D7(K:St→Prop)(Q:XT→St→Prop):XT→St→Prop
 | .normal,s=>K s
 |x,s=>Q x s
def zG(id:Nat)(Q:XT→St→Prop):XT→St→Prop
 | .exit i,s=>if i=id then Q .normal s else Q (.exit i) s
 |x,s=>Q x s
def vc(P:Yn)(n m:Nat):AC→(XT→St→Prop)→St→Prop
 | .skip,Q,s=>Q .normal s
 | .reg ops,Q,s=>gF P ops s (Q .normal)
 | .regd ops,Q,s=>w9 P s.heap ops 0 s.aO [] (Q .normal)
 | .seq a b,Q,s=>vc P n m a (D7 (vc P n m b Q) Q) s
 | .cond c a b,Q,s=>match s.eZ c with
   |some (.bool t)=>(t=Yh→vc P n m a Q s)∧(t=Yg→vc P n m b Q s)
   |_=>False
 | .block id a,Q,s=>vc P n m a (zG id Q) s
 | .loop a,Q,s=>Fe P n m (.loop a) Q s
 | .exit id,Q,s=>Q (.exit id) s
 | .ret,Q,s=>Q .ret s
 | .sem a,Q,s=>Fe P n m a Q s
section
variable {P:Yn} {n m:Nat}
theorem qC.trans{φ F s w φ' F' s' w' K a' w''}(hf:Fr φ F w φ' F' w')(hs:gY m φ F (hp s.heap) w φ' F' (hp s'.heap) w')(h:qC n m φ' F' s' w' K a' w''):qC n m φ F s w K a' w'':=by
 obtain⟨s2,φ2,F2,h1,h2,h3,h4⟩:=h
 exact⟨s2,φ2,F2,h1,h2,hf.trans h3,hs.trans h4⟩
theorem QA.trans{φ F s w φ' F' s' w' Q e a' w''}(hf:Fr φ F w φ' F' w')(hs:gY m φ F (hp s.heap) w φ' F' (hp s'.heap) w')(h:QA n m φ' F' s' w' Q e a' w''):QA n m φ F s w Q e a' w'':=by
 cases e<;>simp only[QA]at h⊢<;>first|exact h.elim|exact qC.trans hf hs h
theorem jL(tab:List Nat)(j:Nat):∀(l:List Edge) (acc:Nat),(l.foldl (vO tab) acc).testBit j=(acc.testBit j||l.any fun e=>YJ .any e&&(e.on==j||(tab.getD e.on 0).testBit j))
 |[],acc=>by simp
 |e::l,acc=>by
  simp only[List.foldl_cons,jL tab j l,List.any_cons]
  unfold vO
  split
  ·rename_i hb
   simp only[Nat.testBit_or,Nat.testBit_two_pow,hb,Bool.true_and,Bool.or_assoc]
   congr 2
  ·rename_i hb
   simp[hb]
theorem CP{P:Yn}{ops:Array Yp}{mask:Nat→Nat}{i:Nat}{op:jS}{ts:List Nat}(h:vT P ops mask i op= .lone ts):yW P ops mask i op=X7 ts:=by
 unfold vT at h
 split at h
 ·rename_i ts' h1;cases h;exact h1
 ·cases h
theorem FT{P:Yn}{ops:Array Yp}{mask:Nat→Nat}{i:Nat}{op:jS}{cs:List Nat}(h:vT P ops mask i op= .new cs):∀c∈cs,c∈ye mask ops.size i∧∀k,k<ops.size→k=i∨(mask i).testBit k=Yh∨(mask k).testBit i=Yh∨(mask k).testBit c=Yg:=by
 unfold vT at h
 split at h
 ·cases h
 ·split at h
  ·cases h
   intro c hc
   obtain⟨h1,h2⟩:=XR.1 hc
   refine⟨h1,fun k hk=>?_⟩
   have:=XF.1 h2 k (XG.2 hk)
   simp only[Yk,beq_iff_eq,Yl]at this
   rcases this with((h|h)|h)|h
   ·exact .inl h
   ·exact .inr (.inl h)
   ·exact .inr (.inr (.inl h))
   ·exact .inr (.inr (.inr h))
  ·cases h;intro c hc;cases hc
theorem A4{P:Yn}{ops:Array Yp}{mask:Nat→Nat}{i:Nat}{dp:jS}{ts:List Nat}(h:yW P ops mask i dp=X7 ts):∀j,j<ops.size→
 j=i∨(mask i).testBit j=Yh∨(mask j).testBit i=Yh∨(j<i∧∃op oa,((ops[j]?).bind fun o=>zD P o.op)=X7 op∧iD op=X7 oa∧∀a,oa=X7 a→a∈ts∧∀(k:Nat) o,j≤k→k<i→ops[k]? =X7 o→o.dst≠X7 a):=by
 unfold yW at h
 split at h
 ·cases h
 have key:∀(l:List Nat) (ts:List Nat),(∀j∈l,j<ops.size)→l.foldr (fun j acc=>acc.bind fun l=>
  if j==i||(mask i).testBit j||(mask j).testBit i then X7 l
  else if j<i then match(ops[j]?).bind fun o=>zD P o.op with
   |some op=>match iD op with
    |some Ya=>X7 l
    |some (X7 a)=>if(XJ ops.size).all fun k=> !(decide (j≤k)&&decide (k<i)&&(ops[k]?).any fun o=>o.dst==X7 a)then X7 (a::l)else Ya
    |none=>Ya
   |none=>Ya
  else Ya) (X7 [])=X7 ts→∀j∈l,j=i∨(mask i).testBit j=Yh∨(mask j).testBit i=Yh∨(j<i∧∃op oa,((ops[j]?).bind fun o=>zD P o.op)=X7 op∧iD op=X7 oa∧∀a,oa=X7 a→a∈ts∧∀(k:Nat) o,j≤k→k<i→ops[k]? =X7 o→o.dst≠X7 a):=by
  intro l
  induction l with
  |nil=>intro ts _ _ j hj;cases hj
  |cons x l ih=>
   intro ts hlt h j hj
   rw[List.foldr_cons,X9]at h
   obtain⟨ts0,h0,h⟩:=h
   have ih':=ih ts0 (fun y hy=>hlt y (XH _ hy)) h0
   have mono:(∀a,a∈ts0→a∈ts)→j∈l→j=i∨(mask i).testBit j=Yh∨(mask j).testBit i=Yh∨(j<i∧∃op oa,((ops[j]?).bind fun o=>zD P o.op)=X7 op∧iD op=X7 oa∧∀a,oa=X7 a→a∈ts∧∀(k:Nat) o,j≤k→k<i→ops[k]? =X7 o→o.dst≠X7 a):=fun hm hjl=>by
    rcases ih' j hjl with g|g|g|⟨g1,op,oa,g2,g3,g4⟩
    ·exact .inl g
    ·exact .inr (.inl g)
    ·exact .inr (.inr (.inl g))
    ·exact .inr (.inr (.inr ⟨g1,op,oa,g2,g3,fun a ha=>⟨hm a (g4 a ha).1,(g4 a ha).2⟩⟩))
   split at h
   ·rename_i hc
    cases h
    rcases XI.1 hj with rfl|hjl
    ·simp only[Yk,beq_iff_eq]at hc
     rcases hc with(hc|hc)|hc
     ·exact .inl hc
     ·exact .inr (.inl hc)
     ·exact .inr (.inr (.inl hc))
    ·exact mono (fun _ h=>h) hjl
   ·split at h
    ·rename_i hxi
     split at h
     ·rename_i op hop
      split at h
      ·rename_i hr
       cases h
       rcases XI.1 hj with rfl|hjl
       ·exact .inr (.inr (.inr ⟨hxi,op,Ya,hop,hr,fun a ha=>by cases ha⟩))
       ·exact mono (fun _ h=>h) hjl
      ·rename_i a hr
       split at h
       ·rename_i hall
        cases h
        rcases XI.1 hj with rfl|hjl
        ·refine .inr (.inr (.inr ⟨hxi,op,X7 a,hop,hr,fun a' ha=>?_⟩))
         cases ha
         refine⟨XM ..,fun k o hk1 hk2 ho hd=>?_⟩
         have:=XF.1 hall k (XG.2 (Yy.1 ho).1)
         simp[hk1,hk2,ho,hd]at this
        ·exact mono (fun _ h=>XH _ h) hjl
       ·cases h
      ·cases h
     ·cases h
    ·cases h
 intro j hj
 exact key _ ts (fun y hy=>XG.1 hy) h j (XG.2 hj)
theorem Bq{ops:Array Yp}{steps:List cq}(hs:dL P n ops (fun i=>(uk ops.toList).getD i 0) 0 ops.toList=X7 steps)(hB:IK ops.toList steps (uk ops.toList)=Yh):tv P n ops steps:=by
 generalize uk ops.toList=tab at hs hB
 have hstep:∀(l:List Yp) (k:Nat) (steps:List cq),dL P n ops (fun i=>tab.getD i 0) k l=X7 steps→steps.length=l.length∧∀(i:Nat) o,l[i]? =X7 o→∃st,steps[i]? =X7 st∧Bx P n ops (fun i=>tab.getD i 0) (k+i) o=X7 st:=by
  intro l
  induction l with
  |nil=>intro k steps h;cases h;exact⟨rfl,fun i o hi=>by simp at hi⟩
  |cons o l ih=>
   intro k steps h
   simp only[dL,X9,X8]at h
   obtain⟨st,hst,steps',hsteps,rfl⟩:=h
   obtain⟨h1,h2⟩:=ih (k+1) steps' hsteps
   refine⟨by simp[h1],fun i o' hi=>?_⟩
   cases i with
   |zero=>simp only[XS,YB]at hi;subst hi;exact⟨st,rfl,hst⟩
   |succ i=>
    obtain⟨st',h3,h4⟩:=h2 i o' (by simpa using hi)
    exact⟨st',by simpa using h3,by rw[show k+(i+1)=k+1+i by omega];exact h4⟩
 obtain⟨hlen,hst⟩:=hstep _ 0 steps hs
 simp only[Yz]at hlen
 have hget:∀(i:Nat) st,steps[i]? =X7 st→∃o,ops[i]? =X7 o∧Bx P n ops (fun i=>tab.getD i 0) i o=X7 st:=by
  intro i st hi
  have hlt:=(XC.1 hi).1
  have ho:ops.toList[i]? =X7 (ops[i]'(by omega)):=by simp
  obtain⟨st',h1,h2⟩:=hst i _ ho
  rw[hi]at h1;cases h1
  rw[YD]at h2
  exact⟨_,by simp[ho],h2⟩
 have hmem:∀i st,steps[i]? =X7 st→∀j,j∈st.fD↔j<ops.size∧(tab.getD i 0).testBit j=Yh:=by
  intro i st hi j
  obtain⟨o,_,h2⟩:=hget i st hi
  obtain⟨_,_,_,hb,_⟩:=gk h2
  rw[hb]
  simp[ye,XR]
 unfold IK at hB
 simp only[XF,XG,Yz]at hB
 have hall:∀i o st,ops[i]? =X7 o→steps[i]? =X7 st→
  tab.getD i 0<2^i∧tab.getD i 0=vN tab o∧(∀e∈o.after.toList,YJ .any e=Yh→e.on<ops.size)∧
  (∀j,j<ops.size→(tab.getD i 0).testBit j=Yh→tab.getD j 0&&& tab.getD i 0=tab.getD j 0)∧
  (∀t∈st.xE,∀k st',steps[k]? =X7 st'→k≠i→st'.dst=X7 t→(tab.getD i 0).testBit k=Yh∨(tab.getD k 0).testBit i=Yh)∧
  (∀t,st.dst=X7 t→∀k st',steps[k]? =X7 st'→k≠i→st'.dst≠X7 t):=by
  intro i o st ho hi
  have hlt:i<ops.size:=(Yy.1 ho).1
  have:=hB i hlt
  have ho':ops.toList[i]? =X7 o:=by simpa using ho
  rw[ho',hi]at this
  simp only[Yj,decide_eq_true_eq,beq_iff_eq,XF,XG,Yk,Yl]at this
  obtain⟨⟨⟨⟨⟨h1,h2⟩,h3⟩,h4⟩,h5⟩,h6⟩:=this
  refine⟨h1,h2,fun e he hb=>?_,fun j hj ht=>?_,fun t ht k st' hk hki hd=>?_,fun t ht k st' hk hki hd=>?_⟩
  ·rcases h3 e he with h|h
   ·rw[hb]at h;cases h
   ·exact h
  ·rcases h4 j hj with h|h
   ·rw[ht]at h;cases h
   ·exact h
  ·have hkl:k<ops.size:=by rw[←hlen];exact(XC.1 hk).1
   rcases h5 t ht k hkl with h|h
   ·exact(hki h).elim
   ·rw[hk]at h
    simp only[Yk]at h
    rcases h with(h|h)|h
    ·rw[hd]at h;simp at h
    ·exact .inl h
    ·exact .inr h
  ·have hkl:k<ops.size:=by rw[←hlen];exact(XC.1 hk).1
   rw[ht]at h6
   simp only[XF,XG,Yk,beq_iff_eq]at h6
   rcases h6 k hkl with h|h
   ·exact(hki h).elim
   ·rw[hk]at h;simp only[hd]at h;simp at h
 refine⟨hlen,fun i o ho=>?_,fun i st hi ts hl j st' hj hji=>?_,fun i st hi cs hl c hc=>?_,fun i o st ho hi=>⟨fun e he hb=>?_,fun j hj=>?_⟩,fun i st hi j hj=>?_,fun i st hi t ht k st' hk hki hdt=>?_,fun i k st st' t hi hk hik hdt=>?_⟩
 ·obtain⟨st,h1,h2⟩:=hst i o (by simpa using ho)
  rw[YD]at h2
  obtain⟨a1,a2,a3,_,_,a6⟩:=gk h2
  exact⟨st,h1,a1,a2,a3,a6⟩
 ·obtain⟨o,_,h2⟩:=hget i st hi
  obtain⟨_,_,_,_,hlo,_⟩:=gk h2
  rw[hlo]at hl
  replace hl:=CP hl
  have hjl:j<ops.size:=by rw[←hlen];exact(XC.1 hj).1
  have hil:i<ops.size:=by rw[←hlen];exact(XC.1 hi).1
  rcases A4 hl j hjl with h|h|h|⟨hji2,op,oa,h3,h4,h5⟩
  ·exact(hji h).elim
  ·exact .inl ((hmem i st hi j).2 ⟨hjl,h⟩)
  ·exact .inr (.inl ((hmem j st' hj i).2 ⟨hil,h⟩))
  ·refine .inr (.inr ⟨hji2,oa,?_,fun a ha=>⟨(h5 a ha).1,fun k stk hk1 hk2 hk=>?_⟩⟩)
   ·obtain⟨oj,hoj,hcj⟩:=hget j st' hj
    obtain⟨_,g2,_⟩:=gk hcj
    rw[hoj,Yf,g2]at h3
    cases h3;exact h4
   ·obtain⟨ok,hok,hck⟩:=hget k stk hk
    obtain⟨_,_,g3,_⟩:=gk hck
    rw[g3];exact(h5 a ha).2 k ok hk1 hk2 hok
 ·obtain⟨o,_,h2⟩:=hget i st hi
  obtain⟨_,_,_,hbf,hlo,_⟩:=gk h2
  rw[hlo]at hl
  obtain⟨h3,h4⟩:=FT hl c hc
  refine⟨by rw[hbf];exact h3,fun k st' hk hki=>?_⟩
  have hkl:k<ops.size:=by rw[←hlen];exact(XC.1 hk).1
  have hil:i<ops.size:=by rw[←hlen];exact(XC.1 hi).1
  rcases h4 k hkl with h|h|h|h
  ·exact(hki h).elim
  ·exact .inl ((hmem i st hi k).2 ⟨hkl,h⟩)
  ·exact .inr (.inl ((hmem k st' hk i).2 ⟨hil,h⟩))
  ·refine .inr (.inr fun hc2=>?_)
   have:=((hmem k st' hk c).1 hc2).2
   rw[h]at this;cases this
 ·obtain⟨h1,h2,h3,_⟩:=hall i o st ho hi
  rw[hmem i st hi]
  have he':e∈o.after.toList:=by simpa using he
  refine⟨h3 e he' hb,?_⟩
  rw[h2,vN,jL]
  simp only[YF,Ym,X1]
  exact⟨e,he',by simp[hb]⟩
 ·obtain⟨h1,h2,h3,_⟩:=hall i o st ho hi
  obtain⟨hj1,hj2⟩:=(hmem i st hi j).1 hj
  rw[h2,vN,jL]at hj2
  simp only[YF,Ym,X1,Yj,Yk,beq_iff_eq]at hj2
  obtain⟨e,he,hb,h4⟩:=hj2
  refine⟨e,by simpa using he,hb,?_⟩
  rcases h4 with h4|h4
  ·exact .inl h4.symm
  ·have hl:=h3 e he hb
   obtain⟨st',hst'⟩:∃st',steps[e.on]? =X7 st':=⟨_,XD (by omega)⟩
   exact .inr ⟨st',hst',(hmem _ _ hst' j).2 ⟨hj1,h4⟩⟩
 ·obtain⟨o,ho,_⟩:=hget i st hi
  obtain⟨h1,h2,h3,h4,_⟩:=hall i o st ho hi
  obtain⟨hj1,hj2⟩:=(hmem i st hi j).1 hj
  have hji:j<i:=by
   have:=Nat.ge_two_pow_of_testBit hj2
   exact(Nat.pow_lt_pow_iff_right (by decide:1<2)).1 (by omega)
  obtain⟨st',hst'⟩:∃st',steps[j]? =X7 st':=⟨_,XD (by omega)⟩
  refine⟨hji,st',hst',fun k hk=>?_⟩
  obtain⟨hk1,hk2⟩:=(hmem j st' hst' k).1 hk
  refine(hmem i st hi k).2 ⟨hk1,?_⟩
  have:=h4 j hj1 hj2
  rw[←this]at hk2
  simp only[Nat.testBit_and,Yj]at hk2
  exact hk2.2
 ·obtain⟨o,ho,_⟩:=hget i st hi
  obtain⟨_,_,_,_,h5,_⟩:=hall i o st ho hi
  have hkl:k<ops.size:=by rw[←hlen];exact(XC.1 hk).1
  have hil:i<ops.size:=by rw[←hlen];exact(XC.1 hi).1
  rcases h5 t ht k st' hk hki hdt with h|h
  ·exact .inl ((hmem i st hi k).2 ⟨hkl,h⟩)
  ·exact .inr ((hmem k st' hk i).2 ⟨hil,h⟩)
 ·obtain⟨o,ho,_⟩:=hget i st hi
  obtain⟨_,_,_,_,_,h6⟩:=hall i o st ho hi
  exact h6 t hdt k st' hk (YL hik)
theorem qK:∀(c:Code) (ac:AC) (Q:XT→St→Prop) (s:St),dC P n c=X7 ac.er→vc P n m ac Q s→QQ P n m c Q s:=by
 intro c
 induction c with
 |skip=>
  intro ac Q s hc hv
  cases ac with
  |sem a=>exact hv _ hc
  |skip=>exact fun φ F a w h=>wp_skip ⟨s,φ,F,hv,h,Fr.refl _ _ _,gY.refl _ _ _ _ _⟩
  |_=>cases hc
 |label l=>
  intro ac Q s hc hv
  cases ac with
  |sem a=>exact hv _ hc
  |skip=>exact fun φ F a w h=>wp_label ⟨s,φ,F,hv,h,Fr.refl _ _ _,gY.refl _ _ _ _ _⟩
  |_=>cases hc
 |exit id=>
  intro ac Q s hc hv
  cases ac with
  |sem a=>exact hv _ hc
  |exit i=>cases hc;exact fun φ F a w h=>wp_exit ⟨s,φ,F,hv,h,Fr.refl _ _ _,gY.refl _ _ _ _ _⟩
  |_=>cases hc
 |ret=>
  intro ac Q s hc hv
  cases ac with
  |sem a=>exact hv _ hc
  |ret=>exact fun φ F a w h=>wp_ret ⟨s,φ,F,hv,h,Fr.refl _ _ _,gY.refl _ _ _ _ _⟩
  |_=>cases hc
 |seq x y ihx ihy=>
  intro ac Q s hc hv
  cases ac with
  |sem a=>exact hv _ hc
  |seq ax ay=>
   simp only[dC,AC.er,X9,X8,AC.seq.injEq]at hc
   obtain⟨_,hx,_,hy,rfl,rfl⟩:=hc
   intro φ F a w h
   refine wp_seq (wp_mono (ihx ax _ s hx hv φ F a w h) fun e a' w' hq=>?_)
   cases e with
   |normal=>
    obtain⟨s',φ',F',h1,h2,h3,h4⟩:=hq
    exact wp_mono (ihy ay Q s' hy h1 φ' F' a' w' h2) fun e a'' w'' hq'=>QA.trans h3 h4 hq'
   |exit id=>exact hq
   |ret=>exact hq
   |_=>exact hq.elim
  |_=>simp only[dC,AC.er,X9,X8]at hc;obtain⟨_,_,_,_,hc⟩:=hc;cases hc
 |cond c x y ihx ihy=>
  intro ac Q s hc hv
  cases ac with
  |sem a=>exact hv _ hc
  |cond c' ax ay=>
   simp only[dC,AC.er,X9,X8,AC.cond.injEq]at hc
   obtain⟨_,hc',_,hx,_,hy,rfl,rfl,rfl⟩:=hc
   intro φ F a w h
   simp only[vc]at hv
   split at hv
   ·rename_i t ht
    have e:=ee h hc' ht
    cases t with
    |true=>exact wp_cond_true e (ihx ax Q s hx (hv.1 rfl) φ F a w h)
    |false=>exact wp_cond_false e (ihy ay Q s hy (hv.2 rfl) φ F a w h)
   ·exact hv.elim
  |_=>simp only[dC,AC.er,X9,X8]at hc;obtain⟨_,_,_,_,_,_,hc⟩:=hc;cases hc
 |block id x ih=>
  intro ac Q s hc hv
  cases ac with
  |sem a=>exact hv _ hc
  |block id' ax=>
   simp only[dC,AC.er,X8,AC.block.injEq]at hc
   obtain⟨_,hx,rfl,rfl⟩:=hc
   intro φ F a w h
   refine wp_block (wp_mono (ih ax _ s hx hv φ F a w h) fun e a' w' hq=>?_)
   cases e with
   |normal=>exact hq
   |exit i=>
    simp only[Exit.inBlock]
    by_cases hi:i=id
    ·subst hi
     simp only[if_true]
     obtain⟨s',φ',F',h1,h2⟩:=hq
     exact⟨s',φ',F',by simpa[zG]using h1,h2⟩
    ·simp only[hi,if_false]
     obtain⟨s',φ',F',h1,h2⟩:=hq
     exact⟨s',φ',F',by simpa[zG,hi]using h1,h2⟩
   |ret=>exact hq
   |_=>exact hq.elim
  |_=>simp only[dC,AC.er,X8]at hc;obtain⟨_,_,hc⟩:=hc;cases hc
 |loop x ih=>
  intro ac Q s hc hv
  cases ac with
  |sem a=>exact hv _ hc
  |loop ax=>exact hv _ hc
  |_=>simp only[dC,AC.er,X8]at hc;obtain⟨_,_,hc⟩:=hc;cases hc
 |region id ops draw=>
  intro ac Q s hc hv
  cases draw with
  |true=>
   cases ac with
   |sem a=>exact hv _ hc
   |regd steps=>
    intro φ F a w h
    simp only[dC,AC.er,if_true,pG,X9]at hc
    obtain⟨steps',hsteps,hc⟩:=hc
    split at hc
    ·rename_i hB
     cases hc
     simp only[Yj]at hB
     refine wp_region_any hB.2 ?_
     have hd:=Bq hsteps hB.1
     have hdr:dm n φ F s a {w with drawn:=w.drawn+1}:=by
      have gl:ix φ F (hp s.heap) w φ F (hp s.heap) {w with drawn:=w.drawn+1}:=⟨fun b hb=>⟨hb,rfl⟩,fun id=>gX.same rfl fun _ _ _=>rfl⟩
      refine⟨h.size,h.defers,⟨fun id bZ hb=>kj.mono gl rfl (fun _ _ _=>rfl) (h.rel.bZ id bZ hb),h.rel.rT,h.rel.inj,h.rel.fY⟩,fun t av ht=>(h.slot t av ht).mono gl⟩
     refine lr (m:=m) hd hv hdr fun a' w' hp'=>?_
     refine qC.trans (s:=s) (s':=s) (w:=w) (w':={w with drawn:=w.drawn+1}) ⟨YC _,fun _ _ _=>rfl,fun id b o hi=> .inl ⟨id,o,hi⟩,fun b hb=> .inl hb,⟨rfl,rfl⟩⟩ ⟨fun b hb=>⟨hb,rfl⟩,fun id _=>gX.same rfl fun _ _ _=>rfl⟩ hp'
    ·cases hc
   |_=>
    simp only[dC,AC.er,if_true,pG,X9]at hc
    obtain⟨_,_,hc⟩:=hc
    split at hc<;>cases hc
  |false=>
   cases ac with
   |sem a=>exact hv _ hc
   |reg steps=>
    intro φ F a w h
    simp only[dC,AC.er,Yi,if_false,X8,AC.reg.injEq]at hc
    obtain⟨steps',hsteps,rfl⟩:=hc
    refine wp_region ?_
    have:=tz (m:=m) (ops:=ops) (Q:=QA n m φ F s w Q) ops.toList 0 steps' s (Q .normal) (fun j=>by simp) (by simp) hsteps hv h (fun a' w' hp'=>hp')
    simpa[List.range_eq_range']using this
   |_=>
    simp only[dC,AC.er,Yi,if_false,X8]at hc
    obtain⟨_,_,hc⟩:=hc;cases hc
 |_=>
  intro ac Q s hc hv
  cases ac with
  |sem a=>exact hv _ hc
  |_=>cases hc
end
end Go.Fw
namespace Go.Fw
abbrev kI(n:Int):O:= .k (.c (.d (.v (.int .i64 n))))
abbrev kB(b:Bool):O:= .k (.c (.d (.v (.bool b))))
abbrev kS(s:ByteArray):O:= .k (.c (.d (.v (.string s))))
abbrev kN:O:= .k (.c (.d (.v (.slice Ya 0 0))))
def View(n m:Nat)(s s':St):Prop:=∀φ F a w,dm n φ F s a w→∃φ' F',dm n φ' F' s' a w∧Fr φ F w φ' F' w∧gY m φ F (hp s.heap) w φ' F' (hp s'.heap) w
theorem View.refl(n m:Nat)(s:St):View n m s s:=fun φ F _ w h=>⟨φ,F,h,Fr.refl _ _ _,gY.refl _ _ _ _ _⟩
theorem Ie{l:List (Nat×AV)}{t:Nat}{v:AV}(h:lk l t=X7 v):(t,v)∈l:=by
 induction l with
 |nil=>cases h
 |cons x l ih=>
  obtain⟨k,u⟩:=x
  simp only[lk]at h
  split at h
  ·rename_i hk;cases h;subst hk;simp
  ·exact XH _ (ih h)
def C.below(k:Nat):C→Bool
 | .own id _ _ _ _=>decide (id<k)
 | .pt id _=>decide (id<k)
 | .pe id _ _ _=>decide (id<k)
 | .fn _ gV=>gV.all fun c=>decide (c.1<k)
 | .mref id=>decide (id<k)
 |_=>Yh
def A1.below(k:Nat):A1→Bool
 | .c x=>x.below k
 | .agg cs=>cs.all (C.below k)
def AV.below(k:Nat):AV→Bool
 | .one a=>a.below k
 | .tup l=>l.all (A1.below k)
def bw.below(k:Nat):bw→Bool
 | .box cs=>cs.all (C.below k)
 | .arr .. =>Yh
 | .map ents=>ents.all fun e=>e.2.below k
def nO(k:Nat):Option bw→Bool
 |some b=>b.below k
 |none=>Yh
theorem mV(l:List (Option bw))(k i:Nat):hp (l.take k) i=if i<k then hp l i else Ya:=by
 simp only[hp,XO];split<;>rfl
theorem C.gd{l:List (Option bw)}{k:Nat}{c:C}(h:c.below k=Yh)(hl:c.live (hp l)):c.live (hp (l.take k)):=by
 have key:∀id,id<k→hp l id≠Ya→hp (l.take k) id≠Ya:=fun id h1 h2=>by rw[mV,if_pos h1];exact h2
 cases c with
 |own=>exact key _ (by simpa[C.below]using h) hl
 |pt=>exact key _ (by simpa[C.below]using h) hl
 |pe=>exact key _ (by simpa[C.below]using h) hl
 |mref=>exact key _ (by simpa[C.below]using h) hl
 |fn f gV=>exact fun c hc=>key _ (by simp only[C.below,XF]at h;simpa using h c hc) (hl c hc)
 |_=>trivial
theorem A1.gd{l:List (Option bw)}{k:Nat}{c:A1}(h:c.below k=Yh)(hl:c.live (hp l)):c.live (hp (l.take k)):=by
 cases c with
 |c x=>exact C.gd h hl
 |agg cs=>exact fun c hc=>C.gd (XF.1 h c hc) (hl c hc)
theorem AV.gd{l:List (Option bw)}{k:Nat}{c:AV}(h:c.below k=Yh)(hl:c.live (hp l)):c.live (hp (l.take k)):=by
 cases c with
 |one x=>exact A1.gd h hl
 |tup cs=>exact fun c hc=>A1.gd (XF.1 h c hc) (hl c hc)
theorem bw.gd{l:List (Option bw)}{k:Nat}{c:bw}(h:c.below k=Yh)(hl:c.live (hp l)):c.live (hp (l.take k)):=by
 cases c with
 |box cs=>exact fun c hc=>C.gd (XF.1 h c hc) (hl c hc)
 |arr=>trivial
 |map ents=>exact fun c hc=>A1.gd (XF.1 h c hc) (hl c hc)
theorem zW{φ F w}{l:List (Option bw)}(hr:Rel φ F (hp l) w){k:Nat}(hb:(l.take k).all (nO k)=Yh):KJ (fun x=>x) (hp (l.take k)) (hp l):=by
 have hcl:∀x bZ,hp (l.take k) x=X7 bZ→bZ.below k=Yh∧hp l x=X7 bZ:=by
  intro x bZ hx
  have h1:hp l x=X7 bZ:=by rw[mV]at hx;split at hx<;>simp_all
  refine⟨?_,h1⟩
  have h2:(l.take k)[x]? =X7 (X7 bZ):=by
   simp only[hp]at hx
   cases hg:(l.take k)[x]? with
   |none=>rw[hg]at hx;cases hx
   |some o=>rw[hg]at hx;simp only[Option.join_some]at hx;rw[hx]
  have:=XF.1 hb _ (XY h2)
  exact this
 exact⟨fun x bZ hx=>by rw[bw.ji];exact(hcl x bZ hx).2,fun i j _ _ he=>he,fun x bZ hx=>bw.gd (hcl x bZ hx).1 (hr.closed (hcl x bZ hx).2)⟩
theorem tR{ρ:Nat→Nat}{H G:eg}{φ:gP}{F:Nat→Prop}{w:Yo}{m:Nat}(he:KJ ρ H G)(hm:∀i,i<m→ρ i=i)(hdom:∀i,i<m→G i≠Ya→H i≠Ya):
 Fr φ F w (down ρ H φ) F w∧gY m φ F G w (down ρ H φ) F H w:=by
 refine⟨⟨YC _,fun _ _ _=>rfl,fun id b o hi=> .inl ⟨_,o,(eU hi).2⟩,fun b hb=> .inl hb,Io.refl _⟩,⟨fun b hb=>⟨hb,rfl⟩,fun id hid=>?_⟩⟩
 cases hG:G id with
 |none=>trivial
 |some bZ=>
  have hl:=hdom id hid (by simp[hG])
  cases hH:H id with
  |none=>exact(hl hH).elim
  |some blk'=>
   have:=he.at_ id blk' hH
   rw[hm id hid,hG]at this
   cases this
   have e:down ρ H φ id=φ id:=by rw[fF hl,hm id hid]
   cases blk' with
   |box cells=>exact⟨e,by simp,fun b o _=>nz.refl _ _ _ _⟩
   |map ents=>exact e
   |arr ep sz rows=>exact⟨YC _,fun _=>⟨rfl,YC _,e,fun _ _ _=>rfl⟩⟩
theorem View.drop{n m:Nat}{s:St}(k:Nat)(hm:m≤k)(hh:(s.heap.take k).all (nO k)=Yh)(hs:s.aO.all (fun x=>x.2.below k)=Yh):View n m s ⟨s.aO,s.heap.take k⟩:=by
 intro φ F a w h
 have emb:=zW h.rel hh
 obtain⟨f1,f2⟩:=tR (φ:=φ) (F:=F) (w:=w) (m:=m) emb (fun _ _=>rfl) (fun i hi hg=>by rw[mV,if_pos (by omega)];exact hg)
 refine⟨_,F,⟨h.size,h.defers,Rel.down emb h.rel,fun t av ht=>?_⟩,f1,f2⟩
 have hav:=h.slot t av ht
 exact ec.down emb (AV.gd (XF.1 hs _ (Ie ht)) hav.live) hav
theorem xo{P:Yn}{Q:Exit→Act→Yo→Prop}{a:Act}{w:Yo}{c:Code}(I:Nat→Act→Yo→Prop){k0:Nat}(h₀:I k0 a w)
 (round:∀k a w,I k a w→c.wp P (Exit.then (fun a' w'=>∃k',k'<k∧I k' a' w') Q) a w):(Code.loop c).wp P Q a w:=by
 intro b k cs
 have key:∀n a w,I n a w→
  ∃e a' w',Q e a' w'∧Arrives P (lone (b.at a (.code c:: .inLoop c::k)) cs w) b k cs e a' w':=by
  intro n
  induction n using YG with
  |_ n ih=>
   intro a w hI
   obtain⟨e,a₁,w₁,hq,harr⟩:=round n a w hI b (.inLoop c::k) cs
   cases e with
   |normal=>
    obtain⟨n',hlt,hI₁⟩:=hq
    obtain⟨e₂,a₂,w₂,hq₂,harr₂⟩:=ih n' hlt a₁ w₁ hI₁
    exact⟨e₂,a₂,w₂,hq₂,.of_steps (Steps.trans harr (.one step_inLoop)) harr₂⟩
   |exit id=>exact⟨_,a₁,w₁,hq,.pass (x:= .inLoop c) rfl (fun _ _=> .inl (by simp)) harr⟩
   |goto l=>exact⟨_,a₁,w₁,hq,.pass (x:= .inLoop c) rfl (fun _ _=> .inl (by simp)) harr⟩
   |ret=>exact⟨_,a₁,w₁,hq,.pass (x:= .inLoop c) rfl (fun _ _=> .inl (by simp)) harr⟩
   |panic ch=>exact⟨_,a₁,w₁,hq,.pass (x:= .inLoop c) rfl (fun _ _=> .inl (by simp)) harr⟩
   |outgrown=>exact⟨_,a₁,w₁,hq,.pass (x:= .inLoop c) rfl (fun _ _=> .inl (by simp)) harr⟩
 obtain⟨e,a',w',hq,harr⟩:=key _ a w h₀
 exact⟨e,a',w',hq,.of_steps (.one step_loop) harr⟩
theorem FR{P:Yn}{n m:Nat}{body:AC}{Q:XT→St→Prop}{s:St}(I:Nat→St→Prop)(h0:∃k s0,View n m s s0∧I k s0)
 (hr:∀k s,I k s→vc P n m body (D7 (fun s'=>∃k' s'',k'<k∧View n m s' s''∧I k' s'') Q) s):Fe P n m (.loop body) Q s:=by
 intro c hc φ F a w h
 cases c with
 |loop c=>
  simp only[dC,AC.er,X8,AC.loop.injEq]at hc
  obtain⟨_,hx,rfl⟩:=hc
  obtain⟨k0,s0,hview,hI⟩:=h0
  obtain⟨φ1,F1,h1,h2,h3⟩:=hview φ F a w h
  refine xo (fun k a' w'=>∃s' φ' F',I k s'∧dm n φ' F' s' a' w'∧Fr φ F w φ' F' w'∧gY m φ F (hp s.heap) w φ' F' (hp s'.heap) w') (k0:=k0) ⟨s0,φ1,F1,hI,h1,h2,h3⟩ ?_
  rintro k a' w' ⟨s',φ',F',g1,g2,g3,g4⟩
  refine wp_mono (qK c body _ s' hx (hr k s' g1) φ' F' a' w' g2) fun e a'' w'' hq=>?_
  cases e with
  |normal=>
   obtain⟨s2,φ2,F2,⟨k',s3,hlt,hv,hI'⟩,q2,q3,q4⟩:=hq
   obtain⟨φ3,F3,r1,r2,r3⟩:=hv φ2 F2 a'' w'' q2
   exact⟨k',hlt,s3,φ3,F3,hI',r1,(g3.trans q3).trans r2,(g4.trans q4).trans r3⟩
  |exit id=>exact QA.trans g3 g4 hq
  |ret=>exact QA.trans g3 g4 hq
  |_=>exact hq.elim
 |region id ops draw=>
  simp only[dC,AC.er]at hc
  cases draw with
  |true=>
   simp only[if_true,pG,X9]at hc
   obtain⟨_,_,hc⟩:=hc
   split at hc<;>cases hc
  |false=>
   simp only[Yi,if_false,X8]at hc
   obtain⟨_,_,hc⟩:=hc;cases hc
 |seq=>simp only[dC,AC.er,X9,X8]at hc;obtain⟨_,_,_,_,hc⟩:=hc;cases hc
 |cond=>simp only[dC,AC.er,X9,X8]at hc;obtain⟨_,_,_,_,_,_,hc⟩:=hc;cases hc
 |block=>simp only[dC,AC.er,X8]at hc;obtain⟨_,_,hc⟩:=hc;cases hc
 |_=>cases hc
theorem Hd{P:Yn}{n m:Nat}{a:AC}{Q Q':XT→St→Prop}{s:St}(h:vc P n m a Q' s)
 (hq:∀e s',Q' e s'→∃s'',View n m s' s''∧Q e s''):Fe P n m a Q s:=by
 intro c hc φ F a' w hs
 refine wp_mono (qK c a Q' s hc h φ F a' w hs) fun e a'' w'' hqa=>?_
 have go:∀e,qC n m φ F s w (Q' e) a'' w''→qC n m φ F s w (Q e) a'' w'':=by
  rintro e ⟨s1,φ1,F1,h1,h2,h3,h4⟩
  obtain⟨s2,hv,h5⟩:=hq e s1 h1
  obtain⟨φ2,F2,r1,r2,r3⟩:=hv φ1 F1 a'' w'' h2
  exact⟨s2,φ2,F2,h5,r1,h3.trans r2,h4.trans r3⟩
 cases e with
 |normal=>exact go _ hqa
 |exit id=>exact go _ hqa
 |ret=>exact go _ hqa
 |_=>exact hqa.elim
inductive RV where
 |tmp (t:Nat)
 |cell (t:Nat) (n:Option Nat)
def QP(P:Yn):Yq→Option RV
 | .tmp t=>X7 (.tmp t)
 | .cell t T=>(k9 P T).map (.cell t)
def LZ(P:Yn):List Yq→Option (List RV)
 |[]=>X7 []
 |r::l=>(QP P r).bind fun x=>(LZ P l).map (x::·)
def mD(s:St):List RV→(List A1→Prop)→Prop
 |[],K=>K []
 | .tmp t::r,K=>match lk s.aO t with
   |some (.one a)=>mD s r fun l=>K (a::l)
   |_=>False
 | .cell t n::r,K=>match lk s.aO t with
   |some (.one (.c (.pt id off)))=>match hp s.heap id with
    |some (.box cells)=>s5 n (cells.drop off) fun out=>match out.val with
     |some (.one a)=>mD s r fun l=>K (a::l)
     |_=>False
    |_=>False
   |_=>False
def bJ:List A1→AV
 |[a]=> .one a
 |l=> .tup l
def Fin(m:Nat)(h:List (Option bw))(l:List A1)(res:List A1)(H':List (Option bw)):Prop:=
 ∀φ F w vs,Rel φ F (hp h) w→bX (cm φ F (hp h) w) l vs→∃φ' F',Rel φ' F' (hp H') w∧bX (cm φ' F' (hp H') w) res vs∧Fr φ F w φ' F' w∧gY m φ F (hp h) w φ' F' (hp H') w
def NV(m:Nat)(pT:List RV)(res:List A1)(H':List (Option bw)):XT→St→Prop
 | .exit _,_=>False
 |_,s=>mD s pT fun l=>Fin m s.heap l res H'
def gh:Nat→List A1→List (Nat×AV)
 |_,[]=>[]
 |k,a::r=>(k,.one a)::gh (k+1) r
structure dG where
 ntmps:Nat
 pT:List RV
 code:AC
def dG.er(A:dG):dG:=⟨A.ntmps,A.pT,A.code.er⟩
def nv(P:Yn)(f:Yr):Option dG:=
 match P.funcs[f]? with
 |some fn=>match fn.body with
  |some c=>if fn.name != "runtime.NumGoroutine" then(LZ P fn.results.toList).bind fun pT=>(dC P fn.ntmps c).map fun ac=>⟨fn.ntmps,pT,ac⟩else Ya
  |none=>Ya
 |none=>Ya
def qZ(tmps:Array Value):Yq→Sem Value
 | .tmp t=>pure (tmps.getD t undef)
 | .cell a t=>do loadVar t (←asAddr (tmps.getD a undef))
theorem vh(fn:Func)(tmps:Array Value):results fn tmps=(do
 let vs←fn.results.mapM (qZ tmps)
 pure (if h:vs.size=1 then vs[0]else .tuple vs)):=rfl
theorem pX{P:Yn}{n:Nat}{φ F s a w}(h:dm n φ F s a w):∀{rs:List Yq} {pT:List RV} {K:List A1→Prop},LZ P rs=X7 pT→mD s pT K→
 ∃l vs,K l∧bX (cm φ F (hp s.heap) w) l vs∧(rs.mapM (qZ a.tmps)).run P w= .ok vs w
 |[],pT,K,hc,hk=>by cases hc;exact⟨[],[],hk,.nil,rfl⟩
 |r::rs,pT,K,hc,hk=>by
  simp only[LZ,X9,X8]at hc
  obtain⟨rv,hrv,rvs',hrvs,rfl⟩:=hc
  have fin:∀{v:Value} {x:A1},(qZ a.tmps r).run P w= .ok v w→cm φ F (hp s.heap) w x v→mD s rvs' (fun l=>K (x::l))→
   ∃l vs,K l∧bX (cm φ F (hp s.heap) w) l vs∧((r::rs).mapM (qZ a.tmps)).run P w= .ok vs w:=by
   intro v x hv hx hk
   obtain⟨l,vs,h1,h2,h3⟩:=pX h hrvs hk
   refine⟨x::l,v::vs,h1,.cons hx h2,?_⟩
   rw[List.mapM_cons,run_bind,hv]
   simp only[run_bind,h3,run_pure]
  cases r with
  |tmp t=>
   cases hrv
   simp only[mD]at hk
   split at hk
   ·rename_i x hx
    exact fin rfl (h.slot t _ hx) hk
   ·exact hk.elim
  |cell c t=>
   simp only[QP,X8]at hrv
   obtain⟨m,hm,rfl⟩:=hrv
   simp only[mD]at hk
   split at hk
   ·rename_i id off hx
    obtain⟨cells,b,o',hG,hφ,he⟩:=h.slot c _ hx
    rw[hG]at hk
    simp only[]at hk
    obtain⟨b',o2,cs,T,h1,h2,_,h3⟩:=h.rel.bZ _ _ hG
    rw[hφ]at h1;simp only[YB,Prod.mk.injEq]at h1
    obtain⟨rfl,rfl⟩:=h1
    obtain⟨av,v,hr,hK,hv⟩:=tJ (P:=P) (w:=w) (b:=b) (off:=o'+off) (F:=F) (φ:=φ) (G:=hp s.heap) hm (h3.drop off) (fun j v hj=>by
     rw[cell?_of_heap h2]
     rw[XZ,XO]at hj
     split at hj
     ·rw[XZ]at hj
      rw[show o'+off+j=o'+(off+j)by omega];simpa using hj
     ·cases hj) hk
    simp only at hK
    split at hK
    ·rename_i x hx'
     cases hx'
     refine fin ?_ hv hK
     simp only[qZ,he,asAddr,run_bind,run_pure]
     exact hr
    ·exact hK.elim
   ·exact hk.elim
theorem oN:∀(l:List A1) (k t:Nat),lk (gh k l) t=if k≤t then(l[t-k]?).map .one else Ya
 |[],k,t=>by simp[gh,lk]
 |a::l,k,t=>by
  simp only[gh,lk,oN l]
  by_cases h:k=t
  ·subst h;simp
  ·by_cases h2:k≤t
   ·have h3:k+1≤t:=by omega
    rw[if_neg h,if_pos h3,if_pos h2]
    rw[show t-k=(t-(k+1))+1 by omega];rfl
   ·have h3:¬(k+1≤t):=by omega
    rw[if_neg h,if_neg h3,if_neg h2]
theorem IZ{P:Yn}{f:Yr}{A:dG}(hf:nv P f=X7 A.er){args:List A1}{H H':List (Option bw)}{res:List A1}(hlen:args.length≤A.ntmps)
 (h:vc P A.ntmps H.length A.code (NV H.length A.pT res H') ⟨gh 0 args,H⟩):aW P f args H (bJ res) H':=by
 unfold nv at hf
 split at hf
 ·rename_i fn hfn
  split at hf
  ·rename_i c hbody
   split at hf
   ·rename_i hname
    simp only[X9,X8]at hf
    obtain⟨pT,hrvs,ac,hac,hA0⟩:=hf
    obtain⟨nt,rv0,code⟩:=A
    simp only[dG.er,dG.mk.injEq]at hA0
    obtain⟨rfl,rfl,rfl⟩:=hA0
    refine fun φ F w vs hr hA=> .inl ⟨by simp[AO,hfn,hbody];simpa using hname,?_⟩
    refine calls_of_wp hfn hbody ?_
    have hvl:vs.length≤fn.ntmps:=by rw[←bX.length hA];exact hlen
    have hs:dm fn.ntmps φ F ⟨gh 0 args,H⟩ {tmps:=vs.toArray++Yv (fn.ntmps-vs.toArray.size) undef,defers:=[]} w:=by
     refine⟨by simp;omega,rfl,hr,fun t av ht=>?_⟩
     rw[oN]at ht
     simp only[YE,if_true,Nat.sub_zero,X8]at ht
     obtain⟨x,hx,rfl⟩:=ht
     obtain⟨v,hv,hrep⟩:=bX.get hA hx
     have hlt:=(XC.1 hv).1
     have:(vs.toArray++Yv (fn.ntmps-vs.toArray.size) undef).getD t undef=v:=by
      rw[Array.getD_eq_getD_getElem?,Array.getElem?_append_left (by simpa using hlt)]
      simp[hv]
     rw[this];exact hrep
    have hw:=qK c code _ _ hac h φ F _ w hs
    refine wp_mono hw fun e a' w' hq=>?_
    have fin:qC fn.ntmps H.length φ F ⟨gh 0 args,H⟩ w (fun s=>mD s pT fun l=>Fin H.length s.heap l res H') a' w'→bodyPost P fn (fun e w'=>∃v,e= .returned v∧∃φ' F',ec φ' F' (hp H') w' (bJ res) v∧Rel φ' F' (hp H') w'∧ix φ F (hp H) w φ' F' (hp H') w'∧Fr φ F w φ' F' w') .ret a' w':=by
     rintro⟨s',φ1,F1,h1,h2,h3,h4⟩
     obtain⟨l,vs',h5,h6,h7⟩:=pX (P:=P) h2 hrvs h1
     obtain⟨φ2,F2,g1,g2,g3,g4⟩:=h5 φ1 F1 w' vs' h2.rel h6
     have hstp:ix φ F (hp H) w φ2 F2 (hp H') w':=by
      have:=h4.trans g4
      refine⟨this.fY,fun id=>?_⟩
      by_cases hid:id<H.length
      ·exact this.bZ id hid
      ·have:hp H id=Ya:=by simp[hp,XK (by omega:H.length≤id)]
       simp only[this];trivial
     refine⟨h2.defers,if h:vs'.toArray.size=1 then vs'.toArray[0]else .tuple vs'.toArray,?_,_,rfl,φ2,F2,?_,g1,hstp,h3.trans g3⟩
     ·rw[vh]
      simp only[Array.mapM_eq_mapM_toList,run_bind]
      have e:(Functor.map (f:=Sem) List.toArray (X6 (qZ a'.tmps) fn.results.toList)).run P w'= .ok vs'.toArray w':=by
       have:=run_bind P (X6 (qZ a'.tmps) fn.results.toList) (fun x=>pure x.toArray) w'
       rw[h7]at this
       exact this
      rw[e]
      simp only[run_pure]
     ·have hl:=bX.length g2
      cases res with
      |nil=>cases g2;exact⟨[],rfl,.nil⟩
      |cons x r=>
       cases r with
       |nil=>
        cases g2 with
        |cons hx hn=>cases hn;exact hx
       |cons y r=>
        cases g2 with
        |cons hx hn=>
         cases hn with
         |cons hy hn=>
          exact⟨_,by simp,.cons hx (.cons hy hn)⟩
    cases e with
    |normal=>exact fin hq
    |ret=>exact fin hq
    |exit id=>obtain⟨s',φ',F',h1,_⟩:=hq;exact h1.elim
    |_=>exact hq.elim
   ·cases hf
  ·cases hf
 ·cases hf
end Go.Fw
namespace Go.Fw
abbrev aI(n:Int):A1:= .c (.d (.v (.int .i64 n)))
abbrev aB(b:Bool):A1:= .c (.d (.v (.bool b)))
abbrev aL(l:List (List D)):A1:= .c (.d (.sl l))
theorem cL{n:Nat}(h:n≤9223372036854775806):YP.wrap ((n:Int)+1)=((n+1:Nat):Int):=by
 simp[YN,YO,YM];omega
theorem dc{n:Int}(h: -9223372036854775808≤n)(h':n≤9223372036854775807):YP.wrap n=n:=by
 simp[YN,YO,YM];omega
end Go.Fw
namespace Go.Fw
def s8(P:Yn)(r:List cq)(dst:Option Nat)(s:St)(K:St→Prop)(out:Out):Prop:=gF P r (s.apply dst out) K
def n9(P:Yn)(t want:Bool)(dst:Option Nat)(op:jS)(r:List cq)(g:Nat)(s:St)(K:St→Prop):Prop:=
 (t=want→AN P op ⟨fU s.aO g want,s.heap⟩ (s8 P r dst ⟨fU s.aO g want,s.heap⟩ K))∧
 (t= !want→gF P r (St.apply ⟨fU s.aO g (!want),s.heap⟩ dst dr) K)
section
variable {P:Yn} {dst:Option Nat} {op:jS} {fD:List Nat} {lone:Lone} {r:List cq} {s:St} {K:St→Prop} {g:Nat} {want:Bool}
theorem EL{out:Out}:s8 P r dst s K out=gF P r (s.apply dst out) K:=rfl
theorem xr:gF P [] s K=K s:=rfl
theorem uG:gF P (⟨dst,Ya,op,fD,lone⟩::r) s K=AN P op s (s8 P r dst s K):=rfl
theorem uF:gF P (⟨dst,X7 (g,want),op,fD,lone⟩::r) s K=match lk s.aO g with
 |some (.one (.c (.d (.v (.bool t)))))=>n9 P t want dst op r g s K
 |some (.tup [])=>s8 P r dst s K dr
 |_=>False:=rfl
theorem Bc:n9 P want want dst op r g s K=AN P op ⟨fU s.aO g want,s.heap⟩ (s8 P r dst ⟨fU s.aO g want,s.heap⟩ K):=by
 unfold n9;cases want<;>simp
theorem x5{t:Bool}(h:t= !want):n9 P t want dst op r g s K=s8 P r dst ⟨fU s.aO g (!want),s.heap⟩ K dr:=by
 subst h;unfold n9 s8;cases want<;>simp
theorem EP:n9 P Yh Yh dst op r g s K=AN P op ⟨fU s.aO g Yh,s.heap⟩ (s8 P r dst ⟨fU s.aO g Yh,s.heap⟩ K):=Bc
theorem EU:n9 P Yg Yg dst op r g s K=AN P op ⟨fU s.aO g Yg,s.heap⟩ (s8 P r dst ⟨fU s.aO g Yg,s.heap⟩ K):=Bc
theorem ER:n9 P Yh Yg dst op r g s K=s8 P r dst ⟨fU s.aO g Yh,s.heap⟩ K dr:=x5 rfl
theorem ET:n9 P Yg Yh dst op r g s K=s8 P r dst ⟨fU s.aO g Yg,s.heap⟩ K dr:=x5 rfl
theorem It{p:Prop}[Decidable p]:n9 P (decide p) want dst op r g s K=((p→n9 P Yh want dst op r g s K)∧(¬p→n9 P Yg want dst op r g s K)):=by
 by_cases h:p<;>simp[h]
def kD(P:Yn)(h:List (Option bw))(r:List cq)(i:Nat)(dst:Option Nat)(lone:Lone)(aO:List (Nat×AV))(wl:List (Nat×List (Nat×bw)))(K:St→Prop)(out:Out):Prop:=
 r8 aO h wl lone out.wr∧w9 P h r (i+1) (fO aO dst out.val) (pz i out.wr wl) K
def gD(P:Yn)(h:List (Option bw))(t want:Bool)(dst:Option Nat)(op:jS)(fD:List Nat)(lone:Lone)(r:List cq)(i:Nat)(g:Nat)(aO:List (Nat×AV))(wl:List (Nat×List (Nat×bw)))(K:St→Prop):Prop:=
 (t=want→jE P op ⟨fU aO g want,oq h wl fD⟩ (kD P h r i dst lone (fU aO g want) wl K))∧
 (t= !want→w9 P h r (i+1) (fO (fU aO g (!want)) dst dr.val) wl K)
variable {h:List (Option bw)} {i:Nat} {aO:List (Nat×AV)} {wl:List (Nat×List (Nat×bw))}
theorem BQ:r8 aO h wl lone []=True:=by simp[r8]
theorem tp{wr:List (Nat×bw)}{ts:List Nat}{h':List (Option bw)}(h:eP aO wr ts=Yh):r8 aO h' wl (.lone ts) wr=True:=by simp[r8,h]
theorem MD{v:Option AV}{wr:List (Nat×bw)}:kD P h r i dst lone aO wl K ⟨v,wr⟩=(r8 aO h wl lone wr∧w9 P h r (i+1) (fO aO dst v) (pz i wr wl) K):=rfl
theorem Ik{v:Option AV}:kD P h r i dst lone aO wl K ⟨v,[]⟩=w9 P h r (i+1) (fO aO dst v) wl K:=by simp[kD,r8,pz]
theorem D5:w9 P h [] i aO wl K=K ⟨aO,fE h (gO wl)⟩:=rfl
theorem zV:w9 P h (⟨dst,Ya,op,fD,lone⟩::r) i aO wl K=jE P op ⟨aO,oq h wl fD⟩ (kD P h r i dst lone aO wl K):=rfl
theorem zU:w9 P h (⟨dst,X7 (g,want),op,fD,lone⟩::r) i aO wl K=match lk aO g with
 |some (.one (.c (.d (.v (.bool t)))))=>gD P h t want dst op fD lone r i g aO wl K
 |some (.tup [])=>kD P h r i dst lone aO wl K dr
 |_=>False:=by
 simp only[w9,gD,kD,dr,r8,pz,true_or,true_and];rfl
theorem Iv:gD P h want want dst op fD lone r i g aO wl K=jE P op ⟨fU aO g want,oq h wl fD⟩ (kD P h r i dst lone (fU aO g want) wl K):=by
 unfold gD;cases want<;>simp
theorem EV{t:Bool}(ht:t= !want):gD P h t want dst op fD lone r i g aO wl K=kD P h r i dst lone (fU aO g (!want)) wl K dr:=by
 subst ht;unfold gD;simp only[kD,dr,r8,pz,true_or,true_and];cases want<;>simp
theorem ME:gD P h Yh Yh dst op fD lone r i g aO wl K=jE P op ⟨fU aO g Yh,oq h wl fD⟩ (kD P h r i dst lone (fU aO g Yh) wl K):=Iv
theorem MH:gD P h Yg Yg dst op fD lone r i g aO wl K=jE P op ⟨fU aO g Yg,oq h wl fD⟩ (kD P h r i dst lone (fU aO g Yg) wl K):=Iv
theorem MF:gD P h Yh Yg dst op fD lone r i g aO wl K=kD P h r i dst lone (fU aO g Yh) wl K dr:=EV rfl
theorem MG:gD P h Yg Yh dst op fD lone r i g aO wl K=kD P h r i dst lone (fU aO g Yg) wl K dr:=EV rfl
theorem NO{p:Prop}[Decidable p]:gD P h (decide p) want dst op fD lone r i g aO wl K=((p→gD P h Yh want dst op fD lone r i g aO wl K)∧(¬p→gD P h Yg want dst op fD lone r i g aO wl K)):=by
 by_cases hp:p<;>simp[hp]
theorem Bj:oq h [] fD=h:=rfl
theorem Ff{x y:Option AV}{K:Out→Prop}:yg Yh x y K=match x with|some v=>K ⟨X7 v,[]⟩|none=>False:=by
 apply propext;constructor
 ·exact fun h=>h.1 rfl
 ·exact fun h=>⟨fun _=>h,fun h'=>by cases h'⟩
theorem Fg{x y:Option AV}{K:Out→Prop}:yg Yg x y K=match y with|some v=>K ⟨X7 v,[]⟩|none=>False:=by
 apply propext;constructor
 ·exact fun h=>h.2 rfl
 ·exact fun h=>⟨fun h'=>(by cases h'),fun _=>h⟩
theorem EJ:nb Yh=Yg:=rfl
theorem AX:nb Yg=Yh:=rfl
theorem Ia{p:Prop}[Decidable p]:nb (decide p)=decide (¬p):=by simp[nb]
end
inductive Gw where
 |seq (b:AC)
 |bZ (id:Nat)
def uc(P:Yn)(n m:Nat):List Gw→(XT→St→Prop)→XT→St→Prop
 |[],Q=>Q
 | .seq b::k,Q=>D7 (vc P n m b (uc P n m k Q)) (uc P n m k Q)
 | .bZ id::k,Q=>zG id (uc P n m k Q)
def ub(P:Yn)(n m:Nat)(a:AC)(k:List Gw)(Q:XT→St→Prop)(s:St):Prop:=vc P n m a (uc P n m k Q) s
def KR(P:Yn)(n m:Nat)(t:Bool)(a b:AC)(k:List Gw)(Q:XT→St→Prop)(s:St):Prop:=(t=Yh→ub P n m a k Q s)∧(t=Yg→ub P n m b k Q s)
def xU(n m:Nat)(I:Nat→St→Prop)(k:Nat)(Q:XT→St→Prop):XT→St→Prop
 | .normal,s'=>∃k' s'',k'<k∧View n m s' s''∧I k' s''
 |x,s'=>Q x s'
def xk(P:Yn)(n m:Nat)(k:List Gw)(Q:XT→St→Prop)(s:St):Prop:=uc P n m k Q .normal s
section
variable {P:Yn} {n m:Nat} {Q:XT→St→Prop} {s:St} {a b:AC} {k:List Gw}
theorem GF(h:ub P n m a [] Q s):vc P n m a Q s:=h
theorem D0:ub P n m .skip k Q s=xk P n m k Q s:=rfl
theorem GD{ops:List cq}:ub P n m (.reg ops) k Q s=gF P ops s (xk P n m k Q):=rfl
theorem D1{ops:List cq}:ub P n m (.regd ops) k Q s=w9 P s.heap ops 0 s.aO [] (xk P n m k Q):=rfl
theorem GA:ub P n m (.seq a b) k Q s=ub P n m a (.seq b::k) Q s:=rfl
theorem zT{id:Nat}:ub P n m (.block id a) k Q s=ub P n m a (.bZ id::k) Q s:=rfl
theorem D2:ub P n m (.loop a) k Q s=Fe P n m (.loop a) (uc P n m k Q) s:=rfl
theorem GB:ub P n m (.sem a) k Q s=Fe P n m a (uc P n m k Q) s:=rfl
theorem D3{id:Nat}:ub P n m (.exit id) k Q s=uc P n m k Q (.exit id) s:=rfl
theorem GC:ub P n m .ret k Q s=uc P n m k Q .ret s:=rfl
theorem D4{c:O}:ub P n m (.cond c a b) k Q s=match s.eZ c with
 |some (.bool t)=>KR P n m t a b k Q s
 |_=>False:=rfl
theorem ML:KR P n m Yh a b k Q s=ub P n m a k Q s:=by simp[KR]
theorem MM:KR P n m Yg a b k Q s=ub P n m b k Q s:=by simp[KR]
theorem LX{p:Prop}[Decidable p]:KR P n m (decide p) a b k Q s=((p→ub P n m a k Q s)∧(¬p→ub P n m b k Q s)):=by
 by_cases hp:p<;>simp[hp,KR]
theorem AQ:xk P n m (.seq b::k) Q s=ub P n m b k Q s:=rfl
theorem AS{id:Nat}:xk P n m (.bZ id::k) Q s=xk P n m k Q s:=rfl
theorem AR:xk P n m [] Q s=Q .normal s:=rfl
theorem qL{i:Nat}:uc P n m (.seq b::k) Q (.exit i) s=uc P n m k Q (.exit i) s:=rfl
theorem qN{i id:Nat}:uc P n m (.bZ id::k) Q (.exit i) s=if i=id then xk P n m k Q s else uc P n m k Q (.exit i) s:=rfl
theorem qM{i:Nat}:uc P n m [] Q (.exit i) s=Q (.exit i) s:=rfl
theorem tD:uc P n m (.seq b::k) Q .ret s=uc P n m k Q .ret s:=rfl
theorem tF{id:Nat}:uc P n m (.bZ id::k) Q .ret s=uc P n m k Q .ret s:=rfl
theorem tE:uc P n m [] Q .ret s=Q .ret s:=rfl
theorem vS{I:Nat→St→Prop}{j i:Nat}:xU n m I j Q (.exit i) s=Q (.exit i) s:=rfl
theorem xT{I:Nat→St→Prop}{j:Nat}:xU n m I j Q .ret s=Q .ret s:=rfl
theorem CO{body:AC}(I:Nat→St→Prop)(h0:∃k s0,View n m s s0∧I k s0)
 (hr:∀j s,I j s→ub P n m body [] (xU n m I j (uc P n m k Q)) s):Fe P n m (.loop body) (uc P n m k Q) s:=by
 refine FR I h0 fun j s hI=>?_
 have:=hr j s hI
 have e:xU n m I j (uc P n m k Q)=D7 (fun s'=>∃k' s'',k'<j∧View n m s' s''∧I k' s'') (uc P n m k Q):=by
  funext x s';cases x<;>rfl
 rw[e]at this
 exact this
end
theorem wT{s:St}{d:Nat}{v:AV}{wr:List (Nat×bw)}:s.apply (X7 d) ⟨X7 v,wr⟩=⟨(d,v)::s.aO,fE s.heap wr⟩:=rfl
theorem wV{s:St}{v:Option AV}{wr:List (Nat×bw)}:s.apply Ya ⟨v,wr⟩=⟨s.aO,fE s.heap wr⟩:=rfl
theorem wU{s:St}{d:Nat}:s.apply (X7 d) dr=⟨(d,.tup [])::s.aO,s.heap⟩:=rfl
theorem rq{aO:List (Nat×AV)}{d:Nat}{v:AV}:fO aO (X7 d) (X7 v)=(d,v)::aO:=rfl
theorem ru{aO:List (Nat×AV)}{v:Option AV}:fO aO Ya v=aO:=rfl
end Go.Fw
namespace Go.Fw
section
variable {P:Yn} {n m:Nat} {Q:XT→St→Prop} {s:St} {I:Nat→St→Prop} {k:Nat}
end
end Go.Fw
namespace Go.Fw
def kf(ents:List (Value×A1)):Bool:=ents.all fun e=>e.2.gz
theorem C.nU{φ φ':gP}{F:Nat→Prop}{G G':eg}{w:Yo}{c:C}{v:Value}(hd:c.gz=Yh)(h:dA φ F G w c v):dA φ' F G' w c v:=by
 cases c<;>first|exact h|cases hd
theorem A1.nU{φ φ':gP}{F:Nat→Prop}{G G':eg}{w:Yo}{c:A1}{v:Value}(hd:c.gz=Yh)(h:cm φ F G w c v):cm φ' F G' w c v:=by
 cases c with
 |c x=>exact C.nU hd h
 |agg cs=>
  obtain⟨vs,rfl,h⟩:=h
  simp only[A1.gz,XF]at hd
  refine⟨vs,rfl,?_⟩
  unfold eD at*
  induction h with
  |nil=>exact .nil
  |cons a _ ih=>exact .cons (C.nU (hd _ (XM ..)) a) (ih fun c hc=>hd c (XH _ hc))
theorem Ga{φ φ':gP}{F:Nat→Prop}{G G':eg}{w:Yo}{ents:List (Value×A1)}{es:List Ys}(hd:kf ents=Yh)(h:bX (fun(e:Value×A1) (m:Ys)=>m.key=e.1∧cm φ F G w e.2 m.val) ents es):
 bX (fun(e:Value×A1) (m:Ys)=>m.key=e.1∧cm φ' F G' w e.2 m.val) ents es:=by
 simp only[kf,XF]at hd
 induction h with
 |nil=>exact .nil
 |cons a _ ih=>exact .cons ⟨a.1,A1.nU (hd _ (XM ..)) a.2⟩ (ih fun c hc=>hd c (XH _ hc))
def KO(h:List (Option bw))(ρ:List Nat)(H':List (Option bw)):C→C→Prop
 | .d x,.d y=>x=y
 | .fp x,.fp y=>x=y
 | .mref k,.mref j=>ρ[k]? =X7 j∧match hp H' k with|some (.map _)=>True|_=>False
 | .pt k off,.pt j off'=>(ρ[k]? =X7 j∧off=off')∧match hp H' k with|some (.box _)=>True|_=>False
 | .own k ep' off len cap',.own j ep off' len' cap=>(ρ[k]? =X7 j∧off=off'∧len=len')∧match hp h j with
   |some (.arr e _ _)=>(ep=e∧(cap'=cap∨cap'=Ya))∧match hp H' k with
    |some (.arr e' _ rows)=>ep'=e'∧(cap'=Ya→off+len≤rows.length)
    |_=>False
   |_=>False
 |_,_=>False
def HN(h:List (Option bw))(ρ:List Nat)(H':List (Option bw)):List C→List C→Prop
 |[],[]=>True
 |x::l,y::m=>KO h ρ H' x y∧HN h ρ H' l m
 |_,_=>False
theorem vp{h:List (Option bw)}{ρ:List Nat}{H':List (Option bw)}:∀{a b:List C},HN h ρ H' a b→a.length=b.length
 |[],[],_=>rfl
 |_::_,_::_,h=>congrArg (·+1) (vp h.2)
 |[],_::_,h=>h.elim
 |_::_,[],h=>h.elim
def KP(h:List (Option bw))(ρ:List Nat)(H':List (Option bw)):A1→A1→Prop
 | .c x,.c y=>KO h ρ H' x y
 | .agg xs,.agg ys=>HN h ρ H' xs ys
 |_,_=>False
def xj(h:List (Option bw))(ρ:List Nat)(H':List (Option bw)):List A1→List A1→Prop
 |[],[]=>True
 |x::l,y::m=>KP h ρ H' x y∧xj h ρ H' l m
 |_,_=>False
def Ey(h:List (Option bw))(ρ:List Nat)(H':List (Option bw))(j:Nat):Option bw→Prop
 |some (.arr _ sz rows)=>match hp h j with
  |some (.arr _ sz' rows')=>sz'=sz∧(rows'=rows∨∃r,rows'=rows++r)
  |_=>False
 |some (.box cells)=>match hp h j with
  |some (.box cells')=>HN h ρ H' cells cells'
  |_=>False
 |some (.map ents)=>match hp h j with
  |some (.map ents')=>ents'=ents∧kf ents=Yh
  |_=>False
 |none=>False
def pw(h:List (Option bw))(ρ0:List Nat)(H0:List (Option bw)):List Nat→List (Option bw)→Prop
 |[],[]=>True
 |j::ρ,b::H'=>Ey h ρ0 H0 j b∧pw h ρ0 H0 ρ H'
 |_,_=>False
def nr(i j:Nat):Option bw→Option bw→Prop
 |some (.arr e sz rows),X7 (.arr e' sz' rows')=>e<e'∨(e=e'∧sz'=sz∧rows.length≤rows'.length∧j=i)
 |some (.box _),X7 (.box _)=>j=i
 |some (.map _),X7 (.map _)=>j=i
 |none,_=>True
 |_,_=>False
def keeps:Nat→List (Option bw)→List Nat→List (Option bw)→Prop
 |_,[],_,_=>True
 |i,b::h,j::ρ,b'::H'=>nr i j b b'∧keeps (i+1) h ρ H'
 |_,_,_,_=>False
def jr(ρ:List Nat)(φ:gP):gP:=fun k=>(ρ[k]?).bind φ
theorem vq{h:List (Option bw)}{ρ0:List Nat}{H0:List (Option bw)}:∀{ρ:List Nat} {H':List (Option bw)},pw h ρ0 H0 ρ H'→ρ.length=H'.length∧∀(k:Nat) j,ρ[k]? =X7 j→∃b,H'[k]? =X7 b∧Ey h ρ0 H0 j b
 |[],[],_=>⟨rfl,fun k j hk=>by simp at hk⟩
 |j::ρ,b::H',⟨h1,h2⟩=>by
  obtain⟨g1,g2⟩:=vq h2
  refine⟨by simp[g1],fun k j' hk=>?_⟩
  cases k with
  |zero=>simp at hk;subst hk;exact⟨b,rfl,h1⟩
  |succ k=>simpa using g2 k j' (by simpa using hk)
 |[],_::_,h=>h.elim
 |_::_,[],h=>h.elim
theorem xV:∀{i:Nat} {h:List (Option bw)} {ρ:List Nat} {H':List (Option bw)},keeps i h ρ H'→∀(k:Nat) b,h[k]? =X7 b→∃j b',ρ[k]? =X7 j∧H'[k]? =X7 b'∧nr (i+k) j b b'
 |i,[],_,_,_,k,b,hk=>by simp at hk
 |i,b::h,j::ρ,b'::H',⟨h1,h2⟩,k,x,hk=>by
  cases k with
  |zero=>simp at hk;subst hk;exact⟨j,b',rfl,rfl,h1⟩
  |succ k=>
   obtain⟨j',b'',g1,g2,g3⟩:=xV h2 k x (by simpa using hk)
   exact⟨j',b'',by simpa using g1,by simpa using g2,by rw[show i+(k+1)=i+1+k by omega];exact g3⟩
 |i,b::h,[],H',h',_,_,_=>h'.elim
 |i,b::h,j::ρ,[],h',_,_,_=>h'.elim
section
variable {φ:gP} {F:Nat→Prop} {w:Yo} {h H':List (Option bw)} {ρ:List Nat}
theorem Ex{c' c:C}{v:Value}(hB:pw h ρ H' ρ H')(hr:KO h ρ H' c' c)(hc:dA φ F (hp h) w c v):dA (jr ρ φ) F (hp H') w c' v:=by
 obtain⟨hlen,hB⟩:=vq hB
 cases c'<;>cases c<;>try exact hr.elim
 ·cases hr;exact hc
 ·rename_i k ep' off len cap' j ep off' len' cap
  obtain⟨⟨hk,rfl,rfl⟩,hr⟩:=hr
  obtain⟨e,sz,rows,hG,hle,A,l,k2,rfl,hA⟩:=hc
  rw[hG]at hr
  obtain⟨⟨rfl,hcap⟩,hr⟩:=hr
  split at hr
  ·rename_i e' sz' rows' hH
   obtain⟨rfl,hlen'⟩:=hr
   obtain⟨b,hb,hb2⟩:=hB k j hk
   have hb':b=X7 (.arr ep' sz' rows'):=by
    have:hp H' k=b:=by simp[hp,hb]
    rw[←this];exact hH
   subst hb'
   simp only[Ey,hG]at hb2
   obtain⟨rfl,_⟩:=hb2
   obtain⟨rfl,g1,g2,g3,g4⟩:=hA rfl
   refine⟨ep',sz,rows',hH,YC _,A,l,k2,rfl,fun _=>⟨rfl,g1,?_,?_,?_⟩⟩
   ·intro c hc
    rcases hcap with rfl|rfl
    ·exact g2 c hc
    ·cases hc
   ·exact hlen'
   ·rcases g4 with g4|⟨b,o,n,q1,q2⟩
    ·exact .inl g4
    ·exact .inr ⟨b,o,n,by simp[jr,hk,q1],q2⟩
  ·exact hr.elim
 ·rename_i k off j off'
  obtain⟨⟨hk,rfl⟩,hr⟩:=hr
  obtain⟨cells,b,o,q1,q2,q3⟩:=hc
  split at hr
  ·rename_i cells' hH
   exact⟨cells',b,o,hH,by simp[jr,hk,q2],q3⟩
  ·exact hr.elim
 ·cases hr;exact hc
 ·obtain⟨hk,hr⟩:=hr
  obtain⟨ents,b,q1,q2,q3⟩:=hc
  split at hr
  ·rename_i ents' hH
   exact⟨ents',b,hH,by simp[jr,hk,q2],q3⟩
  ·exact hr.elim
theorem vo(hB:pw h ρ H' ρ H'):∀{cs' cs:List C} {vs:List Value},HN h ρ H' cs' cs→eD φ F (hp h) w cs vs→eD (jr ρ φ) F (hp H') w cs' vs
 |[],[],vs,_,hc=>by cases hc;exact .nil
 |x::l,y::m,vs,⟨h1,h2⟩,hc=>by
  cases hc with
  |cons a b=>exact .cons (Ex hB h1 a) (vo hB h2 b)
 |[],_::_,_,h,_=>h.elim
 |_::_,[],_,h,_=>h.elim
theorem Ez(hB:pw h ρ H' ρ H'){c' c:A1}{v:Value}(hr:KP h ρ H' c' c)(hc:cm φ F (hp h) w c v):cm (jr ρ φ) F (hp H') w c' v:=by
 cases c'<;>cases c
 ·exact Ex hB hr hc
 ·exact hr.elim
 ·exact hr.elim
 ·obtain⟨vs,rfl,hc⟩:=hc;exact⟨vs,rfl,vo hB hr hc⟩
theorem vr(hB:pw h ρ H' ρ H'):∀{cs' cs:List A1} {vs:List Value},xj h ρ H' cs' cs→bX (cm φ F (hp h) w) cs vs→bX (cm (jr ρ φ) F (hp H') w) cs' vs
 |[],[],vs,_,hc=>by cases hc;exact .nil
 |x::l,y::m,vs,⟨h1,h2⟩,hc=>by
  cases hc with
  |cons a b=>exact .cons (Ez hB h1 a) (vr hB h2 b)
 |[],_::_,_,h,_=>h.elim
 |_::_,[],_,h,_=>h.elim
theorem Ew{m:Nat}(hr:Rel φ F (hp h) w)(hB:pw h ρ H' ρ H')(hn:ρ.Nodup)(hk:keeps 0 (h.take m) ρ H'):
 Rel (jr ρ φ) F (hp H') w∧Fr φ F w (jr ρ φ) F w∧gY m φ F (hp h) w (jr ρ φ) F (hp H') w:=by
 obtain⟨hlen,hB'⟩:=vq hB
 have hphi:∀{k:Nat} {x},jr ρ φ k=X7 x→∃j,ρ[k]? =X7 j∧φ j=X7 x:=by
  intro k x hx
  simp only[jr,X9]at hx
  exact hx
 refine⟨⟨fun k bZ hb=>?_,fun k x hx=>?_,fun i j b o b' o' hi hj hbb=>?_,fun b hb=>⟨(hr.fY b hb).1,fun k b' o hi=>?_⟩⟩,⟨YC _,fun _ _ _=>rfl,fun k b o hi=>?_,fun b hb=> .inl hb,Io.refl _⟩,⟨fun b hb=>⟨hb,rfl⟩,fun i hi=>?_⟩⟩
 ·have hkl:k<ρ.length:=by
   rw[hlen]
   by_cases hlt:k<H'.length
   ·exact hlt
   ·simp[hp,XK (by omega:H'.length≤k)]at hb
  obtain⟨b,hb1,hb2⟩:=hB' k ρ[k] (XD hkl)
  have hj:ρ[k]? =X7 ρ[k]:=XD hkl
  have:b=X7 bZ:=by rw[←hb];simp[hp,hb1]
  subst this
  cases bZ with
  |arr e sz rows=>
   simp only[Ey]at hb2
   split at hb2
   ·rename_i e' sz' rows' hG
    obtain⟨rfl,hrows⟩:=hb2
    obtain⟨r,rfl⟩:∃r,rows'=rows++r:=by
     rcases hrows with rfl|h
     ·exact⟨[],by simp⟩
     ·exact h
    have:=hr.bZ _ _ hG
    rcases this with⟨q1,q2⟩|⟨b,o,cs,T,q1,q2,q3,q4,q5⟩
    ·exact .inl ⟨by simp[jr,hj,q1],(List.append_eq_nil_iff.1 q2).1⟩
    ·refine .inr ⟨b,o,cs,T,by simp[jr,hj,q1],q2,?_,fun row hrow=>q4 row (XL _ hrow),fun i row hi=>q5 i row ?_⟩
     ·rw[List.length_append,Nat.add_mul]at q3;omega
     ·rw[List.getElem?_append_left (XC.1 hi).1];exact hi
   ·exact hb2.elim
  |box cells=>
   simp only[Ey]at hb2
   split at hb2
   ·rename_i cells' hG
    obtain⟨b,o,cs,T,q1,q2,q4,q3⟩:=hr.bZ _ _ hG
    rw[←vp hb2]at q4 q3
    exact⟨b,o,cs,T,by simp[jr,hj,q1],q2,q4,vo hB hb2 q3⟩
   ·exact hb2.elim
  |map ents=>
   simp only[Ey]at hb2
   split at hb2
   ·rename_i ents' hG
    obtain⟨rfl,hd⟩:=hb2
    obtain⟨b,es,clock,q1,q2,q4,q3⟩:=hr.bZ _ _ hG
    exact⟨b,es,clock,by simp[jr,hj,q1],q2,q4,Ga hd q3⟩
   ·exact hb2.elim
 ·obtain⟨j,hj,_⟩:=hphi hx
  have hkl:=(XC.1 hj).1
  obtain⟨b,hb1,hb2⟩:=hB' k j hj
  cases b with
  |none=>exact hb2.elim
  |some b=>simp[hp,hb1]
 ·obtain⟨i',hi1,hi2⟩:=hphi hi
  obtain⟨j',hj1,hj2⟩:=hphi hj
  have:=hr.inj i' j' b o b' o' hi2 hj2 hbb
  subst this
  have h1:=(XC.1 hi1)
  have h2:=(XC.1 hj1)
  exact(List.getElem?_inj h1.1 hn).1 (hi1.trans hj1.symm)
 ·obtain⟨j,_,hj⟩:=hphi hi
  exact(hr.fY b hb).2 j b' o hj
 ·obtain⟨j,_,hj⟩:=hphi hi
  exact .inl ⟨j,o,hj⟩
 ·cases hg:hp h i with
  |none=>trivial
  |some bZ=>
   have hi':(h.take m)[i]? =X7 (X7 bZ):=by
    rw[XO,if_pos hi]
    simp only[hp]at hg
    cases hx:h[i]? with
    |none=>simp[hx]at hg
    |some y=>simp[hx]at hg;rw[hg]
   obtain⟨j,b',hj,hb',hk1⟩:=xV hk i _ hi'
   have hH:hp H' i=b':=by simp[hp,hb']
   obtain⟨b2,hb2,hb3⟩:=hB' i j hj
   rw[hb']at hb2
   cases hb2
   rw[hH]
   rw[YD]at hk1
   cases bZ with
   |arr e sz rows=>
    cases b' with
    |none=>exact hb3.elim
    |some b'=>cases b' with
     |box _=>exact hk1.elim
     |map _=>exact hk1.elim
     |arr e' sz' rows'=>
      simp only[nr]at hk1
      rcases hk1 with hlt|⟨rfl,rfl,hl,rfl⟩
      ·exact⟨by omega,fun he=>by omega⟩
      ·exact⟨YC _,fun _=>⟨rfl,hl,by simp[jr,hj],fun _ _ _=>rfl⟩⟩
   |box cells=>
    cases b' with
    |none=>exact hb3.elim
    |some b'=>cases b' with
     |arr _ _ _=>exact hk1.elim
     |map _=>exact hk1.elim
     |box _=>
      simp only[nr]at hk1
      subst hk1
      simp only[Ey,hg]at hb3
      exact⟨by simp[jr,hj],vp hb3,fun b o _=>nz.refl _ _ _ _⟩
   |map ents=>
    cases b' with
    |none=>exact hb3.elim
    |some b'=>cases b' with
     |arr _ _ _=>exact hk1.elim
     |box _=>exact hk1.elim
     |map _=>
      simp only[nr]at hk1
      subst hk1
      simp[gX,jr,hj]
end
theorem te{m:Nat}{h:List (Option bw)}{l res:List A1}{H':List (Option bw)}(ρ:List Nat)(hB:pw h ρ H' ρ H')(hn:ρ.Nodup)(hk:keeps 0 (h.take m) ρ H')(hres:xj h ρ H' res l):Fin m h l res H':=by
 intro φ F w vs hr hA
 obtain⟨g1,g2,g3⟩:=Ew hr hB hn hk
 exact⟨_,F,g1,vr hB hres hA,g2,g3⟩
def P3(h:List (Option bw))(ρ:List Nat)(H':List (Option bw)):AV→AV→Prop
 | .one x,.one y=>KP h ρ H' x y
 | .tup xs,.tup ys=>xj h ρ H' xs ys
 |_,_=>False
def Lw(h:List (Option bw))(ρ:List Nat)(H':List (Option bw))(s:List (Nat×AV)):List (Nat×AV)→Prop
 |[]=>True
 |(t,v)::r=>(match lk s t with|some u=>P3 h ρ H' v u|none=>False)∧Lw h ρ H' s r
theorem Aq{h:List (Option bw)}{ρ:List Nat}{H':List (Option bw)}{s:List (Nat×AV)}:∀{sl:List (Nat×AV)},Lw h ρ H' s sl→∀t v,lk sl t=X7 v→∃u,lk s t=X7 u∧P3 h ρ H' v u
 |[],_,t,v,ht=>by cases ht
 |(t',v')::r,⟨h1,h2⟩,t,v,ht=>by
  simp only[lk]at ht
  split at ht
  ·rename_i he;subst he;cases ht
   split at h1
   ·rename_i u hu;exact⟨u,hu,h1⟩
   ·exact h1.elim
  ·exact Aq h2 t v ht
theorem View.re{n m:Nat}{s:St}{sl:List (Nat×AV)}{H':List (Option bw)}(ρ:List Nat)(hB:pw s.heap ρ H' ρ H')(hn:ρ.Nodup)(hk:keeps 0 (s.heap.take m) ρ H')(hs:Lw s.heap ρ H' s.aO sl):View n m s ⟨sl,H'⟩:=by
 intro φ F a w hsr
 obtain⟨g1,g2,g3⟩:=Ew hsr.rel hB hn hk
 refine⟨_,F,⟨hsr.size,hsr.defers,g1,fun t av ht=>?_⟩,g2,g3⟩
 obtain⟨u,hu,hv⟩:=Aq hs t av ht
 have:=hsr.slot t u hu
 cases av<;>cases u
 ·exact Ez hB hv this
 ·exact hv.elim
 ·exact hv.elim
 ·obtain⟨vs,he,hl⟩:=this
  exact⟨vs,he,vr hB hv hl⟩
theorem aW.cap{P:Yn}{f:Yr}{H H':List (Option bw)}{res:AV}{id ep off len:Nat}{as:List A1}(h:∀c,len≤c→aW P f (.c (.own id ep off len (X7 c))::as) H res H'):aW P f (.c (.own id ep off len Ya)::as) H res H':=by
 intro φ F w vs hr hA
 cases hA with
 |cons hx hA=>
  obtain⟨e,sz,rows,hG,hle,A,l,k,rfl,hA1⟩:=hx
  by_cases he:ep=e
  ·obtain⟨rfl,g1,g2,g3,g4⟩:=hA1 he
   exact h k g1 φ F w _ hr (.cons ⟨e,sz,rows,hG,hle,A,l,k,rfl,fun _=>⟨rfl,g1,fun c hc=>(by cases hc;rfl),fun hc=>(by cases hc),g4⟩⟩ hA)
  ·exact h len (YC _) φ F w _ hr (.cons ⟨e,sz,rows,hG,hle,A,l,k,rfl,fun h=>(he h).elim⟩ hA)
end Go.Fw
namespace Go.Fw
theorem Rel.MB{φ F G w}(h:Rel φ F G w){id b o e sz rows}(hg:G id=X7 (.arr e sz rows))(hi:φ id=X7 (b,o)):∃cs T,w.heap[b]? =X7 (.cells cs T (0,0)):=by
 rcases h.bZ id _ hg with⟨h1,_⟩|⟨b',o',cs,T,h1,h2,_⟩
 ·rw[hi]at h1;cases h1
 ·rw[hi]at h1;simp only[YB,Prod.mk.injEq]at h1
  exact⟨cs,T,h1.1▸h2⟩
theorem MJ{b:Bool}:O4 Yh b=nb b:=rfl
theorem MK{b:Bool}:O4 Yg b=b:=rfl
theorem E0{p q:Prop}[Decidable p][Decidable q]:(decide p&&decide q)=decide (p∧q):=by simp
theorem MT{b:Bool}:(b&&Yh)=b:=by simp
theorem KB{e:Bool}{K:Out→Prop}:Gr Yg e K=((e=Yh→ey K (.bool Yh))∧ey K (.bool Yg)):=by
 apply propext;constructor
 ·exact fun h=>⟨fun he=>h Yh (fun h'=>by rw[he]at h';cases h'),h Yg (fun _=>rfl)⟩
 ·rintro⟨h1,h2⟩ b hb
  cases b with
  |false=>exact h2
  |true=>
   cases e with
   |true=>exact h1 rfl
   |false=>cases hb rfl
theorem KA{e:Bool}{K:Out→Prop}:Gr Yh e K=((e=Yh→ey K (.bool Yg))∧ey K (.bool Yh)):=by
 apply propext;constructor
 ·exact fun h=>⟨fun he=>h Yh (fun h'=>by rw[he]at h';cases h'),h Yg (fun _=>rfl)⟩
 ·rintro⟨h1,h2⟩ b hb
  cases b with
  |false=>exact h2
  |true=>
   cases e with
   |true=>exact h1 rfl
   |false=>cases hb rfl
theorem LN{h:List (Option bw)}(e sz:Nat):Fin 0 h [.c (.d (.v (.slice Ya 0 0)))] [.c (.own 0 e 0 0 Ya)] [X7 (.arr e sz [])]:=by
 intro φ F w vs hr hA
 refine⟨fun _=>Ya,F,⟨fun id bZ hb=>?_,fun id x hx=>(by cases hx),fun i j b o b' o' hi=>(by cases hi),fun b hb=>⟨(hr.fY b hb).1,fun id b' o hi=>(by cases hi)⟩⟩,?_,⟨YC _,fun _ _ _=>rfl,fun id b o hi=>(by cases hi),fun b hb=> .inl hb,Io.refl _⟩,⟨fun b hb=>⟨hb,rfl⟩,fun id hid=>by omega⟩⟩
 ·match id,hb with
  |0,hb=>cases hb;exact .inl ⟨rfl,rfl⟩
  |k+1,hb=>simp[hp]at hb
 ·cases hA with
  |cons hx hn=>
   cases hn
   have hx':dh w F (.v (.slice Ya 0 0)) _:=hx
   cases hx'
   exact .cons ⟨e,sz,[],rfl,YC _,Ya,0,0,rfl,fun _=>⟨rfl,YC _,fun c hc=>(by cases hc),fun _=>(by simp),.inl rfl⟩⟩ .nil
theorem NQ{m:Nat}{h:List (Option bw)}{l:List A1}:Fin m h l l h:=fun φ F w _ hr hA=>⟨φ,F,hr,hA,Fr.refl _ _ _,gY.refl _ _ _ _ _⟩
theorem Gh{P:Yn}{n m:Nat}{p:Prop}[Decidable p]{a b:AC}{k:List Gw}{Q:XT→St→Prop}{s:St}(h1:p→ub P n m a k Q s)(h0:¬p→ub P n m b k Q s):KR P n m (decide p) a b k Q s:=by
 rw[LX];exact⟨h1,h0⟩
theorem CV{P:Yn}{dst:Option Nat}{op:jS}{r:List cq}{s:St}{K:St→Prop}{g:Nat}{want:Bool}{p:Prop}[Decidable p](h1:p→n9 P Yh want dst op r g s K)(h0:¬p→n9 P Yg want dst op r g s K):n9 P (decide p) want dst op r g s K:=by
 rw[It];exact⟨h1,h0⟩
theorem Iu{P:Yn}{h:List (Option bw)}{dst:Option Nat}{op:jS}{fD:List Nat}{lone:Lone}{r:List cq}{i g:Nat}{aO:List (Nat×AV)}{wl:List (Nat×List (Nat×bw))}{K:St→Prop}{want:Bool}{p:Prop}[Decidable p]
 (h1:p→gD P h Yh want dst op fD lone r i g aO wl K) (h0:¬p→gD P h Yg want dst op fD lone r i g aO wl K):gD P h (decide p) want dst op fD lone r i g aO wl K:=by
 rw[NO];exact⟨h1,h0⟩
theorem IU:((1:Nat):Int)=1:=rfl
theorem IV:((0:Nat):Int)=0:=rfl
theorem B4:(0:Int).toNat=0:=rfl
theorem B3:(1:Int).toNat=1:=rfl
theorem z6{P:Yn}{α β:Type}{w:Yo}{x:Sem β}{y:Sem α}{f:α→Sem β}{a:α}(h:x=y>>=f)(hy:y.run P w= .ok a w):x.run P w=(f a).run P w:=by
 subst h;rw[run_bind,hy]
theorem xL{P:Yn}{f:Yr}{fn:Func}(hf:P.funcs[f]? =X7 fn)(hname:(fn.name== "runtime.NumGoroutine")=Yg)(hb:fn.body.isNone=Yh)(hn:Extern.findNext fn=Ya)
 {tS tT e:TypeId} {ps rs:Array TypeId} (he:Extern.find fn=X7 (YQ ps rs)) (hp0:ps= #[tS,tS]) (hr0:rs= #[tT]) (ht:P.underlying tS=X7 (.slice e)) {sz:Nat} (hs:sn P e=X7 sz)
 (e0 e1 o0 o1 l0 l1:Nat) (c0 c1:Option Nat) (r0 r1:List (List D)):
 aW P f [.c (.own 0 e0 o0 l0 c0),.c (.own 1 e1 o1 l1 c1)] [X7 (.arr e0 sz r0),X7 (.arr e1 sz r1)] (.one (.c (.d (.v (.bool Yg))))) [X7 (.arr e0 sz r0),X7 (.arr e1 sz r1)]:=by
 subst hp0;subst hr0
 intro φ F w vs hr hA
 cases hA with
 |cons hx hA=>
  cases hA with
  |cons hy hA=>
   cases hA
   obtain⟨_,_,_,hG0,_,A0,m0,k0,rfl,h0⟩:=hx
   obtain⟨_,_,_,hG1,_,A1,m1,k1,rfl,h1⟩:=hy
   have q0:hp [X7 (bw.arr e0 sz r0),X7 (.arr e1 sz r1)] 0=X7 (.arr e0 sz r0):=rfl
   have q1:hp [X7 (bw.arr e0 sz r0),X7 (.arr e1 sz r1)] 1=X7 (.arr e1 sz r1):=rfl
   have hG0':=hG0
   have hG1':=hG1
   rw[q0]at hG0;rw[q1]at hG1
   cases hG0;cases hG1
   obtain⟨rfl,g1,_,_,g4⟩:=h0 rfl
   obtain⟨rfl,i1,_,_,i4⟩:=h1 rfl
   refine .inr ⟨.bool Yg,w,?_,φ,F,dh.v _ rfl,hr,ix.refl _ _ _ _,Fr.refl _ _ _⟩
   rw[run_callFunc_extern hf hname hb hn he]
   suffices hh:(YQ #[tS,tS] #[tT] #[.slice A0 m0 k0,.slice A1 m1 k1]).run P w= .ok (.bool Yg) w by
    have e2:[Value.slice A0 m0 k0,.slice A1 m1 k1].toArray= #[.slice A0 m0 k0,.slice A1 m1 k1]:=rfl
    rw[e2,hh];rfl
   have hz:∀w,(Yt e).run P w= .ok sz w:=fun w=>run_sizeOf hs
   by_cases hzero:m0=0∨m1=0∨sz=0∨A0=Ya∨A1=Ya
   ·refine(z6 (y:=underlying tS) rfl (run_underlying ht)).trans ?_
    refine(z6 (y:=Yt e) rfl (hz w)).trans ?_
    cases A0 with
    |none=>rfl
    |some a0=>cases A1 with
     |none=>rfl
     |some a1=>
      have hc:m0=0∨m1=0∨sz=0:=by
       rcases hzero with h|h|h|h|h
       ·exact .inl h
       ·exact .inr (.inl h)
       ·exact .inr (.inr h)
       ·cases h
       ·cases h
      show(ite _ _ _:Sem Value).run P w=_
      rw[if_pos hc];rfl
   ·simp only[not_or]at hzero
    obtain⟨z0,z1,z2,z3,z4⟩:=hzero
    rcases g4 with g4|⟨b0,p0,n0,a1,rfl,a3,a4⟩
    ·omega
    rcases i4 with i4|⟨b1,p1,n1,b1',rfl,b3,b4⟩
    ·omega
    have hne:b0≠b1:=fun hb=>by have:=hr.inj 0 1 _ _ _ _ a1 b1' hb;omega
    obtain⟨cs0,T0,hb0⟩:=hr.MB (e:=_) rfl a1
    obtain⟨cs1,T1,hb1⟩:=hr.MB (e:=_) rfl b1'
    rw[eY hb0]at a3
    rw[eY hb1]at b3
    cases a3;cases b3
    clear h0 h1
    have:0<k1*sz:=Nat.mul_pos (by omega) (by omega)
    exact Lib.run_overlaps_apart w tS tT e ht sz hz _ _ m0 k0 m1 k1 hne T0 T1 cs0.size cs1.size (by simp[World.shape?,hb0]) (by simp[World.shape?,hb1]) (by omega) (by simp[World.frozen?,hb0]) (by simp[World.frozen?,hb0])
end Go.Fw
