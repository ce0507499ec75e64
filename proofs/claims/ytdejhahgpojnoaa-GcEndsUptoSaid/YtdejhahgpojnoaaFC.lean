/- Code, and what it asks. -/
import Derived.Test.YtdejhahgpojnoaaFB2
import Derived.Lib.Overlaps
set_option linter.unusedVariables false
set_option linter.unusedSimpArgs false
set_option linter.unusedSectionVars false
namespace Go.Fw
def okO:O→Bool
 | .t _=>true
 | .k (.c (.d _))=>true
 |_=>false
def readA:AOp→Option (Option Nat)
 | .mv x=>if okO x then some none else none
 | .ext x _=>if okO x then some none else none
 | .field _ _ x=>if okO x then some none else none
 | .bin .. | .not .. | .neg .. | .conv .. | .max .. | .min .. | .slen .. | .beq .. =>some none
 | .load _ (.t a)=>some (some a)
 | .fieldA _ (.t a)=>some (some a)
 | .indexA _ (.t a) _=>some (some a)
 | .len (.t a)=>some (some a)
 | .slice _ (.t a) _ _ none=>some (some a)
 |_=>none
def apartC:C→List (Nat×Blk)→Bool
 | .own id _ _ _ _,wr=>wr.all fun p=>p.1 !=id
 | .pt id _,wr=>wr.all fun p=>p.1 !=id
 | .pe id _ _ _,wr=>wr.all fun p=>p.1 !=id
 |_,_=>true
def apartS:Option AV→List (Nat×Blk)→Bool
 |some (.one (.c c)),wr=>apartC c wr
 |_,_=>false
def aparts(slots:List (Nat×AV))(wr:List (Nat×Blk)):List Nat→Bool
 |[]=>true
 |a::ts=>apartS (lk slots a) wr&&aparts slots wr ts
inductive Lone where
 |new (own:List Nat)
 |lone (ts:List Nat)
 deriving Inhabited
structure AStep where
 dst:Option Nat
 guard:Option (Nat×Bool)
 op:AOp
 bef:List Nat
 lone:Lone
 deriving Inhabited
inductive AC where
 |skip
 |reg (ops:List AStep)
 |regd (ops:List AStep)
 |seq (a b:AC)
 |cond (c:O) (a b:AC)
 |block (id:Nat) (a:AC)
 |loop (a:AC)
 |exit (id:Nat)
 |ret
 |sem (a:AC)
 deriving Inhabited
def AC.er:AC→AC
 | .seq a b=> .seq a.er b.er
 | .cond c a b=> .cond c a.er b.er
 | .block id a=> .block id a.er
 | .loop a=> .loop a.er
 | .sem a=>a.er
 |a=>a
inductive XT where
 |normal
 |exit (id:Nat)
 |ret
def skipOut:Out:=⟨some (.tup []),[]⟩
def setB(slots:List (Nat×AV))(g:Nat)(b:Bool):List (Nat×AV):=(g,.one (.c (.d (.v (.bool b)))))::slots
def vcOps(P:Program):List AStep→St→(St→Prop)→Prop
 |[],s,K=>K s
 |st::r,s,K=>match st.guard with
  |none=>opS P st.op s fun out=>vcOps P r (s.apply st.dst out) K
  |some (g,want)=>match lk s.slots g with
   |some (.one (.c (.d (.v (.bool t)))))=>(t=want→opS P st.op ⟨setB s.slots g want,s.heap⟩ fun out=>vcOps P r (St.apply ⟨setB s.slots g want,s.heap⟩ st.dst out) K)∧
     (t= !want→vcOps P r (St.apply ⟨setB s.slots g (!want),s.heap⟩ st.dst skipOut) K)
   |some (.tup [])=>vcOps P r (s.apply st.dst skipOut) K
   |_=>False
def allW:List (Nat×List (Nat×Blk))→List (Nat×Blk)
 |[]=>[]
 |(_,w)::r=>w++allW r
def befW(bef:List Nat):List (Nat×List (Nat×Blk))→List (Nat×Blk)
 |[]=>[]
 |(i,w)::r=>if bef.contains i then w++befW bef r else befW bef r
def envH(h:List (Option Blk))(wl:List (Nat×List (Nat×Blk)))(bef:List Nat):List (Option Blk):=
 match wl with
 |[]=>h
 |wl=>wrs (h++List.replicate ((wrs h (allW wl)).length-h.length) none) (befW bef wl)
def addW(i:Nat)(w:List (Nat×Blk))(wl:List (Nat×List (Nat×Blk))):List (Nat×List (Nat×Blk)):=
 match w with
 |[]=>wl
 |w=>wl++[(i,w)]
def putSlot(slots:List (Nat×AV))(dst:Option Nat)(v:Option AV):List (Nat×AV):=
 match dst with
 |some d=>match v with
  |some v=>(d,v)::slots
  |none=>slots.filter (·.1 !=d)
 |none=>slots
def ownW(n:Nat)(wl:List (Nat×List (Nat×Blk)))(own:List Nat)(x:Nat):Bool:=
 Nat.ble n x&&wl.all fun p=> !(p.2.any fun q=>q.1==x)||own.contains p.1
def WrOk(slots:List (Nat×AV))(h:List (Option Blk))(wl:List (Nat×List (Nat×Blk)))(lone:Lone)(wr:List (Nat×Blk)):Prop:=
 wr=[]∨(∃ts,lone= .lone ts∧aparts slots wr ts=true)∨∃own,(lone= .new own∨own=[])∧∀x∈wr,(wrs h (allW wl)).length≤x.1∨ownW h.length wl own x.1=true
def vcD(P:Program)(h:List (Option Blk)):List AStep→Nat→List (Nat×AV)→List (Nat×List (Nat×Blk))→(St→Prop)→Prop
 |[],_,slots,wl,K=>K ⟨slots,wrs h (allW wl)⟩
 |st::r,i,slots,wl,K=>match st.guard with
  |none=>op1 P st.op ⟨slots,envH h wl st.bef⟩ fun out=>WrOk slots h wl st.lone out.wr∧vcD P h r (i+1) (putSlot slots st.dst out.val) (addW i out.wr wl) K
  |some (g,want)=>match lk slots g with
   |some (.one (.c (.d (.v (.bool t)))))=>(t=want→op1 P st.op ⟨setB slots g want,envH h wl st.bef⟩ fun out=>WrOk (setB slots g want) h wl st.lone out.wr∧vcD P h r (i+1) (putSlot (setB slots g want) st.dst out.val) (addW i out.wr wl) K)∧
     (t= !want→vcD P h r (i+1) (putSlot (setB slots g (!want)) st.dst skipOut.val) wl K)
   |some (.tup [])=>vcD P h r (i+1) (putSlot slots st.dst skipOut.val) wl K
   |_=>False
structure StpM(m:Nat)(φ:Phi)(F:Nat→Prop)(G:Heap)(w:World)(φ':Phi)(F':Nat→Prop)(G':Heap)(w':World):Prop where
 frz:∀b,F b→F' b∧w'.heap[b]? =w.heap[b]?
 blk:∀id,id<m→BStp φ w φ' w' id (G id) (G' id)
theorem Stp.m{m φ F G w φ' F' G' w'}(h:Stp φ F G w φ' F' G' w'):StpM m φ F G w φ' F' G' w':=⟨h.frz,fun id _=>h.blk id⟩
theorem StpM.refl(m φ F G w):StpM m φ F G w φ F G w:=(Stp.refl φ F G w).m
theorem StpM.trans{m φ F G w φ' F' G' w' φ'' F'' G'' w''}(h:StpM m φ F G w φ' F' G' w')(h':StpM m φ' F' G' w' φ'' F'' G'' w''):StpM m φ F G w φ'' F'' G'' w'':=
 ⟨fun b hb=>⟨(h'.frz b (h.frz b hb).1).1,(h'.frz b (h.frz b hb).1).2.trans (h.frz b hb).2⟩,fun id hi=>(h.blk id hi).trans (h'.blk id hi)⟩
def Post(n m:Nat)(φ:Phi)(F:Nat→Prop)(s:St)(w:World)(K:St→Prop)(a':Act)(w':World):Prop:=
 ∃s' φ' F',K s'∧SRel n φ' F' s' a' w'∧Fr φ F w φ' F' w'∧StpM m φ F (hp s.heap) w φ' F' (hp s'.heap) w'
def QA(n m:Nat)(φ:Phi)(F:Nat→Prop)(s:St)(w:World)(Q:XT→St→Prop):Exit→Act→World→Prop
 | .normal,a',w'=>Post n m φ F s w (Q .normal) a' w'
 | .exit id,a',w'=>Post n m φ F s w (Q (.exit id)) a' w'
 | .ret,a',w'=>Post n m φ F s w (Q .ret) a' w'
 |_,_,_=>False
def WpA(P:Program)(n m:Nat)(c:Code)(Q:XT→St→Prop)(s:St):Prop:=
 ∀φ F a w,SRel n φ F s a w→c.wp P (QA n m φ F s w Q) a w
theorem SRel.put{n φ F s a w}{φ' F' w'}(h:SRel n φ F s a w){dst:Option Nat}(hd:∀d,dst=some d→d<n){out:Out}{v:Value}
 (hv:∀av,out.val=some av→AVRep φ' F' (hp (wrs s.heap out.wr)) w' av v) (hr:Rel φ' F' (hp (wrs s.heap out.wr)) w') (hs:Stp φ F (hp s.heap) w φ' F' (hp (wrs s.heap out.wr)) w'):
 SRel n φ' F' (s.apply dst out) (a.put dst v) w':=by
 refine⟨?_,?_,hr,fun t av ht=>?_⟩
 ·cases dst<;>simp[Act.put,h.size]
 ·cases dst<;>simp[Act.put,h.defers]
 ·have hold:∀t av,lk s.slots t=some av→AVRep φ' F' (hp (wrs s.heap out.wr)) w' av (a.tmps.getD t undef):=fun t av ht=>(h.slot t av ht).mono hs
  cases dst with
  |none=>exact hold t av ht
  |some d=>
   have hdn:=hd d rfl
   have hlk:∀(l:List (Nat×AV)) t,lk (l.filter (·.1 !=d)) t=if t=d then none else lk l t:=by
    intro l t
    induction l with
    |nil=>simp[lk]
    |cons x l ih=>
     obtain⟨k,v⟩:=x
     by_cases hk:k=d
     ·subst hk
      rw[List.filter_cons_of_neg (by simp),ih]
      by_cases htk:t=k
      ·simp[htk]
      ·simp[lk,htk,Ne.symm htk]
     ·rw[List.filter_cons_of_pos (by simp[hk])]
      simp only[lk,ih]
      by_cases htk:k=t
      ·subst htk;simp[hk]
      ·simp[htk]
   by_cases htd:t=d
   ·subst htd
    simp only[St.apply]at ht
    cases hval:out.val with
    |none=>rw[hval]at ht;simp only[]at ht;rw[hlk]at ht;simp at ht
    |some av'=>
     rw[hval]at ht
     simp only[lk,if_true,Option.some.injEq]at ht
     subst ht
     have:(a.put (some t) v).tmps.getD t undef=v:=by
      simp[Act.put,Array.getD,h.size,hdn]
     rw[this];exact hv _ hval
   ·have hne:(a.put (some d) v).tmps.getD t undef=a.tmps.getD t undef:=by
     simp[Act.put,Ne.symm htd,Array.getElem?_setIfInBounds_ne]
    rw[hne]
    refine hold t av ?_
    simp only[St.apply]at ht
    cases hval:out.val with
    |none=>rw[hval]at ht;simp only[]at ht;rw[hlk,if_neg htd]at ht;exact ht
    |some av'=>rw[hval]at ht;simp only[lk]at ht;rw[if_neg (Ne.symm htd)]at ht;exact ht
def befOf(mask:Nat→Nat)(N i:Nat):List Nat:=(List.range N).filter fun j=>(mask i).testBit j
def loneOf(P:Program)(ops:Array Oper)(mask:Nat→Nat)(i:Nat)(op:AOp):Option (List Nat):=
 if(readA op).isSome then none else
 (List.range ops.size).foldr (fun j acc=>acc.bind fun l=>
   if j==i||(mask i).testBit j||(mask j).testBit i then some l
   else if j<i then match(ops[j]?).bind fun o=>cOp P o.op with
    |some op=>match readA op with
     |some none=>some l
     |some (some a)=>if(List.range ops.size).all fun k=> !(decide (j≤k)&&decide (k<i)&&(ops[k]?).any fun o=>o.dst==some a)then some (a::l)else none
     |none=>none
    |none=>none
   else none) (some [])
def AOp.old:AOp→Bool
 | .app .. | .appz .. | .copy .. | .clear .. | .store .. | .call .. | .callv .. | .bslice .. =>true
 |_=>false
def loneS(P:Program)(ops:Array Oper)(mask:Nat→Nat)(i:Nat)(op:AOp):Lone:=
 match loneOf P ops mask i op with
 |some ts=> .lone ts
 |none=> .new (if op.old then(befOf mask ops.size i).filter fun c=>(List.range ops.size).all fun k=>k==i||(mask i).testBit k||(mask k).testBit i|| !(mask k).testBit c else [])
def cStep(P:Program)(n:Nat)(ops:Array Oper)(mask:Nat→Nat)(i:Nat)(o:Oper):Option AStep:=
 if o.dst.all (·<n)then
  (cOp P o.op).bind fun op=>
    match o.guard with
    |none=>some ⟨o.dst,none,op,befOf mask ops.size i,loneS P ops mask i op⟩
    |some (g,want)=>match(ops[g]?).bind (·.dst)with
     |some d=>if d<n then some ⟨o.dst,some (d,want),op,befOf mask ops.size i,loneS P ops mask i op⟩else none
     |none=>none
 else none
def cStepsFrom(P:Program)(n:Nat)(ops:Array Oper)(mask:Nat→Nat):Nat→List Oper→Option (List AStep)
 |_,[]=>some []
 |i,o::r=>(cStep P n ops mask i o).bind fun s=>(cStepsFrom P n ops mask (i+1) r).map (s::·)
theorem cStep_parts{P:Program}{n:Nat}{ops:Array Oper}{mask:Nat→Nat}{i:Nat}{o:Oper}{st:AStep}(h:cStep P n ops mask i o=some st):
 (∀d,o.dst=some d→d<n)∧cOp P o.op=some st.op∧st.dst=o.dst∧st.bef=befOf mask ops.size i∧
 st.lone=loneS P ops mask i st.op∧
 (match o.guard with|none=>st.guard=none|some (g,want)=>∃d,(ops[g]?).bind (·.dst)=some d∧d<n∧st.guard=some (d,want)):=by
 unfold cStep at h
 split at h
 ·rename_i hd
  rw[Option.bind_eq_some_iff]at h
  obtain⟨op,hop,h⟩:=h
  refine⟨fun d he=>by rw[he]at hd;simpa using hd,?_⟩
  cases hg:o.guard with
  |none=>
   rw[hg]at h
   simp only[Option.some.injEq]at h
   subst h
   exact⟨hop,rfl,rfl,rfl,rfl⟩
  |some x=>
   obtain⟨g,want⟩:=x
   rw[hg]at h
   simp only at h
   split at h
   ·rename_i d hd'
    split at h
    ·rename_i hdn
     cases h
     exact⟨hop,rfl,rfl,rfl,d,hd',hdn,rfl⟩
    ·cases h
   ·cases h
 ·cases h
theorem yielded_at{ops:Array Oper}{a:Act}{g d:Nat}(hd:(ops[g]?).bind (·.dst)=some d)(hlt:d<a.tmps.size):
 yielded ops a.tmps g=match a.tmps.getD d undef with| .bool b=>some b|_=>none:=by
 unfold yielded
 rw[hd]
 simp only[Option.bind_some]
 rw[Array.getElem?_eq_getElem hlt]
 simp only[Array.getD,hlt,dif_pos]
 split<;>simp_all
theorem OpWp.mono{P:Program}{o:Oper}{a:Act}{φ F s w K K'}(hm:∀out,K out→K' out)(h:OpWp P o a φ F s w K):OpWp P o a φ F s w K':=by
 intro Q
 refine Oper.wp_mono ?_ (h Q)
 rintro a' w' ⟨v,rfl,⟨⟨out,φ',F',h1,h2⟩⟩⟩
 exact⟨v,rfl,⟨⟨out,φ',F',hm _ h1,h2⟩⟩⟩
theorem OpWp.det{P:Program}{o:Oper}{a:Act}{φ F s w}{K:Out→Prop}{out:Out}(hk:K out)(h:OpWp P o a φ F s w (·=out)):OpWp P o a φ F s w K:=
 h.mono fun o ho=>by subst ho;exact hk
theorem opS_sound{P:Program}{o:Oper}{a:Act}{n φ F s w}{K:Out→Prop}(h:SRel n φ F s a w){aop:AOp}(hc:cOp P o.op=some aop)(hk:opS P aop s K):OpWp P o a φ F s w K:=by
 have gen:op1 P aop s K→OpWp P o a φ F s w K:=by
  intro hk
  obtain⟨out,h1,h2⟩:=op1_det hk
  exact OpWp.det h2 (opA_sound h hc h1)
 unfold opS at hk
 split at hk
 ·rename_i neg x
  refine opA_sound h hc ?_
  simp only[opA,op0]
  split at hk
  ·rename_i hx;simp only[hx];exact hk
  ·rename_i rows hx
   simp only[hx]
   exact fun b hb=>hk b fun he=>hb (by intro h0;subst h0;simp at he)
  ·rename_i hx
   simp only[hx]
   split at hk
   ·rename_i hG
    simp only[hG]
    exact⟨hk.1,fun b hb=>hk.2 b fun he=>hb (by intro h0;subst h0;simp at he)⟩
   ·exact hk.elim
  ·exact hk.elim
 ·exact gen hk
theorem lk_setB{slots:List (Nat×AV)}{g:Nat}{b:Bool}(h:lk slots g=some (.one (.c (.d (.v (.bool b))))))(t:Nat):lk (setB slots g b) t=lk slots t:=by
 simp only[setB,lk]
 by_cases hg:g=t
 ·subst hg;simp[h]
 ·simp[hg]
theorem SRel.setB{n φ F s a w}(h:SRel n φ F s a w){g:Nat}{b:Bool}(hg:lk s.slots g=some (.one (.c (.d (.v (.bool b)))))):SRel n φ F ⟨Fw.setB s.slots g b,s.heap⟩ a w:=
 ⟨h.size,h.defers,h.rel,fun t av ht=>h.slot t av (by rw[lk_setB hg]at ht;exact ht)⟩
section
variable {P:Program} {n m:Nat}
theorem vcOps_sound{ops:Array Oper}{mask:Nat→Nat}{Q:Exit→Act→World→Prop}:∀(l:List Oper) (k:Nat) (steps:List AStep) (s:St) (K:St→Prop),
 (∀j,l[j]? =ops[k+j]?)→k+l.length=ops.size→cStepsFrom P n ops mask k l=some steps→vcOps P steps s K→
 ∀{φ F a w},SRel n φ F s a w→(∀a' w',Post n m φ F s w K a' w'→Q .normal a' w')→wpOps P ops Q (List.range' k l.length) a w
 |[],k,steps,s,K,hl,hk,hc,hv,φ,F,a,w,h,hQ=>by
  cases hc
  exact hQ a w ⟨s,φ,F,hv,h,Fr.refl _ _ _,StpM.refl _ _ _ _ _⟩
 |o::l,k,steps,s,K,hl,hk,hc,hv,φ,F,a,w,h,hQ=>by
  simp only[cStepsFrom,Option.bind_eq_some_iff,Option.map_eq_some_iff]at hc
  obtain⟨st,hst,steps',hsteps,rfl⟩:=hc
  obtain⟨hdn,hop,hdst,_,_,hguard⟩:=cStep_parts hst
  have ho:ops[k]? =some o:=by have:=hl 0;simpa using this.symm
  simp only[List.length_cons,List.range'_succ]
  have rest:∀{s':St} {φ' F' a' w'},vcOps P steps' s' K→SRel n φ' F' s' a' w'→Fr φ F w φ' F' w'→StpM m φ F (hp s.heap) w φ' F' (hp s'.heap) w'→
   wpOps P ops Q (List.range' (k+1) l.length) a' w':=by
   intro s' φ' F' a' w' hv' h' hf hs
   refine vcOps_sound l (k+1) steps' s' K (fun j=>?_) (by simp at hk;omega) hsteps hv' h' fun a'' w'' hp=>hQ _ _ ?_
   ·have:=hl (j+1);simp only[List.getElem?_cons_succ]at this;rw[this];congr 1;omega
   ·obtain⟨s2,φ2,F2,h1,h2,h3,h4⟩:=hp
    exact⟨s2,φ2,F2,h1,h2,hf.trans h3,hs.trans h4⟩
  have go:∀(sl:List (Nat×AV)),SRel n φ F ⟨sl,s.heap⟩ a w→opS P st.op ⟨sl,s.heap⟩ (fun out=>vcOps P steps' (St.apply ⟨sl,s.heap⟩ st.dst out) K)→o.wp P a w (wpOps P ops Q (List.range' (k+1) l.length)) Q:=by
   intro sl h hrun
   refine Oper.wp_mono ?_ (opS_sound h hop hrun Q)
   rintro a' w' ⟨v,rfl,⟨⟨out,φ',F',hK,hav,hr,hs,hf⟩⟩⟩
   rw[hdst]at hK
   exact rest hK (h.put hdn hav hr hs) hf hs.m
  have skip:∀(sl:List (Nat×AV)),SRel n φ F ⟨sl,s.heap⟩ a w→vcOps P steps' (St.apply ⟨sl,s.heap⟩ st.dst skipOut) K→wpOps P ops Q (List.range' (k+1) l.length) (a.put o.dst undef) w:=by
   intro sl h hsk
   rw[hdst]at hsk
   refine rest hsk (h.put hdn (out:=skipOut) (fun av hav=>?_) h.rel (Stp.refl _ _ _ _)) (Fr.refl _ _ _) (StpM.refl _ _ _ _ _)
   cases hav;exact⟨[],rfl,.nil⟩
  rw[wpOps_cons]
  unfold wpOp
  rw[ho]
  simp only
  simp only[vcOps]at hv
  cases hg:o.guard with
  |none=>
   rw[hg]at hguard
   rw[hguard]at hv
   simp only at hv
   simp only[Region.wanted,hg,if_true]
   exact .inl (go s.slots h hv)
  |some x=>
   obtain⟨g,want⟩:=x
   rw[hg]at hguard
   obtain⟨d,hd,hdn',hguard⟩:=hguard
   rw[hguard]at hv
   simp only at hv
   have hy:=yielded_at (a:=a) hd (by rw[h.size];exact hdn')
   split at hv
   ·rename_i t ht
    have hval:=h.slot _ _ ht
    generalize a.tmps.getD d undef=u at hval hy
    cases hval
    simp only at hy
    simp only[Region.wanted,hg,hy]
    by_cases htw:t=want
    ·subst htw;simp only[beq_self_eq_true,if_true];exact .inl (go _ (h.setB ht) (hv.1 rfl))
    ·have:(some t==some want)=false:=by simpa using htw
     simp only[this,Bool.false_eq_true,if_false]
     have htn:t= !want:=by cases t<;>cases want<;>simp_all
     exact skip _ (h.setB (by rw[←htn];exact ht)) (hv.2 htn)
   ·rename_i ht
    obtain⟨vs,hval,hvs⟩:=h.slot _ _ ht
    cases hvs
    rw[hval]at hy
    simp only at hy
    simp only[Region.wanted,hg,hy]
    have:((none:Option Bool)==some want)=false:=rfl
    simp only[this,Bool.false_eq_true,if_false]
    exact skip s.slots h hv
   ·exact hv.elim
end
end Go.Fw
namespace Go.Fw
def O.rd:O→List Nat
 | .t n=>[n]
 |_=>[]
def rdO:Option O→List Nat
 |some o=>o.rd
 |none=>[]
def AOp.rds:AOp→List Nat
 | .mv x| .box x| .load _ x| .fieldA _ x| .field _ _ x| .ext x _| .len x| .slen x| .cap x| .eqnil _ x| .not x| .neg x| .conv _ x| .clear _ _ x=>x.rd
 | .pick c x y=>c.rd++(x.rd++y.rd)
 | .zbox _=>[]
 | .mins x r=>x.rd++r.flatMap O.rd
 | .istr x=>x.rd
 | .mkmap=>[]
 | .mget _ _ _ m k=>m.rd++k.rd
 | .mset _ m k v=>m.rd++(k.rd++v.rd)
 | .mdel _ m k=>m.rd++k.rd
 | .mlen m=>m.rd
 | .opq _ x=>x.rd
 | .build _ ps=>ps.flatMap fun p=>p.2.2.rd
 | .bslice _ ps=>ps.flatMap O.rd
 | .store _ a x=>a.rd++x.rd
 | .indexA _ x i=>x.rd++i.rd
 | .sidx x i=>x.rd++i.rd
 | .slice _ x lo hi mx=>x.rd++(rdO lo++(rdO hi++rdO mx))
 | .sslice x lo hi=>x.rd++(rdO lo++rdO hi)
 | .fn _ cs=>cs.flatMap O.rd
 | .bin _ x y| .max x y| .min x y| .app _ _ x y| .appz _ _ _ x y| .copy _ x y| .eqs _ _ x y| .beq _ x y=>x.rd++y.rd
 | .mk _ _ _ l c=>l.rd++c.rd
 | .call _ args=>args.flatMap O.rd
 | .callv g args=>g.rd++args.flatMap O.rd
structure Agree(ts:List Nat)(s s':St):Prop where
 heap:s'.heap=s.heap
 slot:∀t∈ts,lk s'.slots t=lk s.slots t
theorem Agree.left{ts us:List Nat}{s s':St}(h:Agree (ts++us) s s'):Agree ts s s':=⟨h.heap,fun t ht=>h.slot t (List.mem_append_left _ ht)⟩
theorem Agree.right{ts us:List Nat}{s s':St}(h:Agree (ts++us) s s'):Agree us s s':=⟨h.heap,fun t ht=>h.slot t (List.mem_append_right _ ht)⟩
theorem Agree.ev{o:O}{s s':St}(h:Agree o.rd s s'):s'.ev o=s.ev o:=by
 cases o with
 |t n=>exact h.slot n (by simp[O.rd])
 |_=>rfl
theorem Agree.evC{o:O}{s s':St}(h:Agree o.rd s s'):s'.evC o=s.evC o:=by simp[St.evC,h.ev]
theorem Agree.evV{o:O}{s s':St}(h:Agree o.rd s s'):s'.evV o=s.evV o:=by simp[St.evV,h.ev]
theorem Agree.evs{s s':St}:∀{l:List O} {K:List A1→Prop},Agree (l.flatMap O.rd) s s'→evs s l K→evs s' l K
 |[],_,_,h=>h
 |o::l,K,ha,h=>by
  simp only[List.flatMap_cons]at ha
  simp only[Fw.evs,ha.left.ev]at h⊢
  split at h
  ·exact Agree.evs ha.right h
  ·exact h.elim
theorem Agree.caps{s s':St}:∀{l:List O} {K:List (Nat×Nat)→Prop},Agree (l.flatMap O.rd) s s'→caps s l K→caps s' l K
 |[],_,_,h=>h
 |o::l,K,ha,h=>by
  simp only[List.flatMap_cons]at ha
  simp only[Fw.caps,ha.left.evC]at h⊢
  split at h
  ·exact Agree.caps ha.right h
  ·exact h.elim
theorem Agree.bld{s s':St}:∀{l:List (Nat×Nat×O)} {cs:List C} {K:List C→Prop},Agree (l.flatMap fun p=>p.2.2.rd) s s'→bld s cs l K→bld s' cs l K
 |[],_,_,_,h=>h
 |(off,n,o)::l,cs,K,ha,h=>by
  simp only[List.flatMap_cons]at ha
  simp only[Fw.bld,ha.left.ev]at h⊢
  split at h
  ·exact⟨h.1,h.2.1,Agree.bld ha.right h.2.2⟩
  ·exact h.elim
theorem Agree.idxO{s s':St}{o:Option O}(ha:Agree (rdO o) s s')(d:Nat)(K:Nat→Prop):idxO s' o d K=idxO s o d K:=by
 cases o with
 |none=>rfl
 |some o=>simp only[Fw.idxO,Agree.evV (o:=o) ha]
theorem CallO.agree{P:Program}{f:FuncId}{as:List A1}{s s':St}{K:Out→Prop}(hh:s'.heap=s.heap)(h:CallO P f as s K):CallO P f as s' K:=by
 intro φ F w vs hr hA
 rw[hh]at hr hA
 refine(h φ F w vs hr hA).mono ?_
 rintro v w' ⟨⟨out,φ',F',h1,h2,h3,h4,h5⟩⟩
 exact⟨⟨out,φ',F',h1,by rw[hh];exact h2,by rw[hh];exact h3,by rw[hh];exact h4,h5⟩⟩
theorem opA_agree{P:Program}{op:AOp}{s s':St}{K:Out→Prop}(ha:Agree op.rds s s')(h:opA P op s K):opA P op s' K:=by
 have hh:=ha.heap
 cases op with
 |mv x=>simp only[opA,op0,Agree.ev (o:=x) ha]at h⊢;exact h
 |box x=>simp only[opA,op0,Agree.ev (o:=x) ha,hh]at h⊢;exact h
 |load n x=>simp only[opA,op0,Agree.evC (o:=x) ha,hh]at h⊢;exact h
 |fieldA n x=>simp only[opA,op0,Agree.evC (o:=x) ha,hh]at h⊢;exact h
 |field off n x=>simp only[opA,op0,Agree.ev (o:=x) ha]at h⊢;exact h
 |ext x i=>simp only[opA,op0,Agree.ev (o:=x) ha]at h⊢;exact h
 |len x=>simp only[opA,op0,Agree.evC (o:=x) ha,hh]at h⊢;exact h
 |slen x=>simp only[opA,op0,Agree.evV (o:=x) ha]at h⊢;exact h
 |cap x=>simp only[opA,op0,Agree.evC (o:=x) ha,hh]at h⊢;exact h
 |eqnil n x=>simp only[opA,op0,Agree.evC (o:=x) ha,hh]at h⊢;exact h
 |not x=>simp only[opA,op0,Agree.evV (o:=x) ha]at h⊢;exact h
 |neg x=>simp only[opA,op0,Agree.evV (o:=x) ha]at h⊢;exact h
 |conv k x=>simp only[opA,op0,Agree.evV (o:=x) ha]at h⊢;exact h
 |clear sz z x=>simp only[opA,Agree.evC (o:=x) ha,wrK,hh]at h⊢;exact h
 |pick c x y=>
  have ha:Agree (c.rd++(x.rd++y.rd)) s s':=ha
  simp only[opA,op0,ha.left.evV,ha.right.left.ev,ha.right.right.ev]at h⊢;exact h
 |zbox cs=>simp only[opA,op0,hh]at h⊢;exact h
 |build z ps=>simp only[opA,op0]at h⊢;exact Agree.bld ha h
 |bslice sz ps=>simp only[opA,op0,hh]at h⊢;exact Agree.evs ha h
 |store n a x=>
  have ha:Agree (a.rd++x.rd) s s':=ha
  simp only[opA,op0,ha.left.evC,ha.right.ev,hh]at h⊢;exact h
 |indexA sz x i=>
  have ha:Agree (x.rd++i.rd) s s':=ha
  simp only[opA,op0,ha.left.evC,ha.right.evV,hh]at h⊢;exact h
 |sidx x i=>
  have ha:Agree (x.rd++i.rd) s s':=ha
  simp only[opA,op0,ha.left.evV,ha.right.evV]at h⊢;exact h
 |slice sz x lo hi mx=>
  have ha:Agree (x.rd++(rdO lo++(rdO hi++rdO mx))) s s':=ha
  cases mx with
  |none=>simp only[opA,op0,ha.left.evC,ha.right.left.idxO,ha.right.right.left.idxO,ha.right.right.right.idxO,hh]at h⊢;exact h
  |some m=>simp only[opA,op0,ha.left.evC,ha.right.left.idxO,ha.right.right.left.idxO,ha.right.right.right.idxO,hh]at h⊢;exact h
 |sslice x lo hi=>
  have ha:Agree (x.rd++(rdO lo++rdO hi)) s s':=ha
  simp only[opA,op0,ha.left.evV,ha.right.left.idxO,ha.right.right.idxO]at h⊢;exact h
 |fn f cs=>simp only[opA,op0]at h⊢;exact Agree.caps ha h
 |bin op x y=>
  have ha:Agree (x.rd++y.rd) s s':=ha
  simp only[opA,op0,ha.left.evV,ha.right.evV]at h⊢;exact h
 |max x y=>
  have ha:Agree (x.rd++y.rd) s s':=ha
  simp only[opA,op0,ha.left.evV,ha.right.evV]at h⊢;exact h
 |min x y=>
  have ha:Agree (x.rd++y.rd) s s':=ha
  simp only[opA,op0,ha.left.evV,ha.right.evV]at h⊢;exact h
 |app sz b x y=>
  have ha:Agree (x.rd++y.rd) s s':=ha
  simp only[opA,ha.left.evC,ha.right.evC,appK,hh]at h⊢;exact h
 |appz sz b z x y=>
  have ha:Agree (x.rd++y.rd) s s':=ha
  simp only[opA,ha.left.evC,ha.right.evV,appK,hh]at h⊢;exact h
 |copy sz x y=>
  have ha:Agree (x.rd++y.rd) s s':=ha
  simp only[opA,ha.left.evC,ha.right.evC,wrK,hh]at h⊢;exact h
 |eqs n p x y=>
  have ha:Agree (x.rd++y.rd) s s':=ha
  simp only[opA,op0,Agree.ev (o:=x) ha.left,Agree.ev (o:=y) ha.right]at h⊢;exact h
 |beq n x y=>
  have ha:Agree (x.rd++y.rd) s s':=ha
  simp only[opA,op0,ha.left.evV,ha.right.evV]at h⊢;exact h
 |mins x r=>
  have ha:Agree (x.rd++r.flatMap O.rd) s s':=ha
  have key:∀(r:List O) (k:IntKind) (a:Int),Agree (r.flatMap O.rd) s s'→minL s r k a K→minL s' r k a K:=by
   intro r
   induction r with
   |nil=>intro k a _ h;exact h
   |cons y r ih=>
    intro k a hb h
    have hb:Agree (y.rd++r.flatMap O.rd) s s':=hb
    simp only[minL,hb.left.evV]at h⊢
    split at h
    ·rename_i hy
     exact ih _ _ hb.right h
    ·exact h.elim
  simp only[opA,op0,ha.left.evV]at h⊢
  split at h
  ·exact key _ _ _ ha.right h
  ·exact h.elim
 |istr x=>simp only[opA,op0,Agree.evV (o:=x) ha]at h⊢;exact h
 |mkmap=>simp only[opA,op0,hh]at h⊢;exact h
 |mget kd ok z m k=>
  have ha:Agree (m.rd++k.rd) s s':=ha
  simp only[opA,op0,ha.left.evC,ha.right.evV,hh]at h⊢;exact h
 |mdel kd m k=>
  have ha:Agree (m.rd++k.rd) s s':=ha
  simp only[opA,op0,ha.left.evC,ha.right.evV,hh]at h⊢;exact h
 |mlen m=>simp only[opA,op0,Agree.evC (o:=m) ha,hh]at h⊢;exact h
 |opq k x=>simp only[opA,op0]at h
 |mset kd m k v=>
  have ha:Agree (m.rd++(k.rd++v.rd)) s s':=ha
  simp only[opA,op0,ha.left.evC,ha.right.left.evV,ha.right.right.ev,hh]at h⊢;exact h
 |mk sz b z l c=>
  have ha:Agree (l.rd++c.rd) s s':=ha
  simp only[opA,ha.left.evV,ha.right.evV,hh]at h⊢;exact h
 |call f args=>
  simp only[opA]at h⊢
  have key:∀{l:List O} {K K':List A1→Prop},(∀as,K as→K' as)→evs s l K→evs s l K':=by
   intro l
   induction l with
   |nil=>intro K K' hi h;exact hi _ h
   |cons o l ih=>
    intro K K' hi h
    simp only[Fw.evs]at h⊢
    split at h
    ·exact ih (fun as=>hi _) h
    ·exact h.elim
  exact Agree.evs ha (key (fun as=>CallO.agree hh) h)
 |callv g args=>
  have ha:Agree (g.rd++args.flatMap O.rd) s s':=ha
  simp only[opA,ha.left.evC]at h⊢
  have key:∀{l:List O} {K K':List A1→Prop},(∀as,K as→K' as)→evs s l K→evs s l K':=by
   intro l
   induction l with
   |nil=>intro K K' hi h;exact hi _ h
   |cons o l ih=>
    intro K K' hi h
    simp only[Fw.evs]at h⊢
    split at h
    ·exact ih (fun as=>hi _) h
    ·exact h.elim
  split at h
  ·exact Agree.evs ha.right (key (fun as=>CallO.agree hh) h)
  ·exact h.elim
end Go.Fw
namespace Go.Fw
def wv:List (Nat×Blk)→Nat→Option Blk
 |[],_=>none
 |(i,b)::r,x=>match wv r x with
  |some c=>some c
  |none=>if i=x then some b else none
theorem hp_wrs:∀(l:List (Nat×Blk)) (h:List (Option Blk)) (x:Nat),hp (wrs h l) x=(wv l x).or (hp h x)
 |[],h,x=>by simp[wrs,wv]
 |(i,b)::r,h,x=>by
  simp only[wrs,wv,hp_wrs r,hp_hset]
  cases hw:wv r x with
  |some c=>simp
  |none=>
   by_cases hi:i=x
   ·subst hi;simp
   ·simp[hi,upd_ne _ _ (Ne.symm hi)]
theorem wv_append:∀(l m:List (Nat×Blk)) (x:Nat),wv (l++m) x=(wv m x).or (wv l x)
 |[],m,x=>by simp only[List.nil_append,wv];cases wv m x<;>rfl
 |(i,b)::l,m,x=>by
  simp only[List.cons_append,wv,wv_append l m]
  cases wv m x<;>cases wv l x<;>simp
theorem wv_mem:∀{l:List (Nat×Blk)} {x:Nat},wv l x≠none→∃p∈l,p.1=x
 |[],x,h=>(h rfl).elim
 |(i,b)::r,x,h=>by
  simp only[wv]at h
  cases hw:wv r x with
  |some c=>
   obtain⟨p,hp,hx⟩:=wv_mem (l:=r) (x:=x) (by simp[hw])
   exact⟨p,by simp[hp],hx⟩
  |none=>
   rw[hw]at h
   by_cases hi:i=x
   ·exact⟨(i,b),by simp,hi⟩
   ·simp[hi]at h
section
variable (out:Nat→Out) (h0:List (Option Blk)) (sl0:List (Nat×AV)) (dst:Nat→Option Nat)
def GS(S:Nat→Bool):Nat→Heap
 |0=>hp h0
 |k+1=>if S k then fun x=>(wv (out k).wr x).or (GS S k x)else GS S k
def LS(S:Nat→Bool):Nat→Nat→Option AV
 |0=>lk sl0
 |k+1=>fun t=>if S k=true∧dst k=some t then(out k).val else LS S k t
theorem GS_congr{S S':Nat→Bool}{x:Nat}:∀{n:Nat},(∀j,j<n→wv (out j).wr x≠none→S j=S' j)→GS out h0 S n x=GS out h0 S' n x
 |0,_=>rfl
 |n+1,h=>by
  have ih:=GS_congr (S:=S) (S':=S') (x:=x) (n:=n) fun j hj=>h j (by omega)
  simp only[GS]
  by_cases hw:wv (out n).wr x=none
  ·split<;>split<;>simp[hw,ih]
  ·rw[h n (by omega) hw]
   split
   ·simp only[ih]
   ·exact ih
theorem GS_cut{S:Nat→Bool}{x:Nat}{i:Nat}:∀{n:Nat},i≤n→(∀j,i≤j→S j=false)→GS out h0 S n x=GS out h0 S i x
 |n,hi,h=>by
  induction n with
  |zero=>have:i=0:=by omega
         subst this;rfl
  |succ n ih=>
   by_cases he:i=n+1
   ·subst he;rfl
   ·simp only[GS,h n (by omega),Bool.false_eq_true,if_false]
    exact ih (by omega)
theorem GS_some{S:Nat→Bool}{x:Nat}{b:Blk}:∀{n:Nat},GS out h0 S n x=some b→hp h0 x=some b∨∃j,j<n∧S j=true∧wv (out j).wr x=some b
 |0,h=> .inl h
 |n+1,h=>by
  simp only[GS]at h
  split at h
  ·rename_i hS
   cases hw:wv (out n).wr x with
   |some c=>simp only[hw,Option.some_or,Option.some.injEq]at h;subst h;exact .inr ⟨n,by omega,hS,hw⟩
   |none=>
    simp only[hw,Option.none_or]at h
    rcases GS_some (n:=n) h with h|⟨j,h1,h2,h3⟩
    ·exact .inl h
    ·exact .inr ⟨j,by omega,h2,h3⟩
  ·rcases GS_some (n:=n) h with h|⟨j,h1,h2,h3⟩
   ·exact .inl h
   ·exact .inr ⟨j,by omega,h2,h3⟩
theorem GS_base{S:Nat→Bool}{x:Nat}(hx:hp h0 x≠none):∀n,GS out h0 S n x≠none
 |0=>hx
 |n+1=>by
  simp only[GS]
  split
  ·cases hw:wv (out n).wr x with
   |some c=>simp[hw]
   |none=>simpa[hw]using GS_base hx n
  ·exact GS_base hx n
theorem GS_wr{S:Nat→Bool}{x:Nat}{j:Nat}(hS:S j=true)(hw:wv (out j).wr x≠none):∀{n:Nat},j<n→GS out h0 S n x≠none
 |n+1,hj=>by
  simp only[GS]
  by_cases he:j=n
  ·subst he
   rw[if_pos hS]
   cases hc:wv (out j).wr x with
   |some c=>simp
   |none=>exact(hw hc).elim
  ·have:=GS_wr hS hw (n:=n) (by omega)
   split
   ·cases hc:wv (out n).wr x with
    |some c=>simp[hc]
    |none=>simpa[hc]using this
   ·exact this
theorem GS_put{S:Nat→Bool}{i:Nat}{x:Nat}:∀{n:Nat},i<n→(∀j,j<n→i<j→S j=true→wv (out i).wr x≠none→wv (out j).wr x=none)→S i=false→
 GS out h0 (fun j=>if j=i then true else S j) n x=(wv (out i).wr x).or (GS out h0 S n x)
 |n+1,hi,h,hS=>by
  by_cases he:i=n
  ·subst he
   have:GS out h0 (fun j=>if j=i then true else S j) i x=GS out h0 S i x:=GS_congr out h0 fun j hj _=>by simp[Nat.ne_of_lt hj]
   simp only[GS,if_true,hS,Bool.false_eq_true,if_false,this]
  ·have ih:=GS_put (S:=S) (i:=i) (x:=x) (n:=n) (by omega) (fun j hj=>h j (by omega)) hS
   simp only[GS,Ne.symm he,if_false]
   split
   ·rename_i hSn
    simp only[ih]
    cases hc:wv (out i).wr x with
    |none=>simp
    |some c=>
     have:=h n (by omega) (by omega) hSn (by simp[hc])
     simp[this]
   ·exact ih
theorem LS_put{S:Nat→Bool}{i t:Nat}(hd:∀j,j≠i→dst i=some t→dst j≠some t):∀{n:Nat},i<n→S i=false→
 LS out sl0 dst (fun j=>if j=i then true else S j) n t=if dst i=some t then(out i).val else LS out sl0 dst S n t
 |n+1,hi,hS=>by
  by_cases he:i=n
  ·subst he
   have:∀m,m≤i→LS out sl0 dst (fun j=>if j=i then true else S j) m t=LS out sl0 dst S m t:=by
    intro m hm
    induction m with
    |zero=>rfl
    |succ m ih=>simp only[LS,Nat.ne_of_lt (by omega:m<i),if_false,ih (by omega)]
   simp only[LS,if_true,this i (Nat.le_refl _),hS,Bool.false_eq_true,false_and,if_false,true_and]
  ·have ih:=LS_put (S:=S) (i:=i) (t:=t) hd (n:=n) (by omega) hS
   simp only[LS,Ne.symm he,if_false,ih]
   by_cases hdi:dst i=some t
   ·simp only[hdi,if_true]
    rw[if_neg]
    rintro⟨_,h⟩
    exact hd n (Ne.symm he) hdi h
   ·simp only[hdi,if_false]
theorem LS_congr{S S':Nat→Bool}{t:Nat}:∀{n:Nat},(∀j,j<n→dst j=some t→S j=S' j)→LS out sl0 dst S n t=LS out sl0 dst S' n t
 |0,_=>rfl
 |n+1,h=>by
  have ih:=LS_congr (S:=S) (S':=S') (t:=t) (n:=n) fun j hj=>h j (by omega)
  simp only[LS,ih]
  by_cases hd:dst n=some t
  ·rw[h n (by omega) hd]
  ·simp[hd]
theorem LS_cut{S:Nat→Bool}{t:Nat}{i:Nat}:∀{n:Nat},i≤n→(∀j,i≤j→S j=false)→LS out sl0 dst S n t=LS out sl0 dst S i t
 |n,hi,h=>by
  induction n with
  |zero=>have:i=0:=by omega
         subst this;rfl
  |succ n ih=>
   by_cases he:i=n+1
   ·subst he;rfl
   ·simp only[LS,h n (by omega),Bool.false_eq_true,false_and,if_false]
    exact ih (by omega)
end
theorem C.ren_id(c:C):c.ren (fun x=>x)=c:=by cases c<;>simp[C.ren]
theorem A1.ren_id(c:A1):c.ren (fun x=>x)=c:=by cases c<;>simp[A1.ren,C.ren_id,show C.ren (fun x=>x)=id from funext C.ren_id]
theorem AV.ren_id(c:AV):c.ren (fun x=>x)=c:=by cases c<;>simp[AV.ren,A1.ren_id,show A1.ren (fun x=>x)=id from funext A1.ren_id]
theorem Blk.ren_id(c:Blk):c.ren (fun x=>x)=c:=by cases c<;>simp[Blk.ren,A1.ren_id,show C.ren (fun x=>x)=id from funext C.ren_id]
theorem CRep.live{φ F G w c v}(h:CRep φ F G w c v):c.live G:=by
 cases c with
 |own id ep off len cap=>obtain⟨_,_,_,hG,_⟩:=h;simp[C.live,hG]
 |pt id off=>obtain⟨_,_,_,hG,_⟩:=h;simp[C.live,hG]
 |pe id ep row off=>obtain⟨_,_,_,hG,_⟩:=h;simp[C.live,hG]
 |mref id=>obtain⟨_,_,hG,_⟩:=h;simp[C.live,hG]
 |fn f caps=>
  obtain⟨us,_,_,hk⟩:=h
  intro c hc
  obtain⟨j,hj⟩:=List.mem_iff_getElem?.1 hc
  obtain⟨_,_,_,hG,_⟩:=hk j c hj
  simp[hG]
 |_=>trivial
theorem All2.memLeft{α β:Type}{R:α→β→Prop}{l:List α}{m:List β}(h:All2 R l m){a:α}(ha:a∈l):∃b,R a b:=by
 obtain⟨i,hi⟩:=List.mem_iff_getElem?.1 ha
 obtain⟨b,_,hb⟩:=All2.get h hi
 exact⟨b,hb⟩
theorem A1Rep.live{φ F G w c v}(h:A1Rep φ F G w c v):c.live G:=by
 cases c with
 |c x=>exact CRep.live h
 |agg cs=>
  obtain⟨vs,_,h⟩:=h
  intro c hc
  obtain⟨b,hb⟩:=All2.memLeft h hc
  exact hb.live
def AV.live(H:Heap):AV→Prop
 | .one a=>a.live H
 | .tup l=>∀a∈l,a.live H
theorem AVRep.live{φ F G w c v}(h:AVRep φ F G w c v):c.live G:=by
 cases c with
 |one x=>exact A1Rep.live h
 |tup l=>
  obtain⟨vs,_,h⟩:=h
  intro c hc
  obtain⟨b,hb⟩:=All2.memLeft h hc
  exact hb.live
theorem Rel.closed{φ F G w}(h:Rel φ F G w){x blk}(hx:G x=some blk):blk.live G:=by
 have hB:=h.blk x blk hx
 cases blk with
 |box cells=>
  obtain⟨b,cs,T,_,_,h3⟩:=hB
  intro c hc
  obtain⟨v,hv⟩:=All2.memLeft h3 hc
  exact hv.live
 |arr=>trivial
 |map ents=>
  obtain⟨b,es,clock,_,_,_,h3⟩:=hB
  intro c hc
  obtain⟨v,hv⟩:=All2.memLeft h3 hc
  exact hv.2.live
theorem C.live_mono{H H':Heap}(hm:∀x,H x≠none→H' x≠none){c:C}(h:c.live H):c.live H':=by
 cases c with
 |own=>exact hm _ h
 |pt=>exact hm _ h
 |pe=>exact hm _ h
 |mref=>exact hm _ h
 |fn f caps=>exact fun c hc=>hm _ (h c hc)
 |_=>trivial
theorem A1.live_mono{H H':Heap}(hm:∀x,H x≠none→H' x≠none){c:A1}(h:c.live H):c.live H':=by
 cases c with
 |c x=>exact C.live_mono hm h
 |agg cs=>exact fun c hc=>C.live_mono hm (h c hc)
theorem AV.live_mono{H H':Heap}(hm:∀x,H x≠none→H' x≠none){c:AV}(h:c.live H):c.live H':=by
 cases c with
 |one x=>exact A1.live_mono hm h
 |tup cs=>exact fun c hc=>A1.live_mono hm (h c hc)
theorem Blk.live_mono{H H':Heap}(hm:∀x,H x≠none→H' x≠none){c:Blk}(h:c.live H):c.live H':=by
 cases c with
 |box cs=>exact fun c hc=>C.live_mono hm (h c hc)
 |arr=>trivial
 |map ents=>exact fun c hc=>A1.live_mono hm (h c hc)
theorem AVRep.down{H G φ F w}(he:Emb (fun x=>x) H G){c:AV}{v:Value}(hl:c.live H)(h:AVRep φ F G w c v):AVRep (Fw.down (fun x=>x) H φ) F H w c v:=by
 rw[←AV.ren_id c]at h
 cases c with
 |one x=>exact A1Rep.down he hl h
 |tup l=>
  obtain⟨vs,rfl,h⟩:=h
  exact⟨vs,rfl,All2.map_left h fun c hc b hb=>A1Rep.down he (hl c hc) hb⟩
end Go.Fw
namespace Go.Fw
def refC:C→Option Nat
 | .own id _ _ _ _=>some id
 | .pt id _=>some id
 | .pe id _ _ _=>some id
 |_=>none
theorem aparts_mem{slots:List (Nat×AV)}{wr:List (Nat×Blk)}{a:Nat}{c:C}:∀{ts:List Nat},aparts slots wr ts=true→a∈ts→lk slots a=some (.one (.c c))→∀p∈wr,refC c≠some p.1
 |[],_,ha,_=>by cases ha
 |b::ts,h,ha,hc=>by
  simp only[aparts,Bool.and_eq_true]at h
  rcases List.mem_cons.1 ha with rfl|ha
  ·intro p hp
   have h1:=h.1
   rw[hc]at h1
   simp only[apartS]at h1
   cases c<;>simp only[refC,ne_eq,Option.some.injEq,reduceCtorEq,not_false_eq_true]<;>simp only[apartC,List.all_eq_true,bne_iff_ne,ne_eq]at h1<;>exact fun e=>h1 p hp e.symm
  ·exact aparts_mem h.2 ha hc
theorem ev_live{sl:List (Nat×AV)}{E:List (Option Blk)}{x:O}{v:AV}(hx:okO x=true)(hl:∀t∈x.rd,∀av,lk sl t=some av→av.live (hp E))(h:St.ev ⟨sl,E⟩ x=some v):v.live (hp E):=by
 cases x with
 |t n=>exact hl n (by simp[O.rd]) v h
 |f id=>simp[okO]at hx
 |k a=>
  simp only[St.ev,Option.some.injEq]at h
  subst h
  cases a with
  |agg cs=>simp[okO]at hx
  |c c=>cases c<;>first|exact trivial|simp[okO]at hx
theorem ldC_live{n:Option Nat}{cs:List C}{out:Out}{H:Heap}(hc:∀c∈cs,c.live H)(h:ldC n cs (·=out)):out.wr=[]∧∀av,out.val=some av→av.live H:=by
 cases n with
 |none=>
  cases cs with
  |nil=>exact h.elim
  |cons c cs=>cases h;exact⟨rfl,fun av hav=>by cases hav;exact hc c (List.mem_cons_self ..)⟩
 |some n=>obtain⟨_,h⟩:=h;cases h;exact⟨rfl,fun av hav=>by cases hav;exact fun c hc'=>hc c (List.mem_of_mem_take hc')⟩
theorem bin_data{op:BinOp}{x y:Value}{out:Out}(h:binK op x y (retV (·=out))):out.wr=[]∧∀H av,out.val=some av→av.live H:=by
 have key:∀v,retV (·=out) v→out.wr=[]∧∀H av,out.val=some av→av.live H:=fun v hv=>by
  cases hv;exact⟨rfl,fun H av hav=>by cases hav;exact trivial⟩
 unfold binK at h
 split at h
 ·obtain⟨_,h⟩:=h
  cases op<;>first|exact h.elim|exact key _ h|exact key _ h.2
 ·cases op<;>first|exact h.elim|exact key _ h|exact key _ h.2
 ·exact h.elim
theorem retV_data{v:Value}{out:Out}(h:retV (·=out) v):out.wr=[]∧∀H av,out.val=some av→av.live H:=by
 cases h;exact⟨rfl,fun H av hav=>by cases hav;exact trivial⟩
theorem idxO_elim{s:St}{o:Option O}{d:Nat}{K:Nat→Prop}(h:idxO s o d K):∃l,K l:=by
 unfold idxO at h
 split at h
 ·exact⟨_,h⟩
 ·split at h
  ·unfold idx at h
   split at h
   ·exact⟨_,h.2⟩
   ·exact h.elim
  ·exact h.elim
theorem readA_sound{P:Program}{op:AOp}{oa:Option Nat}{sl:List (Nat×AV)}{E E':List (Option Blk)}{out:Out}(hr:readA op=some oa)(h:opA P op ⟨sl,E⟩ (·=out))
 (hE:∀a,oa=some a→∀c,lk sl a=some (.one (.c c))→∀k,refC c=some k→∀blk,hp E k=some blk→hp E' k=some blk)
 (hc:∀x blk,hp E x=some blk→blk.live (hp E)) (hl:∀t∈op.rds,∀av,lk sl t=some av→av.live (hp E)):
 opA P op ⟨sl,E'⟩ (·=out)∧out.wr=[]∧∀av,out.val=some av→av.live (hp E):=by
 have e1:∀x,St.ev ⟨sl,E'⟩ x=St.ev ⟨sl,E⟩ x:=fun x=>by cases x<;>rfl
 have e2:∀x,St.evC ⟨sl,E'⟩ x=St.evC ⟨sl,E⟩ x:=fun x=>by cases x<;>rfl
 have e3:∀x,St.evV ⟨sl,E'⟩ x=St.evV ⟨sl,E⟩ x:=fun x=>by cases x<;>rfl
 have e4:∀(o:Option O) (d:Nat) (K:Nat→Prop),idxO ⟨sl,E'⟩ o d K=idxO ⟨sl,E⟩ o d K:=fun o d K=>by cases o<;>simp only[idxO,e3]
 cases op with
 |mv x=>
  simp only[readA]at hr
  split at hr
  ·rename_i hx
   simp only[opA,op0,e1]at h⊢
   cases hv:St.ev ⟨sl,E⟩ x with
   |none=>rw[hv]at h;exact h.elim
   |some v=>rw[hv]at h;cases h;exact⟨rfl,rfl,fun av hav=>by cases hav;exact ev_live hx hl hv⟩
  ·cases hr
 |ext x i=>
  simp only[readA]at hr
  split at hr
  ·rename_i hx
   simp only[opA,op0,e1]at h⊢
   refine⟨h,?_⟩
   split at h
   ·rename_i l hv
    split at h
    ·rename_i a ha
     cases h
     have:=ev_live hx hl hv
     exact⟨rfl,fun av hav=>by cases hav;exact this a (List.mem_of_getElem? ha)⟩
    ·exact h.elim
   ·exact h.elim
  ·cases hr
 |field off n x=>
  simp only[readA]at hr
  split at hr
  ·rename_i hx
   simp only[opA,op0,e1]at h⊢
   refine⟨h,?_⟩
   split at h
   ·rename_i cs hv
    have:=ev_live hx hl hv
    exact ldC_live (fun c hc=>this c (List.mem_of_mem_drop hc)) h
   ·exact h.elim
  ·cases hr
 |bin op x y=>
  simp only[opA,op0,e3]at h⊢
  refine⟨h,?_⟩
  split at h
  ·have:=bin_data h;exact⟨this.1,this.2 _⟩
  ·exact h.elim
 |not x=>
  simp only[opA,op0,e3]at h⊢
  refine⟨h,?_⟩
  split at h
  ·have:=retV_data h;exact⟨this.1,this.2 _⟩
  ·exact h.elim
 |neg x=>
  simp only[opA,op0,e3]at h⊢
  refine⟨h,?_⟩
  split at h
  ·have:=retV_data h;exact⟨this.1,this.2 _⟩
  ·exact h.elim
 |conv k x=>
  simp only[opA,op0,e3]at h⊢
  refine⟨h,?_⟩
  split at h
  ·have:=retV_data h;exact⟨this.1,this.2 _⟩
  ·exact h.elim
 |max x y=>
  simp only[opA,op0,e3]at h⊢
  refine⟨h,?_⟩
  split at h
  ·have:=retV_data h;exact⟨this.1,this.2 _⟩
  ·exact h.elim
 |min x y=>
  simp only[opA,op0,e3]at h⊢
  refine⟨h,?_⟩
  split at h
  ·have:=retV_data h;exact⟨this.1,this.2 _⟩
  ·exact h.elim
 |slen x=>
  simp only[opA,op0,e3]at h⊢
  refine⟨h,?_⟩
  split at h
  ·have:=retV_data h;exact⟨this.1,this.2 _⟩
  ·exact h.elim
 |beq neg x y=>
  simp only[opA,op0,e3]at h⊢
  refine⟨h,?_⟩
  split at h
  ·have:=retV_data h;exact⟨this.1,this.2 _⟩
  ·exact h.elim
 |load n x=>
  cases x with
  |t a=>
   simp only[readA,Option.some.injEq]at hr
   subst hr
   simp only[opA,op0,e2]at h⊢
   cases hv:St.evC ⟨sl,E⟩ (.t a)with
   |none=>rw[hv]at h;exact h.elim
   |some c=>
    have hv':lk sl a=some (.one (.c c)):=by
     simp only[St.evC,St.ev]at hv
     split at hv
     ·rename_i c' hc';cases hv;exact hc'
     ·cases hv
    have hE':=hE a rfl c hv'
    rw[hv]at h
    cases c with
    |pt id off=>
     simp only at h⊢
     cases hb:hp E id with
     |none=>rw[hb]at h;exact h.elim
     |some b=>
      rw[hb]at h
      rw[hE' id rfl b hb]
      refine⟨h,?_⟩
      cases b with
      |arr=>exact h.elim
      |map=>exact h.elim
      |box cells=>exact ldC_live (fun c hc'=>hc id _ hb c (List.mem_of_mem_drop hc')) h
    |pe id ep row off=>
     simp only at h⊢
     cases hb:hp E id with
     |none=>rw[hb]at h;exact h.elim
     |some b=>
      rw[hb]at h
      rw[hE' id rfl b hb]
      refine⟨h,?_⟩
      cases b with
      |box=>exact h.elim
      |map=>exact h.elim
      |arr e sz rows=>
       obtain⟨_,r,_,h⟩:=h
       exact ldC_live (fun c hc'=>by obtain⟨d,_,rfl⟩:=List.mem_map.1 hc';exact trivial) h
    |fp cells=>exact⟨h,ldC_live (fun c hc'=>by obtain⟨d,_,rfl⟩:=List.mem_map.1 hc';exact trivial) h⟩
    |d x=>exact h.elim
    |own=>exact h.elim
    |fn=>exact h.elim
    |mref=>exact h.elim
  |k v=>cases hr
  |f id=>cases hr
 |fieldA off x=>
  cases x with
  |t a=>
   simp only[readA,Option.some.injEq]at hr
   subst hr
   simp only[opA,op0,e2]at h⊢
   cases hv:St.evC ⟨sl,E⟩ (.t a)with
   |none=>rw[hv]at h;exact h.elim
   |some c=>
    have hv':lk sl a=some (.one (.c c)):=by
     simp only[St.evC,St.ev]at hv
     split at hv
     ·rename_i c' hc';cases hv;exact hc'
     ·cases hv
    have hE':=hE a rfl c hv'
    have hlive:c.live (hp E):=hl a (by simp[AOp.rds,O.rd]) _ hv'
    rw[hv]at h
    cases c with
    |pt id o=>cases h;exact⟨rfl,rfl,fun av hav=>by cases hav;exact hlive⟩
    |pe id ep row o=>
     simp only at h⊢
     cases hb:hp E id with
     |none=>rw[hb]at h;exact h.elim
     |some b=>
      rw[hb]at h
      rw[hE' id rfl b hb]
      refine⟨h,?_⟩
      cases b with
      |box=>exact h.elim
      |map=>exact h.elim
      |arr e sz rows=>obtain⟨_,h⟩:=h;cases h;exact⟨rfl,fun av hav=>by cases hav;exact hlive⟩
    |fp cells=>cases h;exact⟨rfl,rfl,fun av hav=>by cases hav;exact trivial⟩
    |d x=>exact h.elim
    |own=>exact h.elim
    |fn=>exact h.elim
    |mref=>exact h.elim
  |k v=>cases hr
  |f id=>cases hr
 |indexA sz x i=>
  cases x with
  |t a=>
   simp only[readA,Option.some.injEq]at hr
   subst hr
   simp only[opA,op0,e2,e3]at h⊢
   cases hi:St.evV ⟨sl,E⟩ i with
   |none=>rw[hi]at h;exact h.elim
   |some v=>
    rw[hi]at h
    simp only at h⊢
    cases v with
    |int k j=>
     obtain⟨hj,h⟩:=h
     cases hv:St.evC ⟨sl,E⟩ (.t a)with
     |none=>rw[hv]at h;exact h.elim
     |some c=>
      have hv':lk sl a=some (.one (.c c)):=by
       simp only[St.evC,St.ev]at hv
       split at hv
       ·rename_i c' hc';cases hv;exact hc'
       ·cases hv
      have hE':=hE a rfl c hv'
      have hlive:c.live (hp E):=hl a (by simp[AOp.rds,O.rd]) _ hv'
      rw[hv]at h
      refine⟨⟨hj,?_⟩,?_⟩
      ·cases c with
       |own id ep off len cap=>
        obtain⟨h1,h⟩:=h
        refine⟨h1,?_⟩
        cases hb:hp E id with
        |none=>rw[hb]at h;exact h.elim
        |some b=>rw[hb]at h;rw[hE' id rfl b hb];exact h
       |d x=>
        cases x with
        |sl rows=>exact h
        |v u=>exact h.elim
       |pt=>exact h.elim
       |pe=>exact h.elim
       |fp=>exact h.elim
       |fn=>exact h.elim
       |mref=>exact h.elim
      ·cases c with
       |own id ep off len cap=>
        obtain⟨h1,h⟩:=h
        split at h
        ·obtain⟨_,_,_,h⟩:=h;cases h;exact⟨rfl,fun av hav=>by cases hav;exact hlive⟩
        ·exact h.elim
       |d x=>
        cases x with
        |sl rows=>obtain⟨r,_,_,h⟩:=h;cases h;exact⟨rfl,fun av hav=>by cases hav;exact trivial⟩
        |v u=>exact h.elim
       |pt=>exact h.elim
       |pe=>exact h.elim
       |fp=>exact h.elim
       |fn=>exact h.elim
       |mref=>exact h.elim
    |_=>exact h.elim
  |k v=>cases hr
  |f id=>cases hr
 |len x=>
  cases x with
  |t a=>
   simp only[readA,Option.some.injEq]at hr
   subst hr
   simp only[opA,op0,e2]at h⊢
   cases hv:St.evC ⟨sl,E⟩ (.t a)with
   |none=>rw[hv]at h;exact h.elim
   |some c=>
    have hv':lk sl a=some (.one (.c c)):=by
     simp only[St.evC,St.ev]at hv
     split at hv
     ·rename_i c' hc';cases hv;exact hc'
     ·cases hv
    have hE':=hE a rfl c hv'
    rw[hv]at h
    cases c with
    |own id ep off len cap=>
     simp only at h⊢
     cases hb:hp E id with
     |none=>rw[hb]at h;exact h.elim
     |some b=>
      rw[hb]at h
      rw[hE' id rfl b hb]
      refine⟨h,?_⟩
      cases b with
      |box=>exact h.elim
      |map=>exact h.elim
      |arr e sz rows=>obtain⟨_,h⟩:=h;have:=retV_data h;exact⟨this.1,this.2 _⟩
    |d x=>
     cases x with
     |sl rows=>have:=retV_data h;exact⟨h,this.1,this.2 _⟩
     |v u=>
      cases u with
      |slice q m c=>have:=retV_data h;exact⟨h,this.1,this.2 _⟩
      |_=>exact h.elim
    |pt=>exact h.elim
    |pe=>exact h.elim
    |fp=>exact h.elim
    |fn=>exact h.elim
    |mref=>exact h.elim
  |k v=>cases hr
  |f id=>cases hr
 |slice sz x lo hi mx=>
  cases x with
  |t a=>
   cases mx with
   |some mx=>cases hr
   |none=>
    simp only[readA,Option.some.injEq]at hr
    subst hr
    simp only[opA,op0,e2,e4]at h⊢
    cases hv:St.evC ⟨sl,E⟩ (.t a)with
    |none=>rw[hv]at h;exact h.elim
    |some c=>
     have hv':lk sl a=some (.one (.c c)):=by
      simp only[St.evC,St.ev]at hv
      split at hv
      ·rename_i c' hc';cases hv;exact hc'
      ·cases hv
     have hE':=hE a rfl c hv'
     have hlive:c.live (hp E):=hl a (by simp[AOp.rds,O.rd]) _ hv'
     rw[hv]at h
     cases c with
     |own id ep off len cap=>
      simp only at h⊢
      cases hb:hp E id with
      |none=>rw[hb]at h;exact h.elim
      |some b=>
       rw[hb]at h
       rw[hE' id rfl b hb]
       refine⟨h,?_⟩
       cases b with
       |box=>exact h.elim
       |map=>exact h.elim
       |arr e sz' rows=>
        obtain⟨_,_,h⟩:=h
        cases cap with
        |none=>
         obtain⟨x,h⟩:=idxO_elim h
         obtain⟨y,h⟩:=idxO_elim h
         obtain⟨_,_,h⟩:=h
         cases h
         exact⟨rfl,fun av hav=>by cases hav;exact hlive⟩
        |some c=>
         obtain⟨z,h⟩:=idxO_elim h
         obtain⟨x,h⟩:=idxO_elim h
         obtain⟨y,h⟩:=idxO_elim h
         obtain⟨_,_,_,h⟩:=h
         cases h
         exact⟨rfl,fun av hav=>by cases hav;exact hlive⟩
     |d x=>
      cases x with
      |sl rows=>
       refine⟨h,?_⟩
       obtain⟨x,h⟩:=idxO_elim h
       obtain⟨y,h⟩:=idxO_elim h
       obtain⟨_,_,_,h⟩:=h
       cases h
       exact⟨rfl,fun av hav=>by cases hav;exact trivial⟩
      |v u=>
       cases u with
       |slice q m c=>
        cases q with
        |some q=>exact h.elim
        |none=>
         cases m with
         |succ m=>exact h.elim
         |zero=>
          cases c with
          |succ c=>exact h.elim
          |zero=>
           refine⟨h,?_⟩
           obtain⟨_,h⟩:=h
           obtain⟨x,h⟩:=idxO_elim h
           obtain⟨y,h⟩:=idxO_elim h
           obtain⟨_,_,h⟩:=h
           have:=retV_data h
           exact⟨this.1,this.2 _⟩
       |_=>exact h.elim
     |pt=>exact h.elim
     |pe=>exact h.elim
     |fp=>exact h.elim
     |fn=>exact h.elim
     |mref=>exact h.elim
  |k v=>cases mx<;>cases hr
  |f id=>cases mx<;>cases hr
 |_=>cases hr
theorem ldC_wr{n:Option Nat}{cs:List C}{out:Out}(h:ldC n cs (·=out)):out.wr=[]:=by
 cases n with
 |none=>
  cases cs with
  |nil=>exact h.elim
  |cons c cs=>cases h;rfl
 |some n=>obtain⟨_,h⟩:=h;cases h;rfl
theorem readA_wr{P:Program}{op:AOp}{oa:Option Nat}{s:St}{out:Out}(hr:readA op=some oa)(h:opA P op s (·=out)):out.wr=[]:=by
 cases op with
 |mv x=>simp only[opA,op0]at h;split at h;cases h;rfl;exact h.elim
 |ext x i=>simp only[opA,op0]at h;split at h;split at h;cases h;rfl;exact h.elim;exact h.elim
 |field off n x=>simp only[opA,op0]at h;split at h;exact ldC_wr h;exact h.elim
 |bin op x y=>simp only[opA,op0]at h;split at h;exact(bin_data h).1;exact h.elim
 |not x=>simp only[opA,op0]at h;split at h;exact(retV_data h).1;exact h.elim
 |neg x=>simp only[opA,op0]at h;split at h;exact(retV_data h).1;exact h.elim
 |conv k x=>simp only[opA,op0]at h;split at h;exact(retV_data h).1;exact h.elim
 |max x y=>simp only[opA,op0]at h;split at h;exact(retV_data h).1;exact h.elim
 |min x y=>simp only[opA,op0]at h;split at h;exact(retV_data h).1;exact h.elim
 |slen x=>simp only[opA,op0]at h;split at h;exact(retV_data h).1;exact h.elim
 |beq neg x y=>simp only[opA,op0]at h;split at h;exact(retV_data h).1;exact h.elim
 |load n x=>
  simp only[opA,op0]at h
  split at h
  ·split at h
   ·exact ldC_wr h
   ·exact h.elim
  ·split at h
   ·obtain⟨_,_,_,h⟩:=h;exact ldC_wr h
   ·exact h.elim
  ·exact ldC_wr h
  ·exact h.elim
 |fieldA off x=>
  simp only[opA,op0]at h
  split at h
  ·cases h;rfl
  ·split at h
   ·obtain⟨_,h⟩:=h;cases h;rfl
   ·exact h.elim
  ·cases h;rfl
  ·exact h.elim
 |indexA sz x i=>
  simp only[opA,op0]at h
  split at h
  ·rename_i v _
   cases v with
   |int k j=>
    obtain⟨_,h⟩:=h
    split at h
    ·obtain⟨_,_,_,h⟩:=h;cases h;rfl
    ·obtain⟨_,h⟩:=h
     split at h
     ·obtain⟨_,_,_,h⟩:=h;cases h;rfl
     ·exact h.elim
    ·exact h.elim
   |_=>exact h.elim
  ·exact h.elim
 |len x=>
  simp only[opA,op0]at h
  split at h
  ·exact(retV_data h).1
  ·exact(retV_data h).1
  ·split at h
   ·obtain⟨_,h⟩:=h;exact(retV_data h).1
   ·exact h.elim
  ·exact h.elim
 |slice sz x lo hi mx=>
  cases x with
  |t a=>
   cases mx with
   |some mx=>cases hr
   |none=>
    simp only[opA,op0]at h
    split at h
    ·obtain⟨x,h⟩:=idxO_elim h
     obtain⟨y,h⟩:=idxO_elim h
     obtain⟨_,_,_,h⟩:=h
     cases h;rfl
    ·obtain⟨_,h⟩:=h
     obtain⟨x,h⟩:=idxO_elim h
     obtain⟨y,h⟩:=idxO_elim h
     obtain⟨_,_,h⟩:=h
     exact(retV_data h).1
    ·split at h
     ·obtain⟨_,_,h⟩:=h
      split at h
      ·obtain⟨x,h⟩:=idxO_elim h
       obtain⟨y,h⟩:=idxO_elim h
       obtain⟨_,_,h⟩:=h
       cases h;rfl
      ·obtain⟨z,h⟩:=idxO_elim h
       obtain⟨x,h⟩:=idxO_elim h
       obtain⟨y,h⟩:=idxO_elim h
       obtain⟨_,_,_,h⟩:=h
       cases h;rfl
     ·exact h.elim
    ·exact h.elim
  |k v=>cases mx<;>cases hr
  |f id=>cases mx<;>cases hr
 |_=>cases hr
end Go.Fw
namespace Go.Fw
theorem hp_pad(l:List (Option Blk))(k:Nat):hp (l++List.replicate k none)=hp l:=by
 funext x
 simp only[hp]
 rw[List.getElem?_append]
 split
 ·rfl
 ·rename_i h
  rw[List.getElem?_eq_none (by omega:l.length≤x),List.getElem?_replicate]
  split<;>rfl
theorem befW_append(bef:List Nat)(i:Nat)(w:List (Nat×Blk)):∀l,befW bef (l++[(i,w)])=befW bef l++(if bef.contains i then w else [])
 |[]=>by simp only[List.nil_append,befW];split<;>simp
 |(j,u)::l=>by
  simp only[List.cons_append,befW,befW_append bef i w l]
  split<;>simp
theorem allW_append(i:Nat)(w:List (Nat×Blk)):∀l,allW (l++[(i,w)])=allW l++w
 |[]=>by simp[allW]
 |(j,u)::l=>by simp[allW,allW_append i w l]
theorem befW_add(bef:List Nat)(i:Nat)(w:List (Nat×Blk))(l):befW bef (addW i w l)=befW bef l++(if bef.contains i then w else []):=by
 cases w with
 |nil=>simp[addW]
 |cons x w=>exact befW_append bef i _ l
theorem allW_add(i:Nat)(w:List (Nat×Blk))(l):allW (addW i w l)=allW l++w:=by
 cases w with
 |nil=>simp[addW]
 |cons x w=>exact allW_append i _ l
theorem hset_len:∀(l:List (Option Blk)) (i:Nat) (b:Blk),l.length≤(hset l i b).length∧i<(hset l i b).length
 |[],0,b=>by simp[hset]
 |[],n+1,b=>by have:=hset_len [] n b;simp only[hset,List.length_cons];exact⟨by simp,by omega⟩
 |x::l,0,b=>by simp[hset]
 |x::l,n+1,b=>by have:=hset_len l n b;simp only[hset,List.length_cons];omega
theorem wrs_len:∀(w:List (Nat×Blk)) (h:List (Option Blk)),h.length≤(wrs h w).length∧∀p∈w,p.1<(wrs h w).length
 |[],h=>by simp[wrs]
 |(i,b)::r,h=>by
  obtain⟨h1,h2⟩:=wrs_len r (hset h i b)
  have:=hset_len h i b
  simp only[wrs]
  refine⟨by omega,fun p hp=>?_⟩
  rcases List.mem_cons.1 hp with rfl|hp
  ·simp only;omega
  ·exact h2 p hp
def wantedA(slots:List (Nat×AV))(g:Option (Nat×Bool)):Option Bool:=
 match g with
 |none=>some true
 |some (g,want)=>match lk slots g with
  |some (.one (.c (.d (.v (.bool t)))))=>some (t==want)
  |some (.tup [])=>some false
  |_=>none
def StepOk(P:Program)(h0:List (Option Blk))(st:AStep)(slots:List (Nat×AV))(wl:List (Nat×List (Nat×Blk)))(out:Out):Prop:=
 (wantedA slots st.guard=some true∧opA P st.op ⟨slots,envH h0 wl st.bef⟩ (·=out)∧WrOk slots h0 wl st.lone out.wr)∨
 (wantedA slots st.guard=some false∧out=skipOut)
theorem lk_putSlot(slots:List (Nat×AV))(d:Option Nat)(v:Option AV)(t:Nat):lk (putSlot slots d v) t=if d=some t then v else lk slots t:=by
 cases d with
 |none=>simp[putSlot]
 |some d=>
  cases v with
  |some v=>simp[putSlot,lk]
  |none=>
   simp only[putSlot,Option.some.injEq]
   induction slots with
   |nil=>simp[lk]
   |cons x l ih=>
    obtain⟨k,u⟩:=x
    by_cases hk:k=d
    ·subst hk
     rw[List.filter_cons_of_neg (by simp),ih]
     by_cases htk:k=t
     ·simp[htk]
     ·simp[lk,htk]
    ·rw[List.filter_cons_of_pos (by simp[hk])]
     simp only[lk,ih]
     by_cases htk:k=t
     ·subst htk;simp[Ne.symm hk]
     ·simp[htk]
theorem opA_lk{P:Program}{op:AOp}{sl sl':List (Nat×AV)}{E:List (Option Blk)}{K:Out→Prop}(hl:∀t,lk sl t=lk sl' t)(h:opA P op ⟨sl,E⟩ K):opA P op ⟨sl',E⟩ K:=
 opA_agree (s:=⟨sl,E⟩) ⟨rfl,fun t _=>(hl t).symm⟩ h
theorem aparts_lk{sl sl':List (Nat×AV)}{wr:List (Nat×Blk)}(hl:∀t,lk sl t=lk sl' t):∀ts,aparts sl wr ts=aparts sl' wr ts
 |[]=>rfl
 |a::ts=>by simp only[aparts,hl,aparts_lk hl ts]
theorem WrOk_lk{sl sl':List (Nat×AV)}{h:List (Option Blk)}{wl:List (Nat×List (Nat×Blk))}{lone:Lone}{wr:List (Nat×Blk)}(hl:∀t,lk sl t=lk sl' t)(hw:WrOk sl h wl lone wr):WrOk sl' h wl lone wr:=by
 rcases hw with hw|⟨ts,h1,h2⟩|hw
 ·exact .inl hw
 ·exact .inr (.inl ⟨ts,h1,by rw[←aparts_lk hl];exact h2⟩)
 ·exact .inr (.inr hw)
theorem vcD_record{P:Program}{h0:List (Option Blk)}{K:St→Prop}:∀(steps:List AStep) (i:Nat) (slots:List (Nat×AV)) (wl:List (Nat×List (Nat×Blk))),vcD P h0 steps i slots wl K→
 ∃(out:Nat→Out) (T:Nat→List (Nat×AV)) (W:Nat→List (Nat×List (Nat×Blk))),T i=slots∧W i=wl∧
  (∀j st,steps[j]? =some st→StepOk P h0 st (T (i+j)) (W (i+j)) (out (i+j))∧(∀t,lk (T (i+j+1)) t=lk (putSlot (T (i+j)) st.dst (out (i+j)).val) t)∧W (i+j+1)=addW (i+j) (out (i+j)).wr (W (i+j)))∧
  K ⟨T (i+steps.length),wrs h0 (allW (W (i+steps.length)))⟩
 |[],i,slots,wl,h=>⟨fun _=>skipOut,fun _=>slots,fun _=>wl,rfl,rfl,fun j st hj=>by simp at hj,h⟩
 |st::r,i,slots,wl,h=>by
  have glue:∀(o:Out) (sl:List (Nat×AV)),(∀t,lk sl t=lk slots t)→StepOk P h0 st slots wl o→vcD P h0 r (i+1) (putSlot sl st.dst o.val) (addW i o.wr wl) K→
   ∃(out:Nat→Out) (T:Nat→List (Nat×AV)) (W:Nat→List (Nat×List (Nat×Blk))),T i=slots∧W i=wl∧
   (∀j st',(st::r)[j]? =some st'→StepOk P h0 st' (T (i+j)) (W (i+j)) (out (i+j))∧(∀t,lk (T (i+j+1)) t=lk (putSlot (T (i+j)) st'.dst (out (i+j)).val) t)∧W (i+j+1)=addW (i+j) (out (i+j)).wr (W (i+j)))∧
   K ⟨T (i+(st::r).length),wrs h0 (allW (W (i+(st::r).length)))⟩:=by
   intro o sl hsl hok hr
   obtain⟨out,T,W,h1,h2,h3,h4⟩:=vcD_record r (i+1) _ _ hr
   refine⟨fun j=>if j=i then o else out j,fun j=>if j=i then slots else T j,fun j=>if j=i then wl else W j,by simp,by simp,fun j st' hj=>?_,?_⟩
   ·cases j with
    |zero=>
     simp only[List.getElem?_cons_zero,Option.some.injEq]at hj
     subst hj
     simp only[Nat.add_zero,if_true,Nat.add_one_ne_self,if_false]
     exact⟨hok,fun t=>by rw[h1,lk_putSlot,lk_putSlot,hsl],h2⟩
    |succ j=>
     have:=h3 j st' (by simpa using hj)
     rw[show i+1+j=i+(j+1)by omega]at this
     have e1:¬(i+(j+1)=i):=by omega
     have e2:¬(i+(j+1)+1=i):=by omega
     simp only[e1,e2,if_false]
     exact this
   ·simp only[List.length_cons]
    have e1:¬(i+(r.length+1)=i):=by omega
    simp only[e1,if_false]
    rw[show i+(r.length+1)=i+1+r.length by omega]
    exact h4
  simp only[vcD]at h
  split at h
  ·rename_i hg
   obtain⟨out,h1,h2,h3⟩:=op1_det h
   exact glue out slots (fun _=>rfl) (.inl ⟨by simp[wantedA,hg],h1,h2⟩) h3
  ·rename_i g want hg
   split at h
   ·rename_i t ht
    by_cases htw:t=want
    ·subst htw
     obtain⟨out,h1,h2,h3⟩:=op1_det (h.1 rfl)
     exact glue out _ (lk_setB ht) (.inl ⟨by simp[wantedA,hg,ht],opA_lk (lk_setB ht) h1,WrOk_lk (lk_setB ht) h2⟩) h3
    ·have htn:t= !want:=by cases t<;>cases want<;>simp_all
     exact glue skipOut _ (lk_setB (by rw[←htn];exact ht)) (.inr ⟨by simp[wantedA,hg,ht,htw],rfl⟩) (h.2 htn)
   ·rename_i ht
    exact glue skipOut slots (fun _=>rfl) (.inr ⟨by simp[wantedA,hg,ht],rfl⟩) h
   ·exact h.elim
def AStep.rds(st:AStep):List Nat:=st.op.rds++(match st.guard with|some (g,_)=>[g]|none=>[])
structure DrawOk(P:Program)(n:Nat)(ops:Array Oper)(steps:List AStep):Prop where
 len:steps.length=ops.size
 step:∀(i:Nat) o,ops[i]? =some o→∃st,steps[i]? =some st∧(∀d,o.dst=some d→d<n)∧cOp P o.op=some st.op∧st.dst=o.dst∧
  (match o.guard with|none=>st.guard=none|some (g,want)=>∃d,(ops[g]?).bind (·.dst)=some d∧d<n∧st.guard=some (d,want))
 lone:∀(i:Nat) st,steps[i]? =some st→∀ts,st.lone= .lone ts→∀(j:Nat) st',steps[j]? =some st'→j≠i→j∈st.bef∨i∈st'.bef∨
  (j<i∧∃oa,readA st'.op=some oa∧∀a,oa=some a→a∈ts∧∀(k:Nat) stk,j≤k→k<i→steps[k]? =some stk→stk.dst≠some a)
 own:∀(i:Nat) st,steps[i]? =some st→∀cs,st.lone= .new cs→∀c∈cs,c∈st.bef∧∀(k:Nat) st',steps[k]? =some st'→k≠i→k∈st.bef∨i∈st'.bef∨c∉st'.bef
 edge:∀(i:Nat) o st,ops[i]? =some o→steps[i]? =some st→(∀e∈o.after,Region.binds .any e=true→e.on∈st.bef)∧
  (∀j∈st.bef,∃e∈o.after,Region.binds .any e=true∧(j=e.on∨∃st',steps[e.on]? =some st'∧j∈st'.bef))
 trans:∀(i:Nat) st,steps[i]? =some st→∀j∈st.bef,j<i∧∃st',steps[j]? =some st'∧∀k∈st'.bef,k∈st.bef
 read:∀(i:Nat) st,steps[i]? =some st→∀t∈st.rds,∀(k:Nat) st',steps[k]? =some st'→k≠i→st'.dst=some t→k∈st.bef∨i∈st'.bef
 dst:∀(i k:Nat) st st' t,steps[i]? =some st→steps[k]? =some st'→i≠k→st.dst=some t→st'.dst≠some t
end Go.Fw
namespace Go.Fw
theorem hp_lt{l:List (Option Blk)}{x:Nat}(h:hp l x≠none):x<l.length:=by
 by_cases hx:x<l.length
 ·exact hx
 ·exact(h (by simp[hp,List.getElem?_eq_none (by omega:l.length≤x)])).elim
theorem LS_some{out:Nat→Out}{sl0:List (Nat×AV)}{dst:Nat→Option Nat}{S:Nat→Bool}{t:Nat}{av:AV}:∀{n:Nat},LS out sl0 dst S n t=some av→
 lk sl0 t=some av∨∃j,j<n∧S j=true∧dst j=some t∧(out j).val=some av
 |0,h=> .inl h
 |n+1,h=>by
  simp only[LS]at h
  split at h
  ·rename_i hc;exact .inr ⟨n,by omega,hc.1,hc.2,h⟩
  ·rcases LS_some (n:=n) h with h|⟨j,h1,h2⟩
   ·exact .inl h
   ·exact .inr ⟨j,by omega,h2⟩
def restr(slots:List (Nat×AV))(ts:List Nat):List (Nat×AV):=ts.filterMap fun t=>(lk slots t).map fun v=>(t,v)
theorem lk_restr(slots:List (Nat×AV)):∀(ts:List Nat) (t:Nat),lk (restr slots ts) t=if t∈ts then lk slots t else none
 |[],t=>by simp[restr,lk]
 |u::ts,t=>by
  have ih:=lk_restr slots ts t
  unfold restr at ih⊢
  simp only[List.filterMap_cons]
  cases hu:lk slots u with
  |none=>
   simp only[Option.map_none,ih,List.mem_cons]
   by_cases htu:t=u
   ·subst htu;simp[hu]
   ·simp[htu]
  |some v=>
   simp only[Option.map_some,lk,ih,List.mem_cons]
   by_cases htu:u=t
   ·subst htu;simp[hu]
   ·simp[htu,Ne.symm htu]
theorem mem_ready{ops:Array Oper}{listed:Array Bool}{i:Nat}:i∈Region.ready .any ops listed↔i<ops.size∧listed.getD i true=false∧∃o,ops[i]? =some o∧∀e∈o.after,Region.binds .any e=true→listed.getD e.on false=true:=by
 unfold Region.ready
 simp only[List.mem_filter,List.mem_range,Bool.and_eq_true,Bool.not_eq_true']
 constructor
 ·rintro⟨h1,h2,h3⟩
  refine⟨h1,h2,?_⟩
  cases ho:ops[i]? with
  |none=>rw[ho]at h3;simp at h3
  |some o=>
   rw[ho]at h3
   simp only[Option.map_some,Option.getD_some,Array.all_eq_true']at h3
   refine⟨o,rfl,fun e he hb=>?_⟩
   have:=h3 e he
   simpa[hb]using this
 ·rintro⟨h1,h2,o,ho,h3⟩
  refine⟨h1,h2,?_⟩
  rw[ho]
  simp only[Option.map_some,Option.getD_some,Array.all_eq_true']
  intro e he
  cases hb:Region.binds .any e with
  |false=>simp
  |true=>simpa using h3 e he hb
theorem GS_list(out:Nat→Out)(h:List (Option Blk))(S:Nat→Bool):∀n,∃L:List (Option Blk),hp L=GS out h S n
 |0=>⟨h,by funext x;rfl⟩
 |n+1=>by
  obtain⟨L,hL⟩:=GS_list out h S n
  by_cases hs:S n=true
  ·refine⟨wrs L (out n).wr,?_⟩
   funext x
   rw[hp_wrs,hL]
   simp[GS,hs]
  ·exact⟨L,by funext x;rw[hL];simp[GS,hs]⟩
section
variable {P:Program} {n m:Nat} {ops:Array Oper} {steps:List AStep}
def befF(steps:List AStep)(i:Nat):Nat→Bool:=fun j=>((steps[i]?).map (·.bef.contains j)).getD false
def dstF(steps:List AStep)(i:Nat):Option Nat:=(steps[i]?).bind (·.dst)
theorem region_draw_sound(hd:DrawOk P n ops steps){s0:St}{K:St→Prop}(hv:vcD P s0.heap steps 0 s0.slots [] K)
 {φ0 F0 a0 w0} (h0:SRel n φ0 F0 s0 a0 w0) {Q:Exit→Act→World→Prop} (hQ:∀a' w',Post n m φ0 F0 s0 w0 K a' w'→Q .normal a' w'):
 wpAny P .any ops Q ops.size (Array.replicate ops.size false) a0 w0:=by
 obtain⟨out,T,W,hT0,hW0,hrec,hK⟩:=vcD_record steps 0 s0.slots [] hv
 simp only[Nat.zero_add]at hrec hK
 let h:=s0.heap
 let dst:=dstF steps
 have hN:steps.length=ops.size:=hd.len
 have hTL:∀i,i≤steps.length→∀t,lk (T i) t=LS out s0.slots dst (fun _=>true) i t:=by
  intro i
  induction i with
  |zero=>intro _ t;rw[hT0];rfl
  |succ i ih=>
   intro hi t
   obtain⟨st,hst⟩:∃st,steps[i]? =some st:=⟨_,List.getElem?_eq_getElem (by omega)⟩
   rw[(hrec i st hst).2.1 t,lk_putSlot]
   simp only[LS,true_and]
   have hdi:dst i=st.dst:=by simp[dst,dstF,hst]
   rw[hdi,ih (by omega) t]
 have hWL:∀i,i≤steps.length→∀bef x,hp (wrs h (befW bef (W i))) x=GS out h (fun j=>bef.contains j) i x:=by
  intro i
  induction i with
  |zero=>intro _ bef x;rw[hW0];rfl
  |succ i ih=>
   intro hi bef x
   obtain⟨st,hst⟩:∃st,steps[i]? =some st:=⟨_,List.getElem?_eq_getElem (by omega)⟩
   rw[(hrec i st hst).2.2,befW_add,hp_wrs,wv_append]
   simp only[GS]
   have:=ih (by omega) bef x
   rw[hp_wrs]at this
   by_cases hc:bef.contains i=true
   ·simp only[hc,if_true]
    rw[←this]
    cases wv (out i).wr x<;>simp
   ·simp only[hc,Bool.false_eq_true,if_false]
    rw[←this];simp[wv]
 have hWA:∀i,i≤steps.length→∀x,hp (wrs h (allW (W i))) x=GS out h (fun _=>true) i x:=by
  intro i
  induction i with
  |zero=>intro _ x;rw[hW0];rfl
  |succ i ih=>
   intro hi x
   obtain⟨st,hst⟩:∃st,steps[i]? =some st:=⟨_,List.getElem?_eq_getElem (by omega)⟩
   rw[(hrec i st hst).2.2,allW_add,hp_wrs,wv_append]
   simp only[GS,if_true]
   have:=ih (by omega) x
   rw[hp_wrs]at this
   rw[←this]
   cases wv (out i).wr x<;>simp
 have hEnv:∀i,i≤steps.length→∀bef,hp (envH h (W i) bef)=GS out h (fun j=>bef.contains j) i:=by
  intro i hi bef
  funext x
  rw[←hWL i hi bef x]
  unfold envH
  split
  ·rename_i he;rw[he];rfl
  ·rw[hp_wrs,hp_wrs,hp_pad]
 let nx:Nat→Nat:=fun i=>(wrs h (allW (W i))).length
 have hnx1:∀i,h.length≤nx i:=fun i=>(wrs_len _ _).1
 have hnx2:∀i,i≤steps.length→∀j,j<i→∀p∈(out j).wr,p.1<nx i:=by
  intro i
  induction i with
  |zero=>intro _ j hj;omega
  |succ i ih=>
   intro hi j hj p hp'
   obtain⟨st,hst⟩:∃st,steps[i]? =some st:=⟨_,List.getElem?_eq_getElem (by omega)⟩
   show p.1<(wrs h (allW (W (i+1)))).length
   rw[(hrec i st hst).2.2,allW_add]
   refine(wrs_len _ _).2 p ?_
   rw[List.mem_append]
   by_cases hji:j=i
   ·subst hji;exact .inr hp'
   ·left
    have:∀i,i≤steps.length→j<i→p∈allW (W i):=by
     intro i
     induction i with
     |zero=>intro _ hj;omega
     |succ i ih2=>
      intro hi hj2
      obtain⟨st,hst⟩:∃st,steps[i]? =some st:=⟨_,List.getElem?_eq_getElem (by omega)⟩
      rw[(hrec i st hst).2.2,allW_add,List.mem_append]
      by_cases hji:j=i
      ·subst hji;exact .inr hp'
      ·exact .inl (ih2 (by omega) (by omega))
    exact this i (by omega) (by omega)
 have hWmem:∀i,i≤steps.length→∀j,j<i→(out j).wr≠[]→(j,(out j).wr)∈W i:=by
  intro i
  induction i with
  |zero=>intro _ j hj;omega
  |succ i ih=>
   intro hi j hj hw
   obtain⟨st,hst⟩:∃st,steps[i]? =some st:=⟨_,List.getElem?_eq_getElem (by omega)⟩
   rw[(hrec i st hst).2.2]
   by_cases hji:j=i
   ·subst hji
    cases hc:(out j).wr with
    |nil=>exact(hw hc).elim
    |cons x l=>simp[addW]
   ·have:=ih (by omega) j (by omega) hw
    cases hc:(out i).wr with
    |nil=>exact this
    |cons x l=>exact List.mem_append_left _ this
 have hcond:∀i st,steps[i]? =some st→(∃ts,st.lone= .lone ts∧aparts (T i) (out i).wr ts=true)∨
  ∃own,(st.lone= .new own∨own=[])∧∀p∈(out i).wr,nx i≤p.1∨(h.length≤p.1∧∀j,j<i→wv (out j).wr p.1≠none→j∈own):=by
  intro i st hst
  have hil:=(List.getElem?_eq_some_iff.1 hst).1
  rcases(hrec i st hst).1 with⟨_,_,g|g|⟨own,ho,g⟩⟩|⟨_,g⟩
  ·right;refine⟨[],.inr rfl,?_⟩;rw[g];intro p hp';cases hp'
  ·exact .inl g
  ·right;refine⟨own,ho,fun p hp'=>?_⟩
   rcases g p hp' with g|g
   ·exact .inl g
   ·right
    simp only[ownW,Bool.and_eq_true,Nat.ble_eq,List.all_eq_true]at g
    refine⟨g.1,fun j hj hw=>?_⟩
    obtain⟨q,hq1,hq2⟩:=wv_mem hw
    have g2:=g.2 _ (hWmem i (by omega) j hj (by intro he;rw[he]at hq1;cases hq1))
    rw[Bool.or_eq_true]at g2
    rcases g2 with g2|g2
    ·exfalso
     simp only[Bool.not_eq_true',List.any_eq_false]at g2
     exact g2 q hq1 (by simp[hq2])
    ·simpa using g2
  ·right;refine⟨[],.inr rfl,?_⟩;rw[g];intro p hp';cases hp'
 have rd_wr:∀i st oa,steps[i]? =some st→readA st.op=some oa→(out i).wr=[]:=by
  intro i st oa hst hr
  rcases(hrec i st hst).1 with⟨_,h1,_⟩|⟨_,h1⟩
  ·exact readA_wr hr h1
  ·rw[h1];rfl
 have T_same:∀a i n,i+n≤steps.length→(∀(k:Nat) stk,i≤k→k<i+n→steps[k]? =some stk→stk.dst≠some a)→lk (T (i+n)) a=lk (T i) a:=by
  intro a i n
  induction n with
  |zero=>intro _ _;rfl
  |succ n ih=>
   intro hle hk
   obtain⟨st,hst⟩:∃st,steps[i+n]? =some st:=⟨_,List.getElem?_eq_getElem (by omega)⟩
   show lk (T (i+n+1)) a=_
   rw[(hrec (i+n) st hst).2.1 a,lk_putSlot,if_neg (hk (i+n) st (by omega) (by omega) hst)]
   exact ih (by omega) fun k stk h1 h2=>hk k stk h1 (by omega)
 have bef_st:∀i st,steps[i]? =some st→∀j,befF steps i j=st.bef.contains j:=by intro i st hst j;simp[befF,hst]
 have bef_lt:∀i j,befF steps i j=true→j<i∧j<steps.length∧∀k,befF steps j k=true→befF steps i k=true:=by
  intro i j hj
  cases hst:steps[i]? with
  |none=>simp[befF,hst]at hj
  |some st=>
   rw[bef_st i st hst]at hj
   obtain⟨h1,st',hst',h2⟩:=hd.trans i st hst j (by simpa using hj)
   refine⟨h1,(List.getElem?_eq_some_iff.1 hst').1,fun k hk=>?_⟩
   rw[bef_st j st' hst']at hk
   rw[bef_st i st hst]
   simpa using h2 k (by simpa using hk)
 have clash:∀i j x,i<steps.length→j<steps.length→i≠j→wv (out i).wr x≠none→wv (out j).wr x≠none→befF steps j i=true∨befF steps i j=true:=by
  have key:∀i j x,i<j→j<steps.length→wv (out i).wr x≠none→wv (out j).wr x≠none→befF steps j i=true:=by
   intro i j x hij hj hi' hj'
   obtain⟨p,hp1,rfl⟩:=wv_mem hi'
   obtain⟨q,hq1,hq2⟩:=wv_mem hj'
   have h1:=hnx2 j (by omega) i hij p hp1
   obtain⟨st,hst⟩:∃st,steps[j]? =some st:=⟨_,List.getElem?_eq_getElem hj⟩
   obtain⟨sti,hsti⟩:∃st,steps[i]? =some st:=⟨_,List.getElem?_eq_getElem (by omega)⟩
   rcases hcond j st hst with⟨ts,hl,_⟩|hl
   ·rcases hd.lone j st hst ts hl i sti hsti (by omega)with h2|h2|⟨_,oa,h2,_⟩
    ·rw[bef_st j st hst];simpa using h2
    ·have:=(hd.trans i sti hsti j h2).1;omega
    ·rw[rd_wr i sti oa hsti h2]at hp1;cases hp1
   ·obtain⟨own,ho,hl⟩:=hl
    rcases hl q hq1 with h2|⟨_,h2⟩
    ·omega
    ·have h3:=h2 i hij (by rw[hq2];exact hi')
     rcases ho with ho|ho
     ·have h4:=(hd.own j st hst own ho i h3).1
      rw[bef_st j st hst];simpa using h4
     ·rw[ho]at h3;cases h3
  intro i j x hi hj hne h1 h2
  rcases Nat.lt_or_gt_of_ne hne with hlt|hgt
  ·exact .inl (key i j x hlt hj h1 h2)
  ·exact .inr (key j i x hgt hi h2 h1)
 have old_write:∀i j x st,steps[i]? =some st→j<steps.length→i≠j→wv (out j).wr x≠none→x<nx j→befF steps j i=true∨befF steps i j=true∨
  (∃oa,readA st.op=some oa∧∀a,oa=some a→∀c,lk (T i) a=some (.one (.c c))→refC c≠some x)∨GS out h (befF steps i) i x=none:=by
  intro i j x sti hsti hj hne hw hx
  have hw0:=hw
  obtain⟨p,hp1,rfl⟩:=wv_mem hw
  obtain⟨st,hst⟩:∃st,steps[j]? =some st:=⟨_,List.getElem?_eq_getElem hj⟩
  rcases hcond j st hst with⟨ts,hl,hap⟩|hl
  ·rcases hd.lone j st hst ts hl i sti hsti hne with h2|h2|⟨hij,oa,h2,h3⟩
   ·left;rw[bef_st j st hst];simpa using h2
   ·right;left;rw[bef_st i sti hsti];simpa using h2
   ·right;right;left
    refine⟨oa,h2,fun a ha c hc=>?_⟩
    obtain⟨h4,h5⟩:=h3 a ha
    have e:=T_same a i (j-i) (by omega) fun k stk g1 g2 g3=>h5 k stk g1 (by omega) g3
    rw[show i+(j-i)=j by omega]at e
    exact aparts_mem hap h4 (by rw[e];exact hc) p hp1
  ·obtain⟨own,ho,hl⟩:=hl
   rcases hl p hp1 with h2|⟨h2,h3⟩
   ·omega
   ·by_cases hij:befF steps i j=true
    ·exact .inr (.inl hij)
    by_cases hji:befF steps j i=true
    ·exact .inl hji
    refine .inr (.inr (.inr ?_))
    cases hg:GS out h (befF steps i) i p.1 with
    |none=>rfl
    |some blk=>
     exfalso
     rcases GS_some out h hg with h4|⟨c,h4,h5,h6⟩
     ·have:=hp_lt (l:=h) (x:=p.1) (by rw[h4];simp);omega
     ·have hcj:c≠j:=by intro he;subst he;exact hij h5
      have hcl:=(bef_lt i c h5).2.1
      rcases clash c j p.1 hcl hj hcj (by rw[h6];simp) hw0 with h7|h7
      ·have hc2:=h3 c (bef_lt j c h7).1 (by rw[h6];simp)
       rcases ho with ho|ho
       ·rcases(hd.own j st hst own ho c hc2).2 i sti hsti hne with h8|h8|h8
        ·exact hji (by rw[bef_st j st hst];simpa using h8)
        ·exact hij (by rw[bef_st i sti hsti];simpa using h8)
        ·rw[bef_st i sti hsti]at h5;exact h8 (by simpa using h5)
       ·rw[ho]at hc2;cases hc2
      ·exact hij ((bef_lt i c h5).2.2 j h7)
 let G:(Nat→Bool)→Heap:=fun S=>GS out h S steps.length
 let HJ:Nat→Heap:=fun j=>fun x=>(wv (out j).wr x).or (GS out h (befF steps j) j x)
 have main:∀(fuel:Nat) (listed:Array Bool) (a:Act) (w:World),listed.size=ops.size→listed.toList.count false≤fuel→
  (∃φ F,a.tmps.size=n∧a.defers=[]∧Rel φ F (G fun j=>listed.getD j false) w∧
    (∀t av,LS out s0.slots dst (fun j=>listed.getD j false) steps.length t=some av→AVRep φ F (G fun j=>listed.getD j false) w av (a.tmps.getD t undef))∧
    Fr φ0 F0 w0 φ F w∧StpM m φ0 F0 (hp s0.heap) w0 φ F (G fun j=>listed.getD j false) w)→
  (∀j,listed.getD j false=true→∀k,befF steps j k=true→listed.getD k false=true)→
  (∀j,listed.getD j false=true→(∀x blk,HJ j x=some blk→blk.live (HJ j))∧∀av,(out j).val=some av→av.live (HJ j))→
  wpAny P .any ops Q fuel listed a w:=by
  have done:∀(listed:Array Bool) (a:Act) (w:World),listed.size=ops.size→(∀j,j<ops.size→listed.getD j false=true)→
   (∃φ F,a.tmps.size=n∧a.defers=[]∧Rel φ F (G fun j=>listed.getD j false) w∧
     (∀t av,LS out s0.slots dst (fun j=>listed.getD j false) steps.length t=some av→AVRep φ F (G fun j=>listed.getD j false) w av (a.tmps.getD t undef))∧
     Fr φ0 F0 w0 φ F w∧StpM m φ0 F0 (hp s0.heap) w0 φ F (G fun j=>listed.getD j false) w)→Q .normal a w:=by
   rintro listed a w hsz hall ⟨φ,F,h1,h2,h3,h4,h5,h6⟩
   have hG:(G fun j=>listed.getD j false)=hp (wrs h (allW (W steps.length))):=by
    funext x
    rw[hWA _ (Nat.le_refl _)]
    exact GS_congr out h fun j hj _=>hall j (by omega)
   have hL:∀t,LS out s0.slots dst (fun j=>listed.getD j false) steps.length t=lk (T steps.length) t:=by
    intro t
    rw[hTL _ (Nat.le_refl _)]
    exact LS_congr out s0.slots dst fun j hj _=>hall j (by omega)
   rw[hG]at h3 h4 h6
   exact hQ a w ⟨_,φ,F,hK,⟨h1,h2,h3,fun t av ht=>h4 t av (by rw[hL];exact ht)⟩,h5,h6⟩
  have notReady:∀(listed:Array Bool),listed.size=ops.size→Region.ready .any ops listed=[]→∀j,j<ops.size→listed.getD j false=true:=by
   intro listed hsz hr j
   induction j using Nat.strongRecOn with
   |_ j ih=>
    intro hj
    by_cases hl:listed.getD j false=true
    ·exact hl
    exfalso
    have:j∈Region.ready .any ops listed:=by
     rw[mem_ready]
     refine⟨hj,?_,ops[j],Array.getElem?_eq_getElem hj,fun e he hb=>?_⟩
     ·simp only[Array.getD,hsz,hj,dif_pos]at hl⊢;simpa using hl
     ·obtain⟨st,hst⟩:∃st,steps[j]? =some st:=⟨_,List.getElem?_eq_getElem (by omega)⟩
      have h1:=(hd.edge j _ st (Array.getElem?_eq_getElem hj) hst).1 e he hb
      obtain⟨h2,st',hst',_⟩:=hd.trans j st hst _ h1
      have h3:=(List.getElem?_eq_some_iff.1 hst').1
      exact ih _ h2 (by omega)
    rw[hr]at this;cases this
  intro fuel
  induction fuel with
  |zero=>
   intro listed a w hsz hcnt hinv _ _
   have hall:∀j,j<ops.size→listed.getD j false=true:=by
    intro j hj
    have hc:listed.toList.count false=0:=by omega
    rw[List.count_eq_zero]at hc
    simp only[Array.getD,hsz,hj,dif_pos]
    show listed[j]'(by omega)=true
    cases hv:listed[j]'(by omega)with
    |true=>rfl
    |false=>exact(hc (by rw[←hv];simp)).elim
   refine⟨?_,done listed a w hsz hall hinv⟩
   rw[List.eq_nil_iff_forall_not_mem]
   intro i hi
   obtain⟨h1,h2,_⟩:=mem_ready.1 hi
   have:=hall i h1
   simp only[Array.getD,hsz,h1,dif_pos]at h2 this
   rw[h2]at this;cases this
  |succ fuel ih=>
   intro listed a w hsz hcnt hinv hclo hliv
   refine⟨fun hr=>done listed a w hsz (notReady listed hsz hr) hinv,fun i hi=>?_⟩
   obtain⟨hi1,hi2,o,ho,hedge⟩:=mem_ready.1 hi
   obtain⟨φ,F,g1,g2,g3,g4,g5,g6⟩:=hinv
   have hSi:listed.getD i false=false:=by simp only[Array.getD,hsz,hi1,dif_pos]at hi2⊢;exact hi2
   obtain⟨st,hst,hdn,hop,hdst,hguard⟩:=hd.step i o ho
   have hiN:i<steps.length:=by omega
   have hbefS:∀k,befF steps i k=true→listed.getD k false=true:=by
    intro k hk
    rw[bef_st i st hst]at hk
    obtain⟨e,he,hb,h1⟩:=(hd.edge i o st ho hst).2 k (by simpa using hk)
    have hl:=hedge e he hb
    rcases h1 with rfl|⟨st',hst',hk'⟩
    ·exact hl
    ·exact hclo e.on hl k (by rw[bef_st _ st' hst'];simpa using hk')
   have hbi:∀j,i≤j→befF steps i j=false:=by
    intro j hj
    cases hb:befF steps i j with
    |false=>rfl
    |true=>have:=(bef_lt i j hb).1;omega
   let E:=envH h (W i) st.bef
   have hE:hp E=GS out h (befF steps i) i:=by
    show hp (envH h (W i) st.bef)=_
    rw[hEnv i (by omega) st.bef]
    congr 1
    funext j;rw[bef_st i st hst]
   have env_sub':∀x blk,hp E x=some blk→(∀j,j<steps.length→i≠j→wv (out j).wr x≠none→x<nx j→befF steps j i=true∨befF steps i j=true)→G (fun j=>listed.getD j false) x=some blk:=by
    intro x blk hx hok
    rw[hE]at hx
    have hx':GS out h (befF steps i) steps.length x=some blk:=by rw[GS_cut out h (by omega:i≤steps.length) hbi];exact hx
    rw[←hx']
    refine(GS_congr out h fun j hj hw=>?_).symm
    cases hb:befF steps i j with
    |true=>exact(hbefS j hb).symm
    |false=>
     cases hS:listed.getD j false with
     |false=>rfl
     |true=>
      exfalso
      have hji:i≠j:=by intro he;subst he;rw[hSi]at hS;cases hS
      by_cases hxn:x<nx j
      ·rcases hok j hj hji hw hxn with h1|h1
       ·have:=hclo j hS i h1;rw[hSi]at this;cases this
       ·rw[h1]at hb;cases hb
      ·rcases GS_some out h hx with h1|⟨j2,h1,h2,h3⟩
       ·have:=hp_lt (l:=h) (x:=x) (by rw[h1];simp);have:=hnx1 j;omega
       ·have hne:j≠j2:=by intro he;subst he;rw[h2]at hb;cases hb
        rcases clash j j2 x hj (by omega) hne hw (by rw[h3];simp)with h4|h4
        ·have:=(bef_lt i j2 h2).2.2 j h4;rw[this]at hb;cases hb
        ·obtain⟨p,hp1,rfl⟩:=wv_mem (l:=(out j2).wr) (x:=x) (by rw[h3];simp)
         have:=hnx2 j (by omega) j2 (bef_lt j j2 h4).1 p hp1
         omega
   have env_sub:readA st.op=none→∀x blk,hp E x=some blk→G (fun j=>listed.getD j false) x=some blk:=by
    intro hnr x blk hx
    refine env_sub' x blk hx fun j hj hji hw hxn=>?_
    rcases old_write i j x st hst hj hji hw hxn with h1|h1|⟨oa,h1,_⟩|h1
    ·exact .inl h1
    ·exact .inr h1
    ·rw[hnr]at h1;cases h1
    ·rw[hE,h1]at hx;cases hx
   have dom_base:∀x,hp h x≠none→hp E x≠none:=fun x hx=>by rw[hE];exact GS_base out h hx i
   have dom_HJ:∀j,befF steps i j=true→∀x,HJ j x≠none→hp E x≠none:=by
    intro j hj x hx
    rw[hE]
    have hji:=(bef_lt i j hj).1
    cases hw:wv (out j).wr x with
    |some b=>exact GS_wr out h hj (by rw[hw];simp) hji
    |none=>
     simp only[HJ,hw,Option.none_or]at hx
     cases hg:GS out h (befF steps j) j x with
     |none=>exact(hx hg).elim
     |some b=>
      rcases GS_some out h hg with h1|⟨j2,h1,h2,h3⟩
      ·exact GS_base out h (by rw[h1];simp) i
      ·exact GS_wr out h ((bef_lt i j hj).2.2 j2 h2) (by rw[h3];simp) (by omega)
   have hcl0:∀x blk,hp h x=some blk→blk.live (hp h):=fun x blk hx=>h0.rel.closed hx
   have hclE:∀x blk,hp E x=some blk→blk.live (hp E):=by
    intro x blk hx
    have hx2:=hx
    rw[hE]at hx2
    rcases GS_some out h hx2 with h1|⟨j,h1,h2,h3⟩
    ·exact Blk.live_mono dom_base (hcl0 x blk h1)
    ·exact Blk.live_mono (dom_HJ j h2) ((hliv j (hbefS j h2)).1 x blk (by simp[HJ,h3]))
   have emb:readA st.op=none→Emb (fun x=>x) (hp E) (G fun j=>listed.getD j false):=fun hnr=>
    ⟨fun k blk hk=>by rw[Blk.ren_id];exact env_sub hnr k blk hk,fun i j _ _ he=>he,hclE⟩
   have hslot:∀t∈st.rds,lk (T i) t=LS out s0.slots dst (fun j=>listed.getD j false) steps.length t:=by
    intro t ht
    rw[hTL i (by omega)]
    have e1:LS out s0.slots dst (fun _=>true) i t=LS out s0.slots dst (fun j=>decide (j<i)) i t:=LS_congr out s0.slots dst fun j hj _=>by simp[hj]
    have e2:LS out s0.slots dst (fun j=>decide (j<i)) steps.length t=LS out s0.slots dst (fun j=>decide (j<i)) i t:=LS_cut out s0.slots dst (by omega) fun j hj=>by simp;omega
    rw[e1,←e2]
    refine LS_congr out s0.slots dst fun j hj hdj=>?_
    obtain⟨stj,hstj⟩:∃st,steps[j]? =some st:=⟨_,List.getElem?_eq_getElem hj⟩
    have hdj':stj.dst=some t:=by have:=hdj;simp[dst,dstF,hstj]at this;exact this
    by_cases hji:j=i
    ·subst hji;rw[hSi];simp
    ·rcases hd.read i st hst t ht j stj hstj hji hdj' with h1|h1
     ·have h2:befF steps i j=true:=by rw[bef_st i st hst];simpa using h1
      rw[hbefS j h2];simpa using(bef_lt i j h2).1
     ·have h2:befF steps j i=true:=by rw[bef_st j stj hstj];simpa using h1
      have h3:=(bef_lt j i h2).1
      cases hS:listed.getD j false with
      |false=>simp;omega
      |true=>have:=hclo j hS i h2;rw[hSi]at this;cases this
   have hslive:∀t∈st.rds,∀av,lk (T i) t=some av→av.live (hp E):=by
    intro t ht av hav
    rw[hslot t ht]at hav
    rcases LS_some hav with h1|⟨j,h1,h2,h3,h4⟩
    ·exact AV.live_mono dom_base (h0.slot t av h1).live
    ·obtain⟨stj,hstj⟩:∃st,steps[j]? =some st:=⟨_,List.getElem?_eq_getElem h1⟩
     have hdj':stj.dst=some t:=by have:=h3;simp[dst,dstF,hstj]at this;exact this
     have hji:j≠i:=by intro he;subst he;rw[hSi]at h2;cases h2
     rcases hd.read i st hst t ht j stj hstj hji hdj' with h5|h5
     ·have h6:befF steps i j=true:=by rw[bef_st i st hst];simpa using h5
      exact AV.live_mono (dom_HJ j h6) ((hliv j h2).2 av h4)
     ·have h6:befF steps j i=true:=by rw[bef_st j stj hstj];simpa using h5
      have:=hclo j h2 i h6;rw[hSi]at this;cases this
   let sr:St:=⟨restr (T i) st.rds,E⟩
   have hsr:readA st.op=none→SRel n (down (fun x=>x) (hp E) φ) F sr a w:=by
    intro hnr
    refine⟨g1,g2,Rel.down (emb hnr) g3,fun t av ht=>?_⟩
    simp only[sr,lk_restr]at ht
    split at ht
    ·rename_i htr
     exact AVRep.down (emb hnr) (hslive t htr av ht) (g4 t av (by rw[←hslot t htr];exact ht))
    ·cases ht
   have hlen':(listed.setIfInBounds i true).size=ops.size:=by simp[hsz]
   have hget':(fun j=>(listed.setIfInBounds i true).getD j false)=fun j=>if j=i then true else listed.getD j false:=by
    funext j
    simp only[Array.getD,Array.size_setIfInBounds]
    by_cases hj:j<listed.size
    ·simp only[hj,dif_pos]
     by_cases hji:j=i
     ·subst hji;simp
     ·rw[if_neg hji]
      show(listed.setIfInBounds i true)[j]=listed[j]
      rw[Array.getElem_setIfInBounds_ne _ (Ne.symm hji)]
    ·simp only[hj,dif_neg,not_false_iff]
     rw[if_neg (by omega)]
   have hcnt':(listed.setIfInBounds i true).toList.count false≤fuel:=by
    have hil:i<listed.toList.length:=by simp;omega
    have hfalse:listed.toList[i]=false:=by simp only[Array.getD,hsz,hi1,dif_pos]at hSi;simpa using hSi
    rw[Array.toList_setIfInBounds,List.count_set hil,hfalse]
    have e:(true==false)=false:=rfl
    simp only[beq_self_eq_true,if_true,e,Bool.false_eq_true,if_false]
    have:0<listed.toList.count false:=List.count_pos_iff.2 (by rw[←hfalse];exact List.getElem_mem hil)
    omega
   have hclo':∀j,(listed.setIfInBounds i true).getD j false=true→∀k,befF steps j k=true→(listed.setIfInBounds i true).getD k false=true:=by
    intro j hj k hk
    have e1:=congrFun hget' j
    have e2:=congrFun hget' k
    rw[e1]at hj;rw[e2]
    by_cases hki:k=i
    ·simp[hki]
    ·rw[if_neg hki]
     by_cases hji:j=i
     ·subst hji;exact hbefS k hk
     ·rw[if_neg hji]at hj;exact hclo j hj k hk
   have hHJ:HJ i=fun x=>(wv (out i).wr x).or (hp E x):=by funext x;simp only[HJ,hE]
   have hGput:(G fun j=>(listed.setIfInBounds i true).getD j false)=fun x=>(wv (out i).wr x).or (G (fun j=>listed.getD j false) x):=by
    rw[hget']
    funext x
    refine GS_put out h hiN (fun j hj hij hS hw=>?_) hSi
    cases hwj:wv (out j).wr x with
    |none=>rfl
    |some b=>
     exfalso
     rcases clash i j x hiN hj (by omega) hw (by rw[hwj];simp)with h1|h1
     ·have:=hclo j hS i h1;rw[hSi]at this;cases this
     ·have:=(bef_lt i j h1).1;omega
   have hLput:∀t,LS out s0.slots dst (fun j=>(listed.setIfInBounds i true).getD j false) steps.length t=if dst i=some t then(out i).val else LS out s0.slots dst (fun j=>listed.getD j false) steps.length t:=by
    intro t
    rw[hget']
    refine LS_put out s0.slots dst (fun j hj hdi=>?_) hiN hSi
    cases hstj:steps[j]? with
    |none=>simp[dst,dstF,hstj]
    |some stj=>
     have h1:st.dst=some t:=by have:=hdi;simp[dst,dstF,hst]at this;exact this
     have:=hd.dst i j st stj t hst hstj (Ne.symm hj) h1
     simp[dst,dstF,hstj];exact this
   have hdi:dst i=o.dst:=by simp[dst,dstF,hst,hdst]
   have go:∀{v:Value} {φ' F' w'},Rel φ' F' (fun x=>(wv (out i).wr x).or (G (fun j=>listed.getD j false) x)) w'→
    (∀av,(out i).val=some av→AVRep φ' F' (fun x=>(wv (out i).wr x).or (G (fun j=>listed.getD j false) x)) w' av v)→
    Stp φ F (G fun j=>listed.getD j false) w φ' F' (fun x=>(wv (out i).wr x).or (G (fun j=>listed.getD j false) x)) w'→Fr φ F w φ' F' w'→
    ((∀x blk,HJ i x=some blk→blk.live (HJ i))∧∀av,(out i).val=some av→av.live (HJ i))→
    wpAny P .any ops Q fuel (listed.setIfInBounds i true) (a.put o.dst v) w':=by
    intro v φ' F' w' k1 k2 k3 k4 k5
    refine ih _ _ _ hlen' hcnt' ⟨φ',F',by cases o.dst<;>simp[Act.put,g1],by cases o.dst<;>simp[Act.put,g2],by rw[hGput];exact k1,fun t av ht=>?_,g5.trans k4,by rw[hGput];exact g6.trans k3.m⟩ hclo' fun j hj=>?_
    ·rw[hLput,hdi]at ht
     rw[hGput]
     by_cases hdt:o.dst=some t
     ·rw[if_pos hdt]at ht
      have:(a.put o.dst v).tmps.getD t undef=v:=by
       rw[hdt];simp[Act.put,Array.getD,g1,hdn t hdt]
      rw[this];exact k2 av ht
     ·rw[if_neg hdt]at ht
      have:(a.put o.dst v).tmps.getD t undef=a.tmps.getD t undef:=by
       cases hdd:o.dst with
       |none=>rfl
       |some d=>
        have:d≠t:=fun he=>hdt (by rw[hdd,he])
        simp[Act.put,Array.getElem?_setIfInBounds_ne this]
      rw[this];exact(g4 t av ht).mono k3
    ·have e1:=congrFun hget' j
     rw[e1]at hj
     by_cases hji:j=i
     ·subst hji;exact k5
     ·rw[if_neg hji]at hj;exact hliv j hj
   have goRun:opA P st.op ⟨T i,E⟩ (·=out i)→o.wp P a w (wpAny P .any ops Q fuel (listed.setIfInBounds i true)) Q:=by
    intro hrun
    have hrun':opA P st.op sr (·=out i):=opA_agree (s:=⟨T i,E⟩) ⟨rfl,fun t ht=>by
     have:t∈st.rds:=List.mem_append_left _ ht
     simp only[sr,lk_restr,if_pos this]⟩ hrun
    cases hrd:readA st.op with
    |some oa=>
     obtain⟨GL,hGL⟩:=GS_list out h (fun j=>listed.getD j false) steps.length
     have hGL':hp GL=G fun j=>listed.getD j false:=hGL
     obtain⟨q1,q2,q3⟩:=readA_sound (E':=GL) hrd hrun' (fun a ha c hc k hk blk hb=>by
      rw[hGL']
      refine env_sub' k blk hb fun j hj hji hw hxn=>?_
      rcases old_write i j k st hst hj hji hw hxn with h1|h1|⟨oa',h1,h2⟩|h1
      ·exact .inl h1
      ·exact .inr h1
      ·rw[hrd]at h1;cases h1
       simp only[lk_restr]at hc
       split at hc
       ·exact(h2 a ha c hc hk).elim
       ·cases hc
      ·rw[hE,h1]at hb;cases hb) hclE (fun t ht av hav=>by
      simp only[lk_restr]at hav
      split at hav
      ·rename_i htr;exact hslive t htr av hav
      ·cases hav)
     have hsr2:SRel n φ F ⟨restr (T i) st.rds,GL⟩ a w:=by
      refine⟨g1,g2,by rw[show(St.mk (restr (T i) st.rds) GL).heap=GL from rfl,hGL'];exact g3,fun t av ht=>?_⟩
      simp only[lk_restr]at ht
      split at ht
      ·rename_i htr
       rw[show(St.mk (restr (T i) st.rds) GL).heap=GL from rfl,hGL']
       exact g4 t av (by rw[←hslot t htr];exact ht)
      ·cases ht
     refine Oper.wp_mono ?_ (opA_sound hsr2 hop q1 Q)
     rintro a' w' ⟨v,rfl,⟨⟨out',φ',F',rfl,hav,hr,hs,hf⟩⟩⟩
     have e0:(St.mk (restr (T i) st.rds) GL).heap=GL:=rfl
     have e1:(fun x=>(wv (out i).wr x).or (G (fun j=>listed.getD j false) x))=G fun j=>listed.getD j false:=by funext x;rw[q2];simp[wv]
     rw[e0,q2]at hav hr hs
     simp only[wrs]at hav hr hs
     rw[hGL']at hav hr hs
     have e2:HJ i=hp E:=by rw[hHJ];funext x;rw[q2];simp[wv]
     refine go (by rw[e1];exact hr) (by rw[e1];exact hav) (by rw[e1];exact hs) hf ?_
     rw[e2]
     exact⟨hclE,q3⟩
    |none=>
    replace emb:=emb hrd
    replace env_sub:=env_sub hrd
    refine Oper.wp_mono ?_ (opA_sound (hsr hrd) hop hrun' Q)
    rintro a' w' ⟨v,rfl,⟨⟨out',φ',F',rfl,hav,hr,hs,hf⟩⟩⟩
    have hH:hp (wrs E (out i).wr)=HJ i:=by rw[hHJ];funext x;exact hp_wrs _ _ _
    rw[show sr.heap=E from rfl]at hav hr hs
    rw[hH]at hav hr hs
    obtain⟨f1,f2,f3,f4⟩:=frame (ρ:=fun x=>x) (ρ':=fun x=>x) (G':=fun x=>(wv (out i).wr x).or (G (fun j=>listed.getD j false) x)) g3 emb hr hs hf (fun _ _=>rfl) (fun _ _ _ _ he=>he)
     (fun k hk hn=>by
       rw[hHJ]at hk
       simp only[hn,Option.or_none]at hk
       cases hg:G (fun j=>listed.getD j false) k with
       |none=>rfl
       |some b=>
        exfalso
        rcases GS_some out h hg with h1|⟨j,h1,h2,h3⟩
        ·exact dom_base k (by rw[h1];simp) hn
        ·have hji:i≠j:=by intro he;subst he;rw[hSi]at h2;cases h2
         rcases clash i j k hiN h1 hji hk (by rw[h3];simp)with h4|h4
         ·have:=hclo j h2 i h4;rw[hSi]at this;cases this
         ·exact dom_HJ j h4 k (by simp[HJ,h3]) hn)
     (fun k blk hk=>by
       rw[Blk.ren_id]
       rw[hHJ]at hk
       cases hw:wv (out i).wr k with
       |some b=>simp only[hw,Option.some_or]at hk⊢;exact hk
       |none=>simp only[hw,Option.none_or]at hk⊢;exact env_sub k blk hk)
     (fun x hx=>by
       have:HJ i x=none:=by cases hc:HJ i x with|none=>rfl|some b=>exact(hx x (by rw[hc];simp) rfl).elim
       rw[hHJ]at this
       cases hw:wv (out i).wr x with
       |some b=>simp[hw]at this
       |none=>simp)
    refine go f1 (fun av hav'=>?_) f2 f3 ⟨fun x blk hx=>hr.closed hx,fun av hav'=>(hav av hav').live⟩
    have:=AVRep.up (ρ:=fun x=>x) (G:=fun x=>(wv (out i).wr x).or (G (fun j=>listed.getD j false) x)) (φ':=upφ (fun x=>x) (HJ i) φ' φ) (fun k blk hk=>by
     rw[Blk.ren_id]
     rw[hHJ]at hk
     cases hw:wv (out i).wr k with
     |some b=>simp only[hw,Option.some_or]at hk⊢;exact hk
     |none=>simp only[hw,Option.none_or]at hk⊢;exact env_sub k blk hk) f4 (hav av hav')
    rw[AV.ren_id]at this
    exact this
   have goSkip:out i=skipOut→wpAny P .any ops Q fuel (listed.setIfInBounds i true) (a.put o.dst undef) w:=by
    intro hsk
    have e1:(fun x=>(wv (out i).wr x).or (G (fun j=>listed.getD j false) x))=G fun j=>listed.getD j false:=by funext x;rw[hsk];simp[skipOut,wv]
    refine go (v:=undef) (φ':=φ) (F':=F) (w':=w) ?_ ?_ ?_ (Fr.refl _ _ _) ?_
    ·rw[e1];exact g3
    ·intro av hav;rw[hsk]at hav;cases hav;exact⟨[],rfl,.nil⟩
    ·rw[e1];exact Stp.refl _ _ _ _
    ·have e2:HJ i=hp E:=by rw[hHJ];funext x;rw[hsk];simp[skipOut,wv]
     rw[e2]
     exact⟨hclE,fun av hav=>by rw[hsk]at hav;cases hav;intro a ha;cases ha⟩
   unfold wpOp
   rw[ho]
   simp only
   have hstep:=(hrec i st hst).1
   cases hg:o.guard with
   |none=>
    rw[hg]at hguard
    simp only at hguard
    simp only[Region.wanted,hg,if_true]
    rcases hstep with⟨_,h2,_⟩|⟨h1,_⟩
    ·exact .inl (goRun h2)
    ·simp[wantedA,hguard]at h1
   |some y=>
    obtain⟨g,want⟩:=y
    rw[hg]at hguard
    obtain⟨d,hd1,hd2,hguard⟩:=hguard
    have hy:=yielded_at (a:=a) hd1 (by rw[g1];exact hd2)
    have hdr:d∈st.rds:=by simp[AStep.rds,hguard]
    have hw0:∀av,lk (T i) d=some av→AVRep φ F (G fun j=>listed.getD j false) w av (a.tmps.getD d undef):=fun av hav=>g4 d av (by rw[←hslot d hdr];exact hav)
    have key:∀b,wantedA (T i) st.guard=some b→Region.wanted o (yielded ops a.tmps)=b:=by
     intro b hb
     simp only[wantedA,hguard]at hb
     split at hb
     ·rename_i t ht
      cases hb
      have hval:=hw0 _ ht
      generalize a.tmps.getD d undef=u at hval hy
      cases hval
      simp only at hy
      simp only[Region.wanted,hg,hy]
      cases t<;>cases want<;>rfl
     ·rename_i ht
      cases hb
      obtain⟨vs,hval,hvs⟩:=hw0 _ ht
      cases hvs
      rw[hval]at hy
      simp only at hy
      simp only[Region.wanted,hg,hy];rfl
     ·cases hb
    rcases hstep with⟨h1,h2,_⟩|⟨h1,h2⟩
    ·rw[key _ h1];simp only[if_true];exact .inl (goRun h2)
    ·rw[key _ h1];simp only[Bool.false_eq_true,if_false];exact goSkip h2
 have hS0:(fun j=>(Array.replicate ops.size false).getD j false)=fun _=>false:=by
  funext j
  simp only[Array.getD]
  split
  ·rename_i hj
   show(Array.replicate ops.size false)[j]=false
   simp
  ·rfl
 have hG0:G (fun _=>false)=hp s0.heap:=by
  funext x
  exact GS_cut out h (Nat.zero_le _) (fun _ _=>rfl)
 refine main ops.size _ a0 w0 (by simp) (by simp[List.count_replicate]) ⟨φ0,F0,h0.size,h0.defers,?_,?_,Fr.refl _ _ _,?_⟩ ?_ ?_
 ·rw[hS0,hG0];exact h0.rel
 ·intro t av ht
  rw[hS0]at ht⊢
  rw[hG0]
  rw[LS_cut out s0.slots dst (Nat.zero_le _) (fun _ _=>rfl)]at ht
  exact h0.slot t av ht
 ·rw[hS0,hG0];exact StpM.refl _ _ _ _ _
 ·intro j hj
  have:=congrFun hS0 j
  rw[this]at hj;cases hj
 ·intro j hj
  have:=congrFun hS0 j
  rw[this]at hj;cases hj
end
end Go.Fw
namespace Go.Fw
def maskEdge(tab:List Nat)(acc:Nat)(e:Edge):Nat:=if Region.binds .any e then acc|||(2^e.on|||tab.getD e.on 0)else acc
def maskOf(tab:List Nat)(o:Oper):Nat:=o.after.toList.foldl (maskEdge tab) 0
def maskTab(ops:List Oper):List Nat:=ops.foldl (fun tab o=>tab++[maskOf tab o]) []
def drawB(ops:List Oper)(steps:List AStep)(tab:List Nat):Bool:=
 let N:=ops.length
 let mask:=fun i=>tab.getD i 0
 (List.range N).all fun i=>
   (match ops[i]?,steps[i]? with
   |some o,some st=>
    decide (mask i<2^i)&&(mask i==maskOf tab o)&&(o.after.toList.all fun e=> !Region.binds .any e||decide (e.on<N))&&
    ((List.range N).all fun j=> !(mask i).testBit j||(mask j&&& mask i==mask j))&&
    (st.rds.all fun t=>(List.range N).all fun k=>k==i||(match steps[k]? with|some st'=>st'.dst !=some t||(mask i).testBit k||(mask k).testBit i|none=>true))&&
    (match st.dst with|none=>true|some t=>(List.range N).all fun k=>k==i||(match steps[k]? with|some st'=>st'.dst !=some t|none=>true))
   |_,_=>false)
def cDraw(P:Program)(n:Nat)(ops:Array Oper):Option AC:=
 let tab:=maskTab ops.toList
 (cStepsFrom P n ops (fun i=>tab.getD i 0) 0 ops.toList).bind fun steps=>if drawB ops.toList steps tab&&P.follows .mixedOrders then some (.regd steps)else none
def cCode(P:Program)(n:Nat):Code→Option AC
 | .skip=>some .skip
 | .label _=>some .skip
 | .region _ ops draw=>if draw then cDraw P n ops else(cStepsFrom P n ops (fun _=>0) 0 ops.toList).map .reg
 | .seq a b=>(cCode P n a).bind fun x=>(cCode P n b).map fun y=> .seq x y
 | .cond c a b=>(cO c).bind fun c=>(cCode P n a).bind fun x=>(cCode P n b).map fun y=> .cond c x y
 | .block id a=>(cCode P n a).map (.block id)
 | .loop a=>(cCode P n a).map .loop
 | .exit id=>some (.exit id)
 | .ret=>some .ret
 |_=>none
def WpC(P:Program)(n m:Nat)(ac:AC)(Q:XT→St→Prop)(s:St):Prop:=∀c,cCode P n c=some ac.er→WpA P n m c Q s
def thenQ(K:St→Prop)(Q:XT→St→Prop):XT→St→Prop
 | .normal,s=>K s
 |x,s=>Q x s
def blockQ(id:Nat)(Q:XT→St→Prop):XT→St→Prop
 | .exit i,s=>if i=id then Q .normal s else Q (.exit i) s
 |x,s=>Q x s
def vc(P:Program)(n m:Nat):AC→(XT→St→Prop)→St→Prop
 | .skip,Q,s=>Q .normal s
 | .reg ops,Q,s=>vcOps P ops s (Q .normal)
 | .regd ops,Q,s=>vcD P s.heap ops 0 s.slots [] (Q .normal)
 | .seq a b,Q,s=>vc P n m a (thenQ (vc P n m b Q) Q) s
 | .cond c a b,Q,s=>match s.evV c with
   |some (.bool t)=>(t=true→vc P n m a Q s)∧(t=false→vc P n m b Q s)
   |_=>False
 | .block id a,Q,s=>vc P n m a (blockQ id Q) s
 | .loop a,Q,s=>WpC P n m (.loop a) Q s
 | .exit id,Q,s=>Q (.exit id) s
 | .ret,Q,s=>Q .ret s
 | .sem a,Q,s=>WpC P n m a Q s
section
variable {P:Program} {n m:Nat}
theorem Post.trans{φ F s w φ' F' s' w' K a' w''}(hf:Fr φ F w φ' F' w')(hs:StpM m φ F (hp s.heap) w φ' F' (hp s'.heap) w')(h:Post n m φ' F' s' w' K a' w''):Post n m φ F s w K a' w'':=by
 obtain⟨s2,φ2,F2,h1,h2,h3,h4⟩:=h
 exact⟨s2,φ2,F2,h1,h2,hf.trans h3,hs.trans h4⟩
theorem QA.trans{φ F s w φ' F' s' w' Q e a' w''}(hf:Fr φ F w φ' F' w')(hs:StpM m φ F (hp s.heap) w φ' F' (hp s'.heap) w')(h:QA n m φ' F' s' w' Q e a' w''):QA n m φ F s w Q e a' w'':=by
 cases e<;>simp only[QA]at h⊢<;>first|exact h.elim|exact Post.trans hf hs h
theorem testBit_maskFold(tab:List Nat)(j:Nat):∀(l:List Edge) (acc:Nat),(l.foldl (maskEdge tab) acc).testBit j=(acc.testBit j||l.any fun e=>Region.binds .any e&&(e.on==j||(tab.getD e.on 0).testBit j))
 |[],acc=>by simp
 |e::l,acc=>by
  simp only[List.foldl_cons,testBit_maskFold tab j l,List.any_cons]
  unfold maskEdge
  split
  ·rename_i hb
   simp only[Nat.testBit_or,Nat.testBit_two_pow,hb,Bool.true_and,Bool.or_assoc]
   congr 2
  ·rename_i hb
   simp[hb]
theorem loneS_lone{P:Program}{ops:Array Oper}{mask:Nat→Nat}{i:Nat}{op:AOp}{ts:List Nat}(h:loneS P ops mask i op= .lone ts):loneOf P ops mask i op=some ts:=by
 unfold loneS at h
 split at h
 ·rename_i ts' h1;cases h;exact h1
 ·cases h
theorem loneS_new{P:Program}{ops:Array Oper}{mask:Nat→Nat}{i:Nat}{op:AOp}{cs:List Nat}(h:loneS P ops mask i op= .new cs):∀c∈cs,c∈befOf mask ops.size i∧∀k,k<ops.size→k=i∨(mask i).testBit k=true∨(mask k).testBit i=true∨(mask k).testBit c=false:=by
 unfold loneS at h
 split at h
 ·cases h
 ·split at h
  ·cases h
   intro c hc
   obtain⟨h1,h2⟩:=List.mem_filter.1 hc
   refine⟨h1,fun k hk=>?_⟩
   have:=List.all_eq_true.1 h2 k (List.mem_range.2 hk)
   simp only[Bool.or_eq_true,beq_iff_eq,Bool.not_eq_true']at this
   rcases this with((h|h)|h)|h
   ·exact .inl h
   ·exact .inr (.inl h)
   ·exact .inr (.inr (.inl h))
   ·exact .inr (.inr (.inr h))
  ·cases h;intro c hc;cases hc
theorem loneOf_spec{P:Program}{ops:Array Oper}{mask:Nat→Nat}{i:Nat}{op0:AOp}{ts:List Nat}(h:loneOf P ops mask i op0=some ts):∀j,j<ops.size→
 j=i∨(mask i).testBit j=true∨(mask j).testBit i=true∨(j<i∧∃op oa,((ops[j]?).bind fun o=>cOp P o.op)=some op∧readA op=some oa∧∀a,oa=some a→a∈ts∧∀(k:Nat) o,j≤k→k<i→ops[k]? =some o→o.dst≠some a):=by
 unfold loneOf at h
 split at h
 ·cases h
 have key:∀(l:List Nat) (ts:List Nat),(∀j∈l,j<ops.size)→l.foldr (fun j acc=>acc.bind fun l=>
  if j==i||(mask i).testBit j||(mask j).testBit i then some l
  else if j<i then match(ops[j]?).bind fun o=>cOp P o.op with
   |some op=>match readA op with
    |some none=>some l
    |some (some a)=>if(List.range ops.size).all fun k=> !(decide (j≤k)&&decide (k<i)&&(ops[k]?).any fun o=>o.dst==some a)then some (a::l)else none
    |none=>none
   |none=>none
  else none) (some [])=some ts→∀j∈l,j=i∨(mask i).testBit j=true∨(mask j).testBit i=true∨(j<i∧∃op oa,((ops[j]?).bind fun o=>cOp P o.op)=some op∧readA op=some oa∧∀a,oa=some a→a∈ts∧∀(k:Nat) o,j≤k→k<i→ops[k]? =some o→o.dst≠some a):=by
  intro l
  induction l with
  |nil=>intro ts _ _ j hj;cases hj
  |cons x l ih=>
   intro ts hlt h j hj
   rw[List.foldr_cons,Option.bind_eq_some_iff]at h
   obtain⟨ts0,h0,h⟩:=h
   have ih':=ih ts0 (fun y hy=>hlt y (List.mem_cons_of_mem _ hy)) h0
   have mono:(∀a,a∈ts0→a∈ts)→j∈l→j=i∨(mask i).testBit j=true∨(mask j).testBit i=true∨(j<i∧∃op oa,((ops[j]?).bind fun o=>cOp P o.op)=some op∧readA op=some oa∧∀a,oa=some a→a∈ts∧∀(k:Nat) o,j≤k→k<i→ops[k]? =some o→o.dst≠some a):=fun hm hjl=>by
    rcases ih' j hjl with g|g|g|⟨g1,op,oa,g2,g3,g4⟩
    ·exact .inl g
    ·exact .inr (.inl g)
    ·exact .inr (.inr (.inl g))
    ·exact .inr (.inr (.inr ⟨g1,op,oa,g2,g3,fun a ha=>⟨hm a (g4 a ha).1,(g4 a ha).2⟩⟩))
   split at h
   ·rename_i hc
    cases h
    rcases List.mem_cons.1 hj with rfl|hjl
    ·simp only[Bool.or_eq_true,beq_iff_eq]at hc
     rcases hc with(hc|hc)|hc
     ·exact .inl hc
     ·exact .inr (.inl hc)
     ·exact .inr (.inr (.inl hc))
    ·exact mono (fun _ h=>h) hjl
   ·split at h
    ·rename_i hxi
     split at h
     ·rename_i op hop
      split at h
      ·rename_i hr
       cases h
       rcases List.mem_cons.1 hj with rfl|hjl
       ·exact .inr (.inr (.inr ⟨hxi,op,none,hop,hr,fun a ha=>by cases ha⟩))
       ·exact mono (fun _ h=>h) hjl
      ·rename_i a hr
       split at h
       ·rename_i hall
        cases h
        rcases List.mem_cons.1 hj with rfl|hjl
        ·refine .inr (.inr (.inr ⟨hxi,op,some a,hop,hr,fun a' ha=>?_⟩))
         cases ha
         refine⟨List.mem_cons_self ..,fun k o hk1 hk2 ho hd=>?_⟩
         have:=List.all_eq_true.1 hall k (List.mem_range.2 (Array.getElem?_eq_some_iff.1 ho).1)
         simp[hk1,hk2,ho,hd]at this
        ·exact mono (fun _ h=>List.mem_cons_of_mem _ h) hjl
       ·cases h
      ·cases h
     ·cases h
    ·cases h
 intro j hj
 exact key _ ts (fun y hy=>List.mem_range.1 hy) h j (List.mem_range.2 hj)
theorem drawB_ok{ops:Array Oper}{steps:List AStep}(hs:cStepsFrom P n ops (fun i=>(maskTab ops.toList).getD i 0) 0 ops.toList=some steps)(hB:drawB ops.toList steps (maskTab ops.toList)=true):DrawOk P n ops steps:=by
 generalize maskTab ops.toList=tab at hs hB
 have hstep:∀(l:List Oper) (k:Nat) (steps:List AStep),cStepsFrom P n ops (fun i=>tab.getD i 0) k l=some steps→steps.length=l.length∧∀(i:Nat) o,l[i]? =some o→∃st,steps[i]? =some st∧cStep P n ops (fun i=>tab.getD i 0) (k+i) o=some st:=by
  intro l
  induction l with
  |nil=>intro k steps h;cases h;exact⟨rfl,fun i o hi=>by simp at hi⟩
  |cons o l ih=>
   intro k steps h
   simp only[cStepsFrom,Option.bind_eq_some_iff,Option.map_eq_some_iff]at h
   obtain⟨st,hst,steps',hsteps,rfl⟩:=h
   obtain⟨h1,h2⟩:=ih (k+1) steps' hsteps
   refine⟨by simp[h1],fun i o' hi=>?_⟩
   cases i with
   |zero=>simp only[List.getElem?_cons_zero,Option.some.injEq]at hi;subst hi;exact⟨st,rfl,hst⟩
   |succ i=>
    obtain⟨st',h3,h4⟩:=h2 i o' (by simpa using hi)
    exact⟨st',by simpa using h3,by rw[show k+(i+1)=k+1+i by omega];exact h4⟩
 obtain⟨hlen,hst⟩:=hstep _ 0 steps hs
 simp only[Array.length_toList]at hlen
 have hget:∀(i:Nat) st,steps[i]? =some st→∃o,ops[i]? =some o∧cStep P n ops (fun i=>tab.getD i 0) i o=some st:=by
  intro i st hi
  have hlt:=(List.getElem?_eq_some_iff.1 hi).1
  have ho:ops.toList[i]? =some (ops[i]'(by omega)):=by simp
  obtain⟨st',h1,h2⟩:=hst i _ ho
  rw[hi]at h1;cases h1
  rw[Nat.zero_add]at h2
  exact⟨_,by simp[ho],h2⟩
 have hmem:∀i st,steps[i]? =some st→∀j,j∈st.bef↔j<ops.size∧(tab.getD i 0).testBit j=true:=by
  intro i st hi j
  obtain⟨o,_,h2⟩:=hget i st hi
  obtain⟨_,_,_,hb,_⟩:=cStep_parts h2
  rw[hb]
  simp[befOf,List.mem_filter]
 unfold drawB at hB
 simp only[List.all_eq_true,List.mem_range,Array.length_toList]at hB
 have hall:∀i o st,ops[i]? =some o→steps[i]? =some st→
  tab.getD i 0<2^i∧tab.getD i 0=maskOf tab o∧(∀e∈o.after.toList,Region.binds .any e=true→e.on<ops.size)∧
  (∀j,j<ops.size→(tab.getD i 0).testBit j=true→tab.getD j 0&&& tab.getD i 0=tab.getD j 0)∧
  (∀t∈st.rds,∀k st',steps[k]? =some st'→k≠i→st'.dst=some t→(tab.getD i 0).testBit k=true∨(tab.getD k 0).testBit i=true)∧
  (∀t,st.dst=some t→∀k st',steps[k]? =some st'→k≠i→st'.dst≠some t):=by
  intro i o st ho hi
  have hlt:i<ops.size:=(Array.getElem?_eq_some_iff.1 ho).1
  have:=hB i hlt
  have ho':ops.toList[i]? =some o:=by simpa using ho
  rw[ho',hi]at this
  simp only[Bool.and_eq_true,decide_eq_true_eq,beq_iff_eq,List.all_eq_true,List.mem_range,Bool.or_eq_true,Bool.not_eq_true']at this
  obtain⟨⟨⟨⟨⟨h1,h2⟩,h3⟩,h4⟩,h5⟩,h6⟩:=this
  refine⟨h1,h2,fun e he hb=>?_,fun j hj ht=>?_,fun t ht k st' hk hki hd=>?_,fun t ht k st' hk hki hd=>?_⟩
  ·rcases h3 e he with h|h
   ·rw[hb]at h;cases h
   ·exact h
  ·rcases h4 j hj with h|h
   ·rw[ht]at h;cases h
   ·exact h
  ·have hkl:k<ops.size:=by rw[←hlen];exact(List.getElem?_eq_some_iff.1 hk).1
   rcases h5 t ht k hkl with h|h
   ·exact(hki h).elim
   ·rw[hk]at h
    simp only[Bool.or_eq_true]at h
    rcases h with(h|h)|h
    ·rw[hd]at h;simp at h
    ·exact .inl h
    ·exact .inr h
  ·have hkl:k<ops.size:=by rw[←hlen];exact(List.getElem?_eq_some_iff.1 hk).1
   rw[ht]at h6
   simp only[List.all_eq_true,List.mem_range,Bool.or_eq_true,beq_iff_eq]at h6
   rcases h6 k hkl with h|h
   ·exact(hki h).elim
   ·rw[hk]at h;simp only[hd]at h;simp at h
 refine⟨hlen,fun i o ho=>?_,fun i st hi ts hl j st' hj hji=>?_,fun i st hi cs hl c hc=>?_,fun i o st ho hi=>⟨fun e he hb=>?_,fun j hj=>?_⟩,fun i st hi j hj=>?_,fun i st hi t ht k st' hk hki hdt=>?_,fun i k st st' t hi hk hik hdt=>?_⟩
 ·obtain⟨st,h1,h2⟩:=hst i o (by simpa using ho)
  rw[Nat.zero_add]at h2
  obtain⟨a1,a2,a3,_,_,a6⟩:=cStep_parts h2
  exact⟨st,h1,a1,a2,a3,a6⟩
 ·obtain⟨o,_,h2⟩:=hget i st hi
  obtain⟨_,_,_,_,hlo,_⟩:=cStep_parts h2
  rw[hlo]at hl
  replace hl:=loneS_lone hl
  have hjl:j<ops.size:=by rw[←hlen];exact(List.getElem?_eq_some_iff.1 hj).1
  have hil:i<ops.size:=by rw[←hlen];exact(List.getElem?_eq_some_iff.1 hi).1
  rcases loneOf_spec hl j hjl with h|h|h|⟨hji2,op,oa,h3,h4,h5⟩
  ·exact(hji h).elim
  ·exact .inl ((hmem i st hi j).2 ⟨hjl,h⟩)
  ·exact .inr (.inl ((hmem j st' hj i).2 ⟨hil,h⟩))
  ·refine .inr (.inr ⟨hji2,oa,?_,fun a ha=>⟨(h5 a ha).1,fun k stk hk1 hk2 hk=>?_⟩⟩)
   ·obtain⟨oj,hoj,hcj⟩:=hget j st' hj
    obtain⟨_,g2,_⟩:=cStep_parts hcj
    rw[hoj,Option.bind_some,g2]at h3
    cases h3;exact h4
   ·obtain⟨ok,hok,hck⟩:=hget k stk hk
    obtain⟨_,_,g3,_⟩:=cStep_parts hck
    rw[g3];exact(h5 a ha).2 k ok hk1 hk2 hok
 ·obtain⟨o,_,h2⟩:=hget i st hi
  obtain⟨_,_,_,hbf,hlo,_⟩:=cStep_parts h2
  rw[hlo]at hl
  obtain⟨h3,h4⟩:=loneS_new hl c hc
  refine⟨by rw[hbf];exact h3,fun k st' hk hki=>?_⟩
  have hkl:k<ops.size:=by rw[←hlen];exact(List.getElem?_eq_some_iff.1 hk).1
  have hil:i<ops.size:=by rw[←hlen];exact(List.getElem?_eq_some_iff.1 hi).1
  rcases h4 k hkl with h|h|h|h
  ·exact(hki h).elim
  ·exact .inl ((hmem i st hi k).2 ⟨hkl,h⟩)
  ·exact .inr (.inl ((hmem k st' hk i).2 ⟨hil,h⟩))
  ·refine .inr (.inr fun hc2=>?_)
   have:=((hmem k st' hk c).1 hc2).2
   rw[h]at this;cases this
 ·obtain⟨h1,h2,h3,_⟩:=hall i o st ho hi
  rw[hmem i st hi]
  have he':e∈o.after.toList:=by simpa using he
  refine⟨h3 e he' hb,?_⟩
  rw[h2,maskOf,testBit_maskFold]
  simp only[Nat.zero_testBit,Bool.false_or,List.any_eq_true]
  exact⟨e,he',by simp[hb]⟩
 ·obtain⟨h1,h2,h3,_⟩:=hall i o st ho hi
  obtain⟨hj1,hj2⟩:=(hmem i st hi j).1 hj
  rw[h2,maskOf,testBit_maskFold]at hj2
  simp only[Nat.zero_testBit,Bool.false_or,List.any_eq_true,Bool.and_eq_true,Bool.or_eq_true,beq_iff_eq]at hj2
  obtain⟨e,he,hb,h4⟩:=hj2
  refine⟨e,by simpa using he,hb,?_⟩
  rcases h4 with h4|h4
  ·exact .inl h4.symm
  ·have hl:=h3 e he hb
   obtain⟨st',hst'⟩:∃st',steps[e.on]? =some st':=⟨_,List.getElem?_eq_getElem (by omega)⟩
   exact .inr ⟨st',hst',(hmem _ _ hst' j).2 ⟨hj1,h4⟩⟩
 ·obtain⟨o,ho,_⟩:=hget i st hi
  obtain⟨h1,h2,h3,h4,_⟩:=hall i o st ho hi
  obtain⟨hj1,hj2⟩:=(hmem i st hi j).1 hj
  have hji:j<i:=by
   have:=Nat.ge_two_pow_of_testBit hj2
   exact(Nat.pow_lt_pow_iff_right (by decide:1<2)).1 (by omega)
  obtain⟨st',hst'⟩:∃st',steps[j]? =some st':=⟨_,List.getElem?_eq_getElem (by omega)⟩
  refine⟨hji,st',hst',fun k hk=>?_⟩
  obtain⟨hk1,hk2⟩:=(hmem j st' hst' k).1 hk
  refine(hmem i st hi k).2 ⟨hk1,?_⟩
  have:=h4 j hj1 hj2
  rw[←this]at hk2
  simp only[Nat.testBit_and,Bool.and_eq_true]at hk2
  exact hk2.2
 ·obtain⟨o,ho,_⟩:=hget i st hi
  obtain⟨_,_,_,_,h5,_⟩:=hall i o st ho hi
  have hkl:k<ops.size:=by rw[←hlen];exact(List.getElem?_eq_some_iff.1 hk).1
  have hil:i<ops.size:=by rw[←hlen];exact(List.getElem?_eq_some_iff.1 hi).1
  rcases h5 t ht k st' hk hki hdt with h|h
  ·exact .inl ((hmem i st hi k).2 ⟨hkl,h⟩)
  ·exact .inr ((hmem k st' hk i).2 ⟨hil,h⟩)
 ·obtain⟨o,ho,_⟩:=hget i st hi
  obtain⟨_,_,_,_,_,h6⟩:=hall i o st ho hi
  exact h6 t hdt k st' hk (Ne.symm hik)
theorem vc_sound:∀(c:Code) (ac:AC) (Q:XT→St→Prop) (s:St),cCode P n c=some ac.er→vc P n m ac Q s→WpA P n m c Q s:=by
 intro c
 induction c with
 |skip=>
  intro ac Q s hc hv
  cases ac with
  |sem a=>exact hv _ hc
  |skip=>exact fun φ F a w h=>wp_skip ⟨s,φ,F,hv,h,Fr.refl _ _ _,StpM.refl _ _ _ _ _⟩
  |_=>cases hc
 |label l=>
  intro ac Q s hc hv
  cases ac with
  |sem a=>exact hv _ hc
  |skip=>exact fun φ F a w h=>wp_label ⟨s,φ,F,hv,h,Fr.refl _ _ _,StpM.refl _ _ _ _ _⟩
  |_=>cases hc
 |exit id=>
  intro ac Q s hc hv
  cases ac with
  |sem a=>exact hv _ hc
  |exit i=>cases hc;exact fun φ F a w h=>wp_exit ⟨s,φ,F,hv,h,Fr.refl _ _ _,StpM.refl _ _ _ _ _⟩
  |_=>cases hc
 |ret=>
  intro ac Q s hc hv
  cases ac with
  |sem a=>exact hv _ hc
  |ret=>exact fun φ F a w h=>wp_ret ⟨s,φ,F,hv,h,Fr.refl _ _ _,StpM.refl _ _ _ _ _⟩
  |_=>cases hc
 |seq x y ihx ihy=>
  intro ac Q s hc hv
  cases ac with
  |sem a=>exact hv _ hc
  |seq ax ay=>
   simp only[cCode,AC.er,Option.bind_eq_some_iff,Option.map_eq_some_iff,AC.seq.injEq]at hc
   obtain⟨_,hx,_,hy,rfl,rfl⟩:=hc
   intro φ F a w h
   refine wp_seq (wp_mono (ihx ax _ s hx hv φ F a w h) fun e a' w' hq=>?_)
   cases e with
   |normal=>
    obtain⟨s',φ',F',h1,h2,h3,h4⟩:=hq
    exact wp_mono (ihy ay Q s' hy h1 φ' F' a' w' h2) fun e a'' w'' hq'=>QA.trans h3 h4 hq'
   |exit id=>exact hq
   |ret=>exact hq
   |_=>exact hq.elim
  |_=>simp only[cCode,AC.er,Option.bind_eq_some_iff,Option.map_eq_some_iff]at hc;obtain⟨_,_,_,_,hc⟩:=hc;cases hc
 |cond c x y ihx ihy=>
  intro ac Q s hc hv
  cases ac with
  |sem a=>exact hv _ hc
  |cond c' ax ay=>
   simp only[cCode,AC.er,Option.bind_eq_some_iff,Option.map_eq_some_iff,AC.cond.injEq]at hc
   obtain⟨_,hc',_,hx,_,hy,rfl,rfl,rfl⟩:=hc
   intro φ F a w h
   simp only[vc]at hv
   split at hv
   ·rename_i t ht
    have e:=evV_rep h hc' ht
    cases t with
    |true=>exact wp_cond_true e (ihx ax Q s hx (hv.1 rfl) φ F a w h)
    |false=>exact wp_cond_false e (ihy ay Q s hy (hv.2 rfl) φ F a w h)
   ·exact hv.elim
  |_=>simp only[cCode,AC.er,Option.bind_eq_some_iff,Option.map_eq_some_iff]at hc;obtain⟨_,_,_,_,_,_,hc⟩:=hc;cases hc
 |block id x ih=>
  intro ac Q s hc hv
  cases ac with
  |sem a=>exact hv _ hc
  |block id' ax=>
   simp only[cCode,AC.er,Option.map_eq_some_iff,AC.block.injEq]at hc
   obtain⟨_,hx,rfl,rfl⟩:=hc
   intro φ F a w h
   refine wp_block (wp_mono (ih ax _ s hx hv φ F a w h) fun e a' w' hq=>?_)
   cases e with
   |normal=>exact hq
   |exit i=>
    simp only[Exit.inBlock]
    by_cases hi:i=id
    ·subst hi
     simp only[if_true]
     obtain⟨s',φ',F',h1,h2⟩:=hq
     exact⟨s',φ',F',by simpa[blockQ]using h1,h2⟩
    ·simp only[hi,if_false]
     obtain⟨s',φ',F',h1,h2⟩:=hq
     exact⟨s',φ',F',by simpa[blockQ,hi]using h1,h2⟩
   |ret=>exact hq
   |_=>exact hq.elim
  |_=>simp only[cCode,AC.er,Option.map_eq_some_iff]at hc;obtain⟨_,_,hc⟩:=hc;cases hc
 |loop x ih=>
  intro ac Q s hc hv
  cases ac with
  |sem a=>exact hv _ hc
  |loop ax=>exact hv _ hc
  |_=>simp only[cCode,AC.er,Option.map_eq_some_iff]at hc;obtain⟨_,_,hc⟩:=hc;cases hc
 |region id ops draw=>
  intro ac Q s hc hv
  cases draw with
  |true=>
   cases ac with
   |sem a=>exact hv _ hc
   |regd steps=>
    intro φ F a w h
    simp only[cCode,AC.er,if_true,cDraw,Option.bind_eq_some_iff]at hc
    obtain⟨steps',hsteps,hc⟩:=hc
    split at hc
    ·rename_i hB
     cases hc
     simp only[Bool.and_eq_true]at hB
     refine wp_region_any hB.2 ?_
     have hd:=drawB_ok hsteps hB.1
     have hdr:SRel n φ F s a {w with drawn:=w.drawn+1}:=by
      have stp:Stp φ F (hp s.heap) w φ F (hp s.heap) {w with drawn:=w.drawn+1}:=⟨fun b hb=>⟨hb,rfl⟩,fun id=>BStp.same rfl fun _ _ _=>rfl⟩
      refine⟨h.size,h.defers,⟨fun id blk hb=>BRep.mono stp rfl (fun _ _ _=>rfl) (h.rel.blk id blk hb),h.rel.dom,h.rel.inj,h.rel.frz⟩,fun t av ht=>(h.slot t av ht).mono stp⟩
     refine region_draw_sound (m:=m) hd hv hdr fun a' w' hp'=>?_
     refine Post.trans (s:=s) (s':=s) (w:=w) (w':={w with drawn:=w.drawn+1}) ⟨Nat.le_refl _,fun _ _ _=>rfl,fun id b o hi=> .inl ⟨id,o,hi⟩,fun b hb=> .inl hb,⟨rfl,rfl⟩⟩ ⟨fun b hb=>⟨hb,rfl⟩,fun id _=>BStp.same rfl fun _ _ _=>rfl⟩ hp'
    ·cases hc
   |_=>
    simp only[cCode,AC.er,if_true,cDraw,Option.bind_eq_some_iff]at hc
    obtain⟨_,_,hc⟩:=hc
    split at hc<;>cases hc
  |false=>
   cases ac with
   |sem a=>exact hv _ hc
   |reg steps=>
    intro φ F a w h
    simp only[cCode,AC.er,Bool.false_eq_true,if_false,Option.map_eq_some_iff,AC.reg.injEq]at hc
    obtain⟨steps',hsteps,rfl⟩:=hc
    refine wp_region ?_
    have:=vcOps_sound (m:=m) (ops:=ops) (Q:=QA n m φ F s w Q) ops.toList 0 steps' s (Q .normal) (fun j=>by simp) (by simp) hsteps hv h (fun a' w' hp'=>hp')
    simpa[List.range_eq_range']using this
   |_=>
    simp only[cCode,AC.er,Bool.false_eq_true,if_false,Option.map_eq_some_iff]at hc
    obtain⟨_,_,hc⟩:=hc;cases hc
 |_=>
  intro ac Q s hc hv
  cases ac with
  |sem a=>exact hv _ hc
  |_=>cases hc
end
end Go.Fw
namespace Go.Fw
abbrev kI(n:Int):O:= .k (.c (.d (.v (.int .i64 n))))
abbrev kB(b:Bool):O:= .k (.c (.d (.v (.bool b))))
abbrev kS(s:ByteArray):O:= .k (.c (.d (.v (.string s))))
abbrev kN:O:= .k (.c (.d (.v (.slice none 0 0))))
def View(n m:Nat)(s s':St):Prop:=∀φ F a w,SRel n φ F s a w→∃φ' F',SRel n φ' F' s' a w∧Fr φ F w φ' F' w∧StpM m φ F (hp s.heap) w φ' F' (hp s'.heap) w
theorem View.refl(n m:Nat)(s:St):View n m s s:=fun φ F _ w h=>⟨φ,F,h,Fr.refl _ _ _,StpM.refl _ _ _ _ _⟩
theorem View.trans{n m:Nat}{s s' s'':St}(h:View n m s s')(h':View n m s' s''):View n m s s'':=by
 intro φ F a w hs
 obtain⟨φ1,F1,h1,h2,h3⟩:=h φ F a w hs
 obtain⟨φ2,F2,h4,h5,h6⟩:=h' φ1 F1 a w h1
 exact⟨φ2,F2,h4,h2.trans h5,h3.trans h6⟩
theorem lk_mem{l:List (Nat×AV)}{t:Nat}{v:AV}(h:lk l t=some v):(t,v)∈l:=by
 induction l with
 |nil=>cases h
 |cons x l ih=>
  obtain⟨k,u⟩:=x
  simp only[lk]at h
  split at h
  ·rename_i hk;cases h;subst hk;simp
  ·exact List.mem_cons_of_mem _ (ih h)
theorem View.slots(n m:Nat){s:St}{sl:List (Nat×AV)}(h:∀x∈sl,lk s.slots x.1=some x.2):View n m s ⟨sl,s.heap⟩:=by
 intro φ F a w hs
 exact⟨φ,F,⟨hs.size,hs.defers,hs.rel,fun t av ht=>hs.slot t av (h _ (lk_mem ht))⟩,Fr.refl _ _ _,StpM.refl _ _ _ _ _⟩
def C.below(k:Nat):C→Bool
 | .own id _ _ _ _=>decide (id<k)
 | .pt id _=>decide (id<k)
 | .pe id _ _ _=>decide (id<k)
 | .fn _ caps=>caps.all fun c=>decide (c.1<k)
 | .mref id=>decide (id<k)
 |_=>true
def A1.below(k:Nat):A1→Bool
 | .c x=>x.below k
 | .agg cs=>cs.all (C.below k)
def AV.below(k:Nat):AV→Bool
 | .one a=>a.below k
 | .tup l=>l.all (A1.below k)
def Blk.below(k:Nat):Blk→Bool
 | .box cs=>cs.all (C.below k)
 | .arr .. =>true
 | .map ents=>ents.all fun e=>e.2.below k
def optBelow(k:Nat):Option Blk→Bool
 |some b=>b.below k
 |none=>true
theorem hp_take(l:List (Option Blk))(k i:Nat):hp (l.take k) i=if i<k then hp l i else none:=by
 simp only[hp,List.getElem?_take];split<;>rfl
theorem C.below_live{l:List (Option Blk)}{k:Nat}{c:C}(h:c.below k=true)(hl:c.live (hp l)):c.live (hp (l.take k)):=by
 have key:∀id,id<k→hp l id≠none→hp (l.take k) id≠none:=fun id h1 h2=>by rw[hp_take,if_pos h1];exact h2
 cases c with
 |own=>exact key _ (by simpa[C.below]using h) hl
 |pt=>exact key _ (by simpa[C.below]using h) hl
 |pe=>exact key _ (by simpa[C.below]using h) hl
 |mref=>exact key _ (by simpa[C.below]using h) hl
 |fn f caps=>exact fun c hc=>key _ (by simp only[C.below,List.all_eq_true]at h;simpa using h c hc) (hl c hc)
 |_=>trivial
theorem A1.below_live{l:List (Option Blk)}{k:Nat}{c:A1}(h:c.below k=true)(hl:c.live (hp l)):c.live (hp (l.take k)):=by
 cases c with
 |c x=>exact C.below_live h hl
 |agg cs=>exact fun c hc=>C.below_live (List.all_eq_true.1 h c hc) (hl c hc)
theorem AV.below_live{l:List (Option Blk)}{k:Nat}{c:AV}(h:c.below k=true)(hl:c.live (hp l)):c.live (hp (l.take k)):=by
 cases c with
 |one x=>exact A1.below_live h hl
 |tup cs=>exact fun c hc=>A1.below_live (List.all_eq_true.1 h c hc) (hl c hc)
theorem Blk.below_live{l:List (Option Blk)}{k:Nat}{c:Blk}(h:c.below k=true)(hl:c.live (hp l)):c.live (hp (l.take k)):=by
 cases c with
 |box cs=>exact fun c hc=>C.below_live (List.all_eq_true.1 h c hc) (hl c hc)
 |arr=>trivial
 |map ents=>exact fun c hc=>A1.below_live (List.all_eq_true.1 h c hc) (hl c hc)
theorem take_emb{φ F w}{l:List (Option Blk)}(hr:Rel φ F (hp l) w){k:Nat}(hb:(l.take k).all (optBelow k)=true):Emb (fun x=>x) (hp (l.take k)) (hp l):=by
 have hcl:∀x blk,hp (l.take k) x=some blk→blk.below k=true∧hp l x=some blk:=by
  intro x blk hx
  have h1:hp l x=some blk:=by rw[hp_take]at hx;split at hx<;>simp_all
  refine⟨?_,h1⟩
  have h2:(l.take k)[x]? =some (some blk):=by
   simp only[hp]at hx
   cases hg:(l.take k)[x]? with
   |none=>rw[hg]at hx;cases hx
   |some o=>rw[hg]at hx;simp only[Option.join_some]at hx;rw[hx]
  have:=List.all_eq_true.1 hb _ (List.mem_of_getElem? h2)
  exact this
 exact⟨fun x blk hx=>by rw[Blk.ren_id];exact(hcl x blk hx).2,fun i j _ _ he=>he,fun x blk hx=>Blk.below_live (hcl x blk hx).1 (hr.closed (hcl x blk hx).2)⟩
theorem down_frames{ρ:Nat→Nat}{H G:Heap}{φ:Phi}{F:Nat→Prop}{w:World}{m:Nat}(he:Emb ρ H G)(hm:∀i,i<m→ρ i=i)(hdom:∀i,i<m→G i≠none→H i≠none):
 Fr φ F w (down ρ H φ) F w∧StpM m φ F G w (down ρ H φ) F H w:=by
 refine⟨⟨Nat.le_refl _,fun _ _ _=>rfl,fun id b o hi=> .inl ⟨_,o,(down_some hi).2⟩,fun b hb=> .inl hb,Io.refl _⟩,⟨fun b hb=>⟨hb,rfl⟩,fun id hid=>?_⟩⟩
 cases hG:G id with
 |none=>trivial
 |some blk=>
  have hl:=hdom id hid (by simp[hG])
  cases hH:H id with
  |none=>exact(hl hH).elim
  |some blk'=>
   have:=he.at_ id blk' hH
   rw[hm id hid,hG]at this
   cases this
   have e:down ρ H φ id=φ id:=by rw[down_live hl,hm id hid]
   cases blk' with
   |box cells=>exact e
   |map ents=>exact e
   |arr ep sz rows=>exact⟨Nat.le_refl _,fun _=>⟨rfl,Nat.le_refl _,e,fun _ _ _=>rfl⟩⟩
theorem View.drop{n m:Nat}{s:St}(k:Nat)(hm:m≤k)(hh:(s.heap.take k).all (optBelow k)=true)(hs:s.slots.all (fun x=>x.2.below k)=true):View n m s ⟨s.slots,s.heap.take k⟩:=by
 intro φ F a w h
 have emb:=take_emb h.rel hh
 obtain⟨f1,f2⟩:=down_frames (φ:=φ) (F:=F) (w:=w) (m:=m) emb (fun _ _=>rfl) (fun i hi hg=>by rw[hp_take,if_pos (by omega)];exact hg)
 refine⟨_,F,⟨h.size,h.defers,Rel.down emb h.rel,fun t av ht=>?_⟩,f1,f2⟩
 have hav:=h.slot t av ht
 exact AVRep.down emb (AV.below_live (List.all_eq_true.1 hs _ (lk_mem ht)) hav.live) hav
theorem wp_loop_g{P:Program}{Q:Exit→Act→World→Prop}{a:Act}{w:World}{c:Code}(I:Nat→Act→World→Prop){k0:Nat}(h₀:I k0 a w)
 (round:∀k a w,I k a w→c.wp P (Exit.then (fun a' w'=>∃k',k'<k∧I k' a' w') Q) a w):(Code.loop c).wp P Q a w:=by
 intro b k cs
 have key:∀n a w,I n a w→
  ∃e a' w',Q e a' w'∧Arrives P (lone (b.at a (.code c:: .inLoop c::k)) cs w) b k cs e a' w':=by
  intro n
  induction n using Nat.strongRecOn with
  |_ n ih=>
   intro a w hI
   obtain⟨e,a₁,w₁,hq,harr⟩:=round n a w hI b (.inLoop c::k) cs
   cases e with
   |normal=>
    obtain⟨n',hlt,hI₁⟩:=hq
    obtain⟨e₂,a₂,w₂,hq₂,harr₂⟩:=ih n' hlt a₁ w₁ hI₁
    exact⟨e₂,a₂,w₂,hq₂,.of_steps (Steps.trans harr (.one step_inLoop)) harr₂⟩
   |exit id=>exact⟨_,a₁,w₁,hq,.pass (x:= .inLoop c) rfl (fun _ _=> .inl (by simp)) harr⟩
   |goto l=>exact⟨_,a₁,w₁,hq,.pass (x:= .inLoop c) rfl (fun _ _=> .inl (by simp)) harr⟩
   |ret=>exact⟨_,a₁,w₁,hq,.pass (x:= .inLoop c) rfl (fun _ _=> .inl (by simp)) harr⟩
   |panic ch=>exact⟨_,a₁,w₁,hq,.pass (x:= .inLoop c) rfl (fun _ _=> .inl (by simp)) harr⟩
   |outgrown=>exact⟨_,a₁,w₁,hq,.pass (x:= .inLoop c) rfl (fun _ _=> .inl (by simp)) harr⟩
 obtain⟨e,a',w',hq,harr⟩:=key _ a w h₀
 exact⟨e,a',w',hq,.of_steps (.one step_loop) harr⟩
theorem loop_rule{P:Program}{n m:Nat}{body:AC}{Q:XT→St→Prop}{s:St}(I:Nat→St→Prop)(h0:∃k s0,View n m s s0∧I k s0)
 (hr:∀k s,I k s→vc P n m body (thenQ (fun s'=>∃k' s'',k'<k∧View n m s' s''∧I k' s'') Q) s):WpC P n m (.loop body) Q s:=by
 intro c hc φ F a w h
 cases c with
 |loop c=>
  simp only[cCode,AC.er,Option.map_eq_some_iff,AC.loop.injEq]at hc
  obtain⟨_,hx,rfl⟩:=hc
  obtain⟨k0,s0,hview,hI⟩:=h0
  obtain⟨φ1,F1,h1,h2,h3⟩:=hview φ F a w h
  refine wp_loop_g (fun k a' w'=>∃s' φ' F',I k s'∧SRel n φ' F' s' a' w'∧Fr φ F w φ' F' w'∧StpM m φ F (hp s.heap) w φ' F' (hp s'.heap) w') (k0:=k0) ⟨s0,φ1,F1,hI,h1,h2,h3⟩ ?_
  rintro k a' w' ⟨s',φ',F',g1,g2,g3,g4⟩
  refine wp_mono (vc_sound c body _ s' hx (hr k s' g1) φ' F' a' w' g2) fun e a'' w'' hq=>?_
  cases e with
  |normal=>
   obtain⟨s2,φ2,F2,⟨k',s3,hlt,hv,hI'⟩,q2,q3,q4⟩:=hq
   obtain⟨φ3,F3,r1,r2,r3⟩:=hv φ2 F2 a'' w'' q2
   exact⟨k',hlt,s3,φ3,F3,hI',r1,(g3.trans q3).trans r2,(g4.trans q4).trans r3⟩
  |exit id=>exact QA.trans g3 g4 hq
  |ret=>exact QA.trans g3 g4 hq
  |_=>exact hq.elim
 |region id ops draw=>
  simp only[cCode,AC.er]at hc
  cases draw with
  |true=>
   simp only[if_true,cDraw,Option.bind_eq_some_iff]at hc
   obtain⟨_,_,hc⟩:=hc
   split at hc<;>cases hc
  |false=>
   simp only[Bool.false_eq_true,if_false,Option.map_eq_some_iff]at hc
   obtain⟨_,_,hc⟩:=hc;cases hc
 |seq=>simp only[cCode,AC.er,Option.bind_eq_some_iff,Option.map_eq_some_iff]at hc;obtain⟨_,_,_,_,hc⟩:=hc;cases hc
 |cond=>simp only[cCode,AC.er,Option.bind_eq_some_iff,Option.map_eq_some_iff]at hc;obtain⟨_,_,_,_,_,_,hc⟩:=hc;cases hc
 |block=>simp only[cCode,AC.er,Option.map_eq_some_iff]at hc;obtain⟨_,_,hc⟩:=hc;cases hc
 |_=>cases hc
theorem sem_rule{P:Program}{n m:Nat}{a:AC}{Q Q':XT→St→Prop}{s:St}(h:vc P n m a Q' s)
 (hq:∀e s',Q' e s'→∃s'',View n m s' s''∧Q e s''):WpC P n m a Q s:=by
 intro c hc φ F a' w hs
 refine wp_mono (vc_sound c a Q' s hc h φ F a' w hs) fun e a'' w'' hqa=>?_
 have go:∀e,Post n m φ F s w (Q' e) a'' w''→Post n m φ F s w (Q e) a'' w'':=by
  rintro e ⟨s1,φ1,F1,h1,h2,h3,h4⟩
  obtain⟨s2,hv,h5⟩:=hq e s1 h1
  obtain⟨φ2,F2,r1,r2,r3⟩:=hv φ1 F1 a'' w'' h2
  exact⟨s2,φ2,F2,h5,r1,h3.trans r2,h4.trans r3⟩
 cases e with
 |normal=>exact go _ hqa
 |exit id=>exact go _ hqa
 |ret=>exact go _ hqa
 |_=>exact hqa.elim
inductive RV where
 |tmp (t:Nat)
 |cell (t:Nat) (n:Option Nat)
def cRV(P:Program):ResultVar→Option RV
 | .tmp t=>some (.tmp t)
 | .cell t T=>(cellsT P T).map (.cell t)
def cRVs(P:Program):List ResultVar→Option (List RV)
 |[]=>some []
 |r::l=>(cRV P r).bind fun x=>(cRVs P l).map (x::·)
def resS(s:St):List RV→(List A1→Prop)→Prop
 |[],K=>K []
 | .tmp t::r,K=>match lk s.slots t with
   |some (.one a)=>resS s r fun l=>K (a::l)
   |_=>False
 | .cell t n::r,K=>match lk s.slots t with
   |some (.one (.c (.pt id off)))=>match hp s.heap id with
    |some (.box cells)=>ldC n (cells.drop off) fun out=>match out.val with
     |some (.one a)=>resS s r fun l=>K (a::l)
     |_=>False
    |_=>False
   |_=>False
def tupV:List A1→AV
 |[a]=> .one a
 |l=> .tup l
def Fin(m:Nat)(h:List (Option Blk))(l:List A1)(res:List A1)(H':List (Option Blk)):Prop:=
 ∀φ F w vs,Rel φ F (hp h) w→All2 (A1Rep φ F (hp h) w) l vs→∃φ' F',Rel φ' F' (hp H') w∧All2 (A1Rep φ' F' (hp H') w) res vs∧Fr φ F w φ' F' w∧StpM m φ F (hp h) w φ' F' (hp H') w
def endQ(m:Nat)(rvs:List RV)(res:List A1)(H':List (Option Blk)):XT→St→Prop
 | .exit _,_=>False
 |_,s=>resS s rvs fun l=>Fin m s.heap l res H'
def argSlots:Nat→List A1→List (Nat×AV)
 |_,[]=>[]
 |k,a::r=>(k,.one a)::argSlots (k+1) r
structure AFn where
 ntmps:Nat
 rvs:List RV
 code:AC
def AFn.er(A:AFn):AFn:=⟨A.ntmps,A.rvs,A.code.er⟩
def afn(P:Program)(f:FuncId):Option AFn:=
 match P.funcs[f]? with
 |some fn=>match fn.body with
  |some c=>if fn.name != "runtime.NumGoroutine" then(cRVs P fn.results.toList).bind fun rvs=>(cCode P fn.ntmps c).map fun ac=>⟨fn.ntmps,rvs,ac⟩else none
  |none=>none
 |none=>none
def rvSem(tmps:Array Value):ResultVar→Sem Value
 | .tmp t=>pure (tmps.getD t undef)
 | .cell a t=>do loadVar t (←asAddr (tmps.getD a undef))
theorem results_eq(fn:Func)(tmps:Array Value):results fn tmps=(do
 let vs←fn.results.mapM (rvSem tmps)
 pure (if h:vs.size=1 then vs[0]else .tuple vs)):=rfl
theorem resS_sound{P:Program}{n:Nat}{φ F s a w}(h:SRel n φ F s a w):∀{rs:List ResultVar} {rvs:List RV} {K:List A1→Prop},cRVs P rs=some rvs→resS s rvs K→
 ∃l vs,K l∧All2 (A1Rep φ F (hp s.heap) w) l vs∧(rs.mapM (rvSem a.tmps)).run P w= .ok vs w
 |[],rvs,K,hc,hk=>by cases hc;exact⟨[],[],hk,.nil,rfl⟩
 |r::rs,rvs,K,hc,hk=>by
  simp only[cRVs,Option.bind_eq_some_iff,Option.map_eq_some_iff]at hc
  obtain⟨rv,hrv,rvs',hrvs,rfl⟩:=hc
  have fin:∀{v:Value} {x:A1},(rvSem a.tmps r).run P w= .ok v w→A1Rep φ F (hp s.heap) w x v→resS s rvs' (fun l=>K (x::l))→
   ∃l vs,K l∧All2 (A1Rep φ F (hp s.heap) w) l vs∧((r::rs).mapM (rvSem a.tmps)).run P w= .ok vs w:=by
   intro v x hv hx hk
   obtain⟨l,vs,h1,h2,h3⟩:=resS_sound h hrvs hk
   refine⟨x::l,v::vs,h1,.cons hx h2,?_⟩
   rw[List.mapM_cons,run_bind,hv]
   simp only[run_bind,h3,run_pure]
  cases r with
  |tmp t=>
   cases hrv
   simp only[resS]at hk
   split at hk
   ·rename_i x hx
    exact fin rfl (h.slot t _ hx) hk
   ·exact hk.elim
  |cell c t=>
   simp only[cRV,Option.map_eq_some_iff]at hrv
   obtain⟨m,hm,rfl⟩:=hrv
   simp only[resS]at hk
   split at hk
   ·rename_i id off hx
    obtain⟨cells,b,o',hG,hφ,he⟩:=h.slot c _ hx
    rw[hG]at hk
    simp only[]at hk
    obtain⟨b',cs,T,h1,h2,h3⟩:=h.rel.blk _ _ hG
    rw[hφ]at h1;simp only[Option.some.injEq,Prod.mk.injEq]at h1
    obtain⟨rfl,rfl⟩:=h1
    obtain⟨av,v,hr,hK,hv⟩:=run_loadVar (P:=P) (w:=w) (b:=b) (off:=0+off) (F:=F) (φ:=φ) (G:=hp s.heap) hm (h3.drop off) (fun j v hj=>by
     rw[cell?_of_heap h2]
     rw[List.getElem?_drop]at hj
     simpa using hj) hk
    simp only at hK
    split at hK
    ·rename_i x hx'
     cases hx'
     refine fin ?_ hv hK
     simp only[rvSem,he,asAddr,run_bind,run_pure]
     exact hr
    ·exact hK.elim
   ·exact hk.elim
theorem argSlots_lk:∀(l:List A1) (k t:Nat),lk (argSlots k l) t=if k≤t then(l[t-k]?).map .one else none
 |[],k,t=>by simp[argSlots,lk]
 |a::l,k,t=>by
  simp only[argSlots,lk,argSlots_lk l]
  by_cases h:k=t
  ·subst h;simp
  ·by_cases h2:k≤t
   ·have h3:k+1≤t:=by omega
    rw[if_neg h,if_pos h3,if_pos h2]
    rw[show t-k=(t-(k+1))+1 by omega];rfl
   ·have h3:¬(k+1≤t):=by omega
    rw[if_neg h,if_neg h3,if_neg h2]
theorem callD_of{P:Program}{f:FuncId}{A:AFn}(hf:afn P f=some A.er){args:List A1}{H H':List (Option Blk)}{res:List A1}(hlen:args.length≤A.ntmps)
 (h:vc P A.ntmps H.length A.code (endQ H.length A.rvs res H') ⟨argSlots 0 args,H⟩):CallD P f args H (tupV res) H':=by
 unfold afn at hf
 split at hf
 ·rename_i fn hfn
  split at hf
  ·rename_i c hbody
   split at hf
   ·rename_i hname
    simp only[Option.bind_eq_some_iff,Option.map_eq_some_iff]at hf
    obtain⟨rvs,hrvs,ac,hac,hA0⟩:=hf
    obtain⟨nt,rv0,code⟩:=A
    simp only[AFn.er,AFn.mk.injEq]at hA0
    obtain⟨rfl,rfl,rfl⟩:=hA0
    refine fun φ F w vs hr hA=> .inl ⟨by simp[okFn,hfn,hbody];simpa using hname,?_⟩
    refine calls_of_wp hfn hbody ?_
    have hvl:vs.length≤fn.ntmps:=by rw[←All2.length hA];exact hlen
    have hs:SRel fn.ntmps φ F ⟨argSlots 0 args,H⟩ {tmps:=vs.toArray++Array.replicate (fn.ntmps-vs.toArray.size) undef,defers:=[]} w:=by
     refine⟨by simp;omega,rfl,hr,fun t av ht=>?_⟩
     rw[argSlots_lk]at ht
     simp only[Nat.zero_le,if_true,Nat.sub_zero,Option.map_eq_some_iff]at ht
     obtain⟨x,hx,rfl⟩:=ht
     obtain⟨v,hv,hrep⟩:=All2.get hA hx
     have hlt:=(List.getElem?_eq_some_iff.1 hv).1
     have:(vs.toArray++Array.replicate (fn.ntmps-vs.toArray.size) undef).getD t undef=v:=by
      rw[Array.getD_eq_getD_getElem?,Array.getElem?_append_left (by simpa using hlt)]
      simp[hv]
     rw[this];exact hrep
    have hw:=vc_sound c code _ _ hac h φ F _ w hs
    refine wp_mono hw fun e a' w' hq=>?_
    have fin:Post fn.ntmps H.length φ F ⟨argSlots 0 args,H⟩ w (fun s=>resS s rvs fun l=>Fin H.length s.heap l res H') a' w'→bodyPost P fn (fun e w'=>∃v,e= .returned v∧∃φ' F',AVRep φ' F' (hp H') w' (tupV res) v∧Rel φ' F' (hp H') w'∧Stp φ F (hp H) w φ' F' (hp H') w'∧Fr φ F w φ' F' w') .ret a' w':=by
     rintro⟨s',φ1,F1,h1,h2,h3,h4⟩
     obtain⟨l,vs',h5,h6,h7⟩:=resS_sound (P:=P) h2 hrvs h1
     obtain⟨φ2,F2,g1,g2,g3,g4⟩:=h5 φ1 F1 w' vs' h2.rel h6
     have hstp:Stp φ F (hp H) w φ2 F2 (hp H') w':=by
      have:=h4.trans g4
      refine⟨this.frz,fun id=>?_⟩
      by_cases hid:id<H.length
      ·exact this.blk id hid
      ·have:hp H id=none:=by simp[hp,List.getElem?_eq_none (by omega:H.length≤id)]
       simp only[this];trivial
     refine⟨h2.defers,if h:vs'.toArray.size=1 then vs'.toArray[0]else .tuple vs'.toArray,?_,_,rfl,φ2,F2,?_,g1,hstp,h3.trans g3⟩
     ·rw[results_eq]
      simp only[Array.mapM_eq_mapM_toList,run_bind]
      have e:(Functor.map (f:=Sem) List.toArray (List.mapM (rvSem a'.tmps) fn.results.toList)).run P w'= .ok vs'.toArray w':=by
       have:=run_bind P (List.mapM (rvSem a'.tmps) fn.results.toList) (fun x=>pure x.toArray) w'
       rw[h7]at this
       exact this
      rw[e]
      simp only[run_pure]
     ·have hl:=All2.length g2
      cases res with
      |nil=>cases g2;exact⟨[],rfl,.nil⟩
      |cons x r=>
       cases r with
       |nil=>
        cases g2 with
        |cons hx hn=>cases hn;exact hx
       |cons y r=>
        cases g2 with
        |cons hx hn=>
         cases hn with
         |cons hy hn=>
          exact⟨_,by simp,.cons hx (.cons hy hn)⟩
    cases e with
    |normal=>exact fin hq
    |ret=>exact fin hq
    |exit id=>obtain⟨s',φ',F',h1,_⟩:=hq;exact h1.elim
    |_=>exact hq.elim
   ·cases hf
  ·cases hf
 ·cases hf
end Go.Fw
namespace Go.Fw
abbrev aB(b:Bool):A1:= .c (.d (.v (.bool b)))
theorem wrapN{n:Nat}(h:n≤9223372036854775806):IntKind.i64.wrap ((n:Int)+1)=((n+1:Nat):Int):=by
 simp[IntKind.wrap,IntKind.bits,IntKind.signed];omega
theorem wrapI{n:Int}(h: -9223372036854775808≤n)(h':n≤9223372036854775807):IntKind.i64.wrap n=n:=by
 simp[IntKind.wrap,IntKind.bits,IntKind.signed];omega
theorem View.to{n m:Nat}{s:St}(k:Nat){sl:List (Nat×AV)}{h':List (Option Blk)}(h:∀x∈sl,lk s.slots x.1=some x.2)(hh:s.heap.take k=h')(hm:m≤k)(hs:sl.all (fun x=>x.2.below k)=true)(hb:h'.all (optBelow k)=true):
 View n m s ⟨sl,h'⟩:=by
 subst hh
 exact(View.slots n m h).trans (View.drop (s:=⟨sl,s.heap⟩) k hm hb hs)
end Go.Fw
namespace Go.Fw
def kOps(P:Program)(r:List AStep)(dst:Option Nat)(s:St)(K:St→Prop)(out:Out):Prop:=vcOps P r (s.apply dst out) K
def gOps(P:Program)(t want:Bool)(dst:Option Nat)(op:AOp)(r:List AStep)(g:Nat)(s:St)(K:St→Prop):Prop:=
 (t=want→opS P op ⟨setB s.slots g want,s.heap⟩ (kOps P r dst ⟨setB s.slots g want,s.heap⟩ K))∧
 (t= !want→vcOps P r (St.apply ⟨setB s.slots g (!want),s.heap⟩ dst skipOut) K)
section
variable {P:Program} {dst:Option Nat} {op:AOp} {bef:List Nat} {lone:Lone} {r:List AStep} {s:St} {K:St→Prop} {g:Nat} {want:Bool}
theorem kOps_eq{out:Out}:kOps P r dst s K out=vcOps P r (s.apply dst out) K:=rfl
theorem vcOps_nil:vcOps P [] s K=K s:=rfl
theorem vcOps_none:vcOps P (⟨dst,none,op,bef,lone⟩::r) s K=opS P op s (kOps P r dst s K):=rfl
theorem vcOps_some:vcOps P (⟨dst,some (g,want),op,bef,lone⟩::r) s K=match lk s.slots g with
 |some (.one (.c (.d (.v (.bool t)))))=>gOps P t want dst op r g s K
 |some (.tup [])=>kOps P r dst s K skipOut
 |_=>False:=rfl
theorem gOps_run:gOps P want want dst op r g s K=opS P op ⟨setB s.slots g want,s.heap⟩ (kOps P r dst ⟨setB s.slots g want,s.heap⟩ K):=by
 unfold gOps;cases want<;>simp
theorem gOps_skip{t:Bool}(h:t= !want):gOps P t want dst op r g s K=kOps P r dst ⟨setB s.slots g (!want),s.heap⟩ K skipOut:=by
 subst h;unfold gOps kOps;cases want<;>simp
theorem gOps_11:gOps P true true dst op r g s K=opS P op ⟨setB s.slots g true,s.heap⟩ (kOps P r dst ⟨setB s.slots g true,s.heap⟩ K):=gOps_run
theorem gOps_00:gOps P false false dst op r g s K=opS P op ⟨setB s.slots g false,s.heap⟩ (kOps P r dst ⟨setB s.slots g false,s.heap⟩ K):=gOps_run
theorem gOps_10:gOps P true false dst op r g s K=kOps P r dst ⟨setB s.slots g true,s.heap⟩ K skipOut:=gOps_skip rfl
theorem gOps_01:gOps P false true dst op r g s K=kOps P r dst ⟨setB s.slots g false,s.heap⟩ K skipOut:=gOps_skip rfl
theorem gOps_dec{p:Prop}[Decidable p]:gOps P (decide p) want dst op r g s K=((p→gOps P true want dst op r g s K)∧(¬p→gOps P false want dst op r g s K)):=by
 by_cases h:p<;>simp[h]
def kD(P:Program)(h:List (Option Blk))(r:List AStep)(i:Nat)(dst:Option Nat)(lone:Lone)(slots:List (Nat×AV))(wl:List (Nat×List (Nat×Blk)))(K:St→Prop)(out:Out):Prop:=
 WrOk slots h wl lone out.wr∧vcD P h r (i+1) (putSlot slots dst out.val) (addW i out.wr wl) K
def gD(P:Program)(h:List (Option Blk))(t want:Bool)(dst:Option Nat)(op:AOp)(bef:List Nat)(lone:Lone)(r:List AStep)(i:Nat)(g:Nat)(slots:List (Nat×AV))(wl:List (Nat×List (Nat×Blk)))(K:St→Prop):Prop:=
 (t=want→op1 P op ⟨setB slots g want,envH h wl bef⟩ (kD P h r i dst lone (setB slots g want) wl K))∧
 (t= !want→vcD P h r (i+1) (putSlot (setB slots g (!want)) dst skipOut.val) wl K)
variable {h:List (Option Blk)} {i:Nat} {slots:List (Nat×AV)} {wl:List (Nat×List (Nat×Blk))}
theorem WrOk_nil:WrOk slots h wl lone []=True:=by simp[WrOk]
theorem WrOk_lone{wr:List (Nat×Blk)}{ts:List Nat}{h':List (Option Blk)}(h:aparts slots wr ts=true):WrOk slots h' wl (.lone ts) wr=True:=by simp[WrOk,h]
theorem kD_eq{v:Option AV}{wr:List (Nat×Blk)}:kD P h r i dst lone slots wl K ⟨v,wr⟩=(WrOk slots h wl lone wr∧vcD P h r (i+1) (putSlot slots dst v) (addW i wr wl) K):=rfl
theorem kD_nil{v:Option AV}:kD P h r i dst lone slots wl K ⟨v,[]⟩=vcD P h r (i+1) (putSlot slots dst v) wl K:=by simp[kD,WrOk,addW]
theorem vcD_nil:vcD P h [] i slots wl K=K ⟨slots,wrs h (allW wl)⟩:=rfl
theorem vcD_none:vcD P h (⟨dst,none,op,bef,lone⟩::r) i slots wl K=op1 P op ⟨slots,envH h wl bef⟩ (kD P h r i dst lone slots wl K):=rfl
theorem vcD_some:vcD P h (⟨dst,some (g,want),op,bef,lone⟩::r) i slots wl K=match lk slots g with
 |some (.one (.c (.d (.v (.bool t)))))=>gD P h t want dst op bef lone r i g slots wl K
 |some (.tup [])=>kD P h r i dst lone slots wl K skipOut
 |_=>False:=by
 simp only[vcD,gD,kD,skipOut,WrOk,addW,true_or,true_and];rfl
theorem gD_run:gD P h want want dst op bef lone r i g slots wl K=op1 P op ⟨setB slots g want,envH h wl bef⟩ (kD P h r i dst lone (setB slots g want) wl K):=by
 unfold gD;cases want<;>simp
theorem gD_skip{t:Bool}(ht:t= !want):gD P h t want dst op bef lone r i g slots wl K=kD P h r i dst lone (setB slots g (!want)) wl K skipOut:=by
 subst ht;unfold gD;simp only[kD,skipOut,WrOk,addW,true_or,true_and];cases want<;>simp
theorem gD_11:gD P h true true dst op bef lone r i g slots wl K=op1 P op ⟨setB slots g true,envH h wl bef⟩ (kD P h r i dst lone (setB slots g true) wl K):=gD_run
theorem gD_00:gD P h false false dst op bef lone r i g slots wl K=op1 P op ⟨setB slots g false,envH h wl bef⟩ (kD P h r i dst lone (setB slots g false) wl K):=gD_run
theorem gD_10:gD P h true false dst op bef lone r i g slots wl K=kD P h r i dst lone (setB slots g true) wl K skipOut:=gD_skip rfl
theorem gD_01:gD P h false true dst op bef lone r i g slots wl K=kD P h r i dst lone (setB slots g false) wl K skipOut:=gD_skip rfl
theorem gD_dec{p:Prop}[Decidable p]:gD P h (decide p) want dst op bef lone r i g slots wl K=((p→gD P h true want dst op bef lone r i g slots wl K)∧(¬p→gD P h false want dst op bef lone r i g slots wl K)):=by
 by_cases hp:p<;>simp[hp]
theorem envH_nil:envH h [] bef=h:=rfl
theorem PickK_1{x y:Option AV}{K:Out→Prop}:PickK true x y K=match x with|some v=>K ⟨some v,[]⟩|none=>False:=by
 apply propext;constructor
 ·exact fun h=>h.1 rfl
 ·exact fun h=>⟨fun _=>h,fun h'=>by cases h'⟩
theorem PickK_0{x y:Option AV}{K:Out→Prop}:PickK false x y K=match y with|some v=>K ⟨some v,[]⟩|none=>False:=by
 apply propext;constructor
 ·exact fun h=>h.2 rfl
 ·exact fun h=>⟨fun h'=>(by cases h'),fun _=>h⟩
theorem nb_true:nb true=false:=rfl
theorem nb_false:nb false=true:=rfl
theorem nb_dec{p:Prop}[Decidable p]:nb (decide p)=decide (¬p):=by simp[nb]
end
inductive Frm where
 |seq (b:AC)
 |blk (id:Nat)
def unw(P:Program)(n m:Nat):List Frm→(XT→St→Prop)→XT→St→Prop
 |[],Q=>Q
 | .seq b::k,Q=>thenQ (vc P n m b (unw P n m k Q)) (unw P n m k Q)
 | .blk id::k,Q=>blockQ id (unw P n m k Q)
def vcK(P:Program)(n m:Nat)(a:AC)(k:List Frm)(Q:XT→St→Prop)(s:St):Prop:=vc P n m a (unw P n m k Q) s
def cnd(P:Program)(n m:Nat)(t:Bool)(a b:AC)(k:List Frm)(Q:XT→St→Prop)(s:St):Prop:=(t=true→vcK P n m a k Q s)∧(t=false→vcK P n m b k Q s)
def loopQ(n m:Nat)(I:Nat→St→Prop)(k:Nat)(Q:XT→St→Prop):XT→St→Prop
 | .normal,s'=>∃k' s'',k'<k∧View n m s' s''∧I k' s''
 |x,s'=>Q x s'
def nrmK(P:Program)(n m:Nat)(k:List Frm)(Q:XT→St→Prop)(s:St):Prop:=unw P n m k Q .normal s
section
variable {P:Program} {n m:Nat} {Q:XT→St→Prop} {s:St} {a b:AC} {k:List Frm}
theorem vcK_of(h:vcK P n m a [] Q s):vc P n m a Q s:=h
theorem vc_skip:vcK P n m .skip k Q s=nrmK P n m k Q s:=rfl
theorem vc_reg{ops:List AStep}:vcK P n m (.reg ops) k Q s=vcOps P ops s (nrmK P n m k Q):=rfl
theorem vc_regd{ops:List AStep}:vcK P n m (.regd ops) k Q s=vcD P s.heap ops 0 s.slots [] (nrmK P n m k Q):=rfl
theorem vc_seq:vcK P n m (.seq a b) k Q s=vcK P n m a (.seq b::k) Q s:=rfl
theorem vc_block{id:Nat}:vcK P n m (.block id a) k Q s=vcK P n m a (.blk id::k) Q s:=rfl
theorem vc_loop:vcK P n m (.loop a) k Q s=WpC P n m (.loop a) (unw P n m k Q) s:=rfl
theorem vc_sem:vcK P n m (.sem a) k Q s=WpC P n m a (unw P n m k Q) s:=rfl
theorem vc_exit{id:Nat}:vcK P n m (.exit id) k Q s=unw P n m k Q (.exit id) s:=rfl
theorem vc_ret:vcK P n m .ret k Q s=unw P n m k Q .ret s:=rfl
theorem vc_cond{c:O}:vcK P n m (.cond c a b) k Q s=match s.evV c with
 |some (.bool t)=>cnd P n m t a b k Q s
 |_=>False:=rfl
theorem cnd_1:cnd P n m true a b k Q s=vcK P n m a k Q s:=by simp[cnd]
theorem cnd_0:cnd P n m false a b k Q s=vcK P n m b k Q s:=by simp[cnd]
theorem cnd_dec{p:Prop}[Decidable p]:cnd P n m (decide p) a b k Q s=((p→vcK P n m a k Q s)∧(¬p→vcK P n m b k Q s)):=by
 by_cases hp:p<;>simp[hp,cnd]
theorem nrmK_seq:nrmK P n m (.seq b::k) Q s=vcK P n m b k Q s:=rfl
theorem nrmK_blk{id:Nat}:nrmK P n m (.blk id::k) Q s=nrmK P n m k Q s:=rfl
theorem nrmK_nil:nrmK P n m [] Q s=Q .normal s:=rfl
theorem unw_exit_seq{i:Nat}:unw P n m (.seq b::k) Q (.exit i) s=unw P n m k Q (.exit i) s:=rfl
theorem unw_exit_blk{i id:Nat}:unw P n m (.blk id::k) Q (.exit i) s=if i=id then nrmK P n m k Q s else unw P n m k Q (.exit i) s:=rfl
theorem unw_exit_nil{i:Nat}:unw P n m [] Q (.exit i) s=Q (.exit i) s:=rfl
theorem unw_ret_seq:unw P n m (.seq b::k) Q .ret s=unw P n m k Q .ret s:=rfl
theorem unw_ret_blk{id:Nat}:unw P n m (.blk id::k) Q .ret s=unw P n m k Q .ret s:=rfl
theorem unw_ret_nil:unw P n m [] Q .ret s=Q .ret s:=rfl
theorem loopQ_exit{I:Nat→St→Prop}{j i:Nat}:loopQ n m I j Q (.exit i) s=Q (.exit i) s:=rfl
theorem loopQ_ret{I:Nat→St→Prop}{j:Nat}:loopQ n m I j Q .ret s=Q .ret s:=rfl
theorem loopK_rule{body:AC}(I:Nat→St→Prop)(h0:∃k s0,View n m s s0∧I k s0)
 (hr:∀j s,I j s→vcK P n m body [] (loopQ n m I j (unw P n m k Q)) s):WpC P n m (.loop body) (unw P n m k Q) s:=by
 refine loop_rule I h0 fun j s hI=>?_
 have:=hr j s hI
 have e:loopQ n m I j (unw P n m k Q)=thenQ (fun s'=>∃k' s'',k'<j∧View n m s' s''∧I k' s'') (unw P n m k Q):=by
  funext x s';cases x<;>rfl
 rw[e]at this
 exact this
end
theorem apply_some{s:St}{d:Nat}{v:AV}{wr:List (Nat×Blk)}:s.apply (some d) ⟨some v,wr⟩=⟨(d,v)::s.slots,wrs s.heap wr⟩:=rfl
theorem apply_none{s:St}{v:Option AV}{wr:List (Nat×Blk)}:s.apply none ⟨v,wr⟩=⟨s.slots,wrs s.heap wr⟩:=rfl
theorem apply_skip{s:St}{d:Nat}:s.apply (some d) skipOut=⟨(d,.tup [])::s.slots,s.heap⟩:=rfl
theorem putSlot_some{slots:List (Nat×AV)}{d:Nat}{v:AV}:putSlot slots (some d) (some v)=(d,v)::slots:=rfl
theorem putSlot_none{slots:List (Nat×AV)}{v:Option AV}:putSlot slots none v=slots:=rfl
theorem ExRow.map{α:Type}{enc:α→List D}{xs:List α}{j:Nat}{sz:Nat}{K:Out→Prop}(h:j<xs.length)(hs:(enc xs[j]).length=sz)(hk:K ⟨some (.one (.c (.fp (enc xs[j])))),[]⟩):
 ExRow (xs.map enc) (j:Int) sz K:=⟨by omega,enc xs[j],by simp[h],hs,hk⟩
end Go.Fw
namespace Go.Fw
section
variable {P:Program} {n m:Nat} {Q:XT→St→Prop} {s:St} {I:Nat→St→Prop} {k:Nat}
end
end Go.Fw
namespace Go.Fw
def entsD(ents:List (Value×A1)):Bool:=ents.all fun e=>e.2.isDt
theorem C.isDt_rep{φ φ':Phi}{F:Nat→Prop}{G G':Heap}{w:World}{c:C}{v:Value}(hd:c.isDt=true)(h:CRep φ F G w c v):CRep φ' F G' w c v:=by
 cases c<;>first|exact h|cases hd
theorem A1.isDt_rep{φ φ':Phi}{F:Nat→Prop}{G G':Heap}{w:World}{c:A1}{v:Value}(hd:c.isDt=true)(h:A1Rep φ F G w c v):A1Rep φ' F G' w c v:=by
 cases c with
 |c x=>exact C.isDt_rep hd h
 |agg cs=>
  obtain⟨vs,rfl,h⟩:=h
  simp only[A1.isDt,List.all_eq_true]at hd
  refine⟨vs,rfl,?_⟩
  unfold CsRep at*
  induction h with
  |nil=>exact .nil
  |cons a _ ih=>exact .cons (C.isDt_rep (hd _ (List.mem_cons_self ..)) a) (ih fun c hc=>hd c (List.mem_cons_of_mem _ hc))
theorem entsD_rep{φ φ':Phi}{F:Nat→Prop}{G G':Heap}{w:World}{ents:List (Value×A1)}{es:List MapEntry}(hd:entsD ents=true)(h:All2 (fun(e:Value×A1) (m:MapEntry)=>m.key=e.1∧A1Rep φ F G w e.2 m.val) ents es):
 All2 (fun(e:Value×A1) (m:MapEntry)=>m.key=e.1∧A1Rep φ' F G' w e.2 m.val) ents es:=by
 simp only[entsD,List.all_eq_true]at hd
 induction h with
 |nil=>exact .nil
 |cons a _ ih=>exact .cons ⟨a.1,A1.isDt_rep (hd _ (List.mem_cons_self ..)) a.2⟩ (ih fun c hc=>hd c (List.mem_cons_of_mem _ hc))
def reC(h:List (Option Blk))(ρ:List Nat)(H':List (Option Blk)):C→C→Prop
 | .d x,.d y=>x=y
 | .fp x,.fp y=>x=y
 | .mref k,.mref j=>ρ[k]? =some j∧match hp H' k with|some (.map _)=>True|_=>False
 | .pt k off,.pt j off'=>(ρ[k]? =some j∧off=off')∧match hp H' k with|some (.box _)=>True|_=>False
 | .own k ep' off len cap',.own j ep off' len' cap=>(ρ[k]? =some j∧off=off'∧len=len')∧match hp h j with
   |some (.arr e _ _)=>(ep=e∧(cap'=cap∨cap'=none))∧match hp H' k with
    |some (.arr e' _ rows)=>ep'=e'∧(cap'=none→off+len≤rows.length)
    |_=>False
   |_=>False
 |_,_=>False
def reCs(h:List (Option Blk))(ρ:List Nat)(H':List (Option Blk)):List C→List C→Prop
 |[],[]=>True
 |x::l,y::m=>reC h ρ H' x y∧reCs h ρ H' l m
 |_,_=>False
def reA(h:List (Option Blk))(ρ:List Nat)(H':List (Option Blk)):A1→A1→Prop
 | .c x,.c y=>reC h ρ H' x y
 | .agg xs,.agg ys=>reCs h ρ H' xs ys
 |_,_=>False
def reAs(h:List (Option Blk))(ρ:List Nat)(H':List (Option Blk)):List A1→List A1→Prop
 |[],[]=>True
 |x::l,y::m=>reA h ρ H' x y∧reAs h ρ H' l m
 |_,_=>False
def reB(h:List (Option Blk))(ρ:List Nat)(H':List (Option Blk))(j:Nat):Option Blk→Prop
 |some (.arr _ sz rows)=>match hp h j with
  |some (.arr _ sz' rows')=>sz'=sz∧(rows'=rows∨∃r,rows'=rows++r)
  |_=>False
 |some (.box cells)=>match hp h j with
  |some (.box cells')=>reCs h ρ H' cells cells'
  |_=>False
 |some (.map ents)=>match hp h j with
  |some (.map ents')=>ents'=ents∧entsD ents=true
  |_=>False
 |none=>False
def reBs(h:List (Option Blk))(ρ0:List Nat)(H0:List (Option Blk)):List Nat→List (Option Blk)→Prop
 |[],[]=>True
 |j::ρ,b::H'=>reB h ρ0 H0 j b∧reBs h ρ0 H0 ρ H'
 |_,_=>False
def keep1(i j:Nat):Option Blk→Option Blk→Prop
 |some (.arr e sz rows),some (.arr e' sz' rows')=>e<e'∨(e=e'∧sz'=sz∧rows.length≤rows'.length∧j=i)
 |some (.box _),some (.box _)=>j=i
 |some (.map _),some (.map _)=>j=i
 |none,_=>True
 |_,_=>False
def keeps:Nat→List (Option Blk)→List Nat→List (Option Blk)→Prop
 |_,[],_,_=>True
 |i,b::h,j::ρ,b'::H'=>keep1 i j b b'∧keeps (i+1) h ρ H'
 |_,_,_,_=>False
def rePhi(ρ:List Nat)(φ:Phi):Phi:=fun k=>(ρ[k]?).bind φ
theorem reBs_get{h:List (Option Blk)}{ρ0:List Nat}{H0:List (Option Blk)}:∀{ρ:List Nat} {H':List (Option Blk)},reBs h ρ0 H0 ρ H'→ρ.length=H'.length∧∀(k:Nat) j,ρ[k]? =some j→∃b,H'[k]? =some b∧reB h ρ0 H0 j b
 |[],[],_=>⟨rfl,fun k j hk=>by simp at hk⟩
 |j::ρ,b::H',⟨h1,h2⟩=>by
  obtain⟨g1,g2⟩:=reBs_get h2
  refine⟨by simp[g1],fun k j' hk=>?_⟩
  cases k with
  |zero=>simp at hk;subst hk;exact⟨b,rfl,h1⟩
  |succ k=>simpa using g2 k j' (by simpa using hk)
 |[],_::_,h=>h.elim
 |_::_,[],h=>h.elim
theorem keeps_get:∀{i:Nat} {h:List (Option Blk)} {ρ:List Nat} {H':List (Option Blk)},keeps i h ρ H'→∀(k:Nat) b,h[k]? =some b→∃j b',ρ[k]? =some j∧H'[k]? =some b'∧keep1 (i+k) j b b'
 |i,[],_,_,_,k,b,hk=>by simp at hk
 |i,b::h,j::ρ,b'::H',⟨h1,h2⟩,k,x,hk=>by
  cases k with
  |zero=>simp at hk;subst hk;exact⟨j,b',rfl,rfl,h1⟩
  |succ k=>
   obtain⟨j',b'',g1,g2,g3⟩:=keeps_get h2 k x (by simpa using hk)
   exact⟨j',b'',by simpa using g1,by simpa using g2,by rw[show i+(k+1)=i+1+k by omega];exact g3⟩
 |i,b::h,[],H',h',_,_,_=>h'.elim
 |i,b::h,j::ρ,[],h',_,_,_=>h'.elim
section
variable {φ:Phi} {F:Nat→Prop} {w:World} {h H':List (Option Blk)} {ρ:List Nat}
theorem reC_rep{c' c:C}{v:Value}(hB:reBs h ρ H' ρ H')(hr:reC h ρ H' c' c)(hc:CRep φ F (hp h) w c v):CRep (rePhi ρ φ) F (hp H') w c' v:=by
 obtain⟨hlen,hB⟩:=reBs_get hB
 cases c'<;>cases c<;>try exact hr.elim
 ·cases hr;exact hc
 ·rename_i k ep' off len cap' j ep off' len' cap
  obtain⟨⟨hk,rfl,rfl⟩,hr⟩:=hr
  obtain⟨e,sz,rows,hG,hle,A,l,k2,rfl,hA⟩:=hc
  rw[hG]at hr
  obtain⟨⟨rfl,hcap⟩,hr⟩:=hr
  split at hr
  ·rename_i e' sz' rows' hH
   obtain⟨rfl,hlen'⟩:=hr
   obtain⟨b,hb,hb2⟩:=hB k j hk
   have hb':b=some (.arr ep' sz' rows'):=by
    have:hp H' k=b:=by simp[hp,hb]
    rw[←this];exact hH
   subst hb'
   simp only[reB,hG]at hb2
   obtain⟨rfl,_⟩:=hb2
   obtain⟨rfl,g1,g2,g3,g4⟩:=hA rfl
   refine⟨ep',sz,rows',hH,Nat.le_refl _,A,l,k2,rfl,fun _=>⟨rfl,g1,?_,?_,?_⟩⟩
   ·intro c hc
    rcases hcap with rfl|rfl
    ·exact g2 c hc
    ·cases hc
   ·exact hlen'
   ·rcases g4 with g4|⟨b,o,n,q1,q2⟩
    ·exact .inl g4
    ·exact .inr ⟨b,o,n,by simp[rePhi,hk,q1],q2⟩
  ·exact hr.elim
 ·rename_i k off j off'
  obtain⟨⟨hk,rfl⟩,hr⟩:=hr
  obtain⟨cells,b,o,q1,q2,q3⟩:=hc
  split at hr
  ·rename_i cells' hH
   exact⟨cells',b,o,hH,by simp[rePhi,hk,q2],q3⟩
  ·exact hr.elim
 ·cases hr;exact hc
 ·obtain⟨hk,hr⟩:=hr
  obtain⟨ents,b,q1,q2,q3⟩:=hc
  split at hr
  ·rename_i ents' hH
   exact⟨ents',b,hH,by simp[rePhi,hk,q2],q3⟩
  ·exact hr.elim
theorem reCs_rep(hB:reBs h ρ H' ρ H'):∀{cs' cs:List C} {vs:List Value},reCs h ρ H' cs' cs→CsRep φ F (hp h) w cs vs→CsRep (rePhi ρ φ) F (hp H') w cs' vs
 |[],[],vs,_,hc=>by cases hc;exact .nil
 |x::l,y::m,vs,⟨h1,h2⟩,hc=>by
  cases hc with
  |cons a b=>exact .cons (reC_rep hB h1 a) (reCs_rep hB h2 b)
 |[],_::_,_,h,_=>h.elim
 |_::_,[],_,h,_=>h.elim
theorem reA_rep(hB:reBs h ρ H' ρ H'){c' c:A1}{v:Value}(hr:reA h ρ H' c' c)(hc:A1Rep φ F (hp h) w c v):A1Rep (rePhi ρ φ) F (hp H') w c' v:=by
 cases c'<;>cases c
 ·exact reC_rep hB hr hc
 ·exact hr.elim
 ·exact hr.elim
 ·obtain⟨vs,rfl,hc⟩:=hc;exact⟨vs,rfl,reCs_rep hB hr hc⟩
theorem reAs_rep(hB:reBs h ρ H' ρ H'):∀{cs' cs:List A1} {vs:List Value},reAs h ρ H' cs' cs→All2 (A1Rep φ F (hp h) w) cs vs→All2 (A1Rep (rePhi ρ φ) F (hp H') w) cs' vs
 |[],[],vs,_,hc=>by cases hc;exact .nil
 |x::l,y::m,vs,⟨h1,h2⟩,hc=>by
  cases hc with
  |cons a b=>exact .cons (reA_rep hB h1 a) (reAs_rep hB h2 b)
 |[],_::_,_,h,_=>h.elim
 |_::_,[],_,h,_=>h.elim
theorem re_core{m:Nat}(hr:Rel φ F (hp h) w)(hB:reBs h ρ H' ρ H')(hn:ρ.Nodup)(hk:keeps 0 (h.take m) ρ H'):
 Rel (rePhi ρ φ) F (hp H') w∧Fr φ F w (rePhi ρ φ) F w∧StpM m φ F (hp h) w (rePhi ρ φ) F (hp H') w:=by
 obtain⟨hlen,hB'⟩:=reBs_get hB
 have hphi:∀{k:Nat} {x},rePhi ρ φ k=some x→∃j,ρ[k]? =some j∧φ j=some x:=by
  intro k x hx
  simp only[rePhi,Option.bind_eq_some_iff]at hx
  exact hx
 refine⟨⟨fun k blk hb=>?_,fun k x hx=>?_,fun i j b o b' o' hi hj hbb=>?_,fun b hb=>⟨(hr.frz b hb).1,fun k b' o hi=>?_⟩⟩,⟨Nat.le_refl _,fun _ _ _=>rfl,fun k b o hi=>?_,fun b hb=> .inl hb,Io.refl _⟩,⟨fun b hb=>⟨hb,rfl⟩,fun i hi=>?_⟩⟩
 ·have hkl:k<ρ.length:=by
   rw[hlen]
   by_cases hlt:k<H'.length
   ·exact hlt
   ·simp[hp,List.getElem?_eq_none (by omega:H'.length≤k)]at hb
  obtain⟨b,hb1,hb2⟩:=hB' k ρ[k] (List.getElem?_eq_getElem hkl)
  have hj:ρ[k]? =some ρ[k]:=List.getElem?_eq_getElem hkl
  have:b=some blk:=by rw[←hb];simp[hp,hb1]
  subst this
  cases blk with
  |arr e sz rows=>
   simp only[reB]at hb2
   split at hb2
   ·rename_i e' sz' rows' hG
    obtain⟨rfl,hrows⟩:=hb2
    obtain⟨r,rfl⟩:∃r,rows'=rows++r:=by
     rcases hrows with rfl|h
     ·exact⟨[],by simp⟩
     ·exact h
    have:=hr.blk _ _ hG
    rcases this with⟨q1,q2⟩|⟨b,o,cs,T,q1,q2,q3,q4,q5⟩
    ·exact .inl ⟨by simp[rePhi,hj,q1],(List.append_eq_nil_iff.1 q2).1⟩
    ·refine .inr ⟨b,o,cs,T,by simp[rePhi,hj,q1],q2,?_,fun row hrow=>q4 row (List.mem_append_left _ hrow),fun i row hi=>q5 i row ?_⟩
     ·rw[List.length_append,Nat.add_mul]at q3;omega
     ·rw[List.getElem?_append_left (List.getElem?_eq_some_iff.1 hi).1];exact hi
   ·exact hb2.elim
  |box cells=>
   simp only[reB]at hb2
   split at hb2
   ·rename_i cells' hG
    obtain⟨b,cs,T,q1,q2,q3⟩:=hr.blk _ _ hG
    exact⟨b,cs,T,by simp[rePhi,hj,q1],q2,reCs_rep hB hb2 q3⟩
   ·exact hb2.elim
  |map ents=>
   simp only[reB]at hb2
   split at hb2
   ·rename_i ents' hG
    obtain⟨rfl,hd⟩:=hb2
    obtain⟨b,es,clock,q1,q2,q4,q3⟩:=hr.blk _ _ hG
    exact⟨b,es,clock,by simp[rePhi,hj,q1],q2,q4,entsD_rep hd q3⟩
   ·exact hb2.elim
 ·obtain⟨j,hj,_⟩:=hphi hx
  have hkl:=(List.getElem?_eq_some_iff.1 hj).1
  obtain⟨b,hb1,hb2⟩:=hB' k j hj
  cases b with
  |none=>exact hb2.elim
  |some b=>simp[hp,hb1]
 ·obtain⟨i',hi1,hi2⟩:=hphi hi
  obtain⟨j',hj1,hj2⟩:=hphi hj
  have:=hr.inj i' j' b o b' o' hi2 hj2 hbb
  subst this
  have h1:=(List.getElem?_eq_some_iff.1 hi1)
  have h2:=(List.getElem?_eq_some_iff.1 hj1)
  exact(List.getElem?_inj h1.1 hn).1 (hi1.trans hj1.symm)
 ·obtain⟨j,_,hj⟩:=hphi hi
  exact(hr.frz b hb).2 j b' o hj
 ·obtain⟨j,_,hj⟩:=hphi hi
  exact .inl ⟨j,o,hj⟩
 ·cases hg:hp h i with
  |none=>trivial
  |some blk=>
   have hi':(h.take m)[i]? =some (some blk):=by
    rw[List.getElem?_take,if_pos hi]
    simp only[hp]at hg
    cases hx:h[i]? with
    |none=>simp[hx]at hg
    |some y=>simp[hx]at hg;rw[hg]
   obtain⟨j,b',hj,hb',hk1⟩:=keeps_get hk i _ hi'
   have hH:hp H' i=b':=by simp[hp,hb']
   obtain⟨b2,hb2,hb3⟩:=hB' i j hj
   rw[hb']at hb2
   cases hb2
   rw[hH]
   rw[Nat.zero_add]at hk1
   cases blk with
   |arr e sz rows=>
    cases b' with
    |none=>exact hb3.elim
    |some b'=>cases b' with
     |box _=>exact hk1.elim
     |map _=>exact hk1.elim
     |arr e' sz' rows'=>
      simp only[keep1]at hk1
      rcases hk1 with hlt|⟨rfl,rfl,hl,rfl⟩
      ·exact⟨by omega,fun he=>by omega⟩
      ·exact⟨Nat.le_refl _,fun _=>⟨rfl,hl,by simp[rePhi,hj],fun _ _ _=>rfl⟩⟩
   |box cells=>
    cases b' with
    |none=>exact hb3.elim
    |some b'=>cases b' with
     |arr _ _ _=>exact hk1.elim
     |map _=>exact hk1.elim
     |box _=>
      simp only[keep1]at hk1
      subst hk1
      simp[BStp,rePhi,hj]
   |map ents=>
    cases b' with
    |none=>exact hb3.elim
    |some b'=>cases b' with
     |arr _ _ _=>exact hk1.elim
     |box _=>exact hk1.elim
     |map _=>
      simp only[keep1]at hk1
      subst hk1
      simp[BStp,rePhi,hj]
end
def reV(h:List (Option Blk))(ρ:List Nat)(H':List (Option Blk)):AV→AV→Prop
 | .one x,.one y=>reA h ρ H' x y
 | .tup xs,.tup ys=>reAs h ρ H' xs ys
 |_,_=>False
def reSl(h:List (Option Blk))(ρ:List Nat)(H':List (Option Blk))(s:List (Nat×AV)):List (Nat×AV)→Prop
 |[]=>True
 |(t,v)::r=>(match lk s t with|some u=>reV h ρ H' v u|none=>False)∧reSl h ρ H' s r
theorem reSl_get{h:List (Option Blk)}{ρ:List Nat}{H':List (Option Blk)}{s:List (Nat×AV)}:∀{sl:List (Nat×AV)},reSl h ρ H' s sl→∀t v,lk sl t=some v→∃u,lk s t=some u∧reV h ρ H' v u
 |[],_,t,v,ht=>by cases ht
 |(t',v')::r,⟨h1,h2⟩,t,v,ht=>by
  simp only[lk]at ht
  split at ht
  ·rename_i he;subst he;cases ht
   split at h1
   ·rename_i u hu;exact⟨u,hu,h1⟩
   ·exact h1.elim
  ·exact reSl_get h2 t v ht
theorem View.re{n m:Nat}{s:St}{sl:List (Nat×AV)}{H':List (Option Blk)}(ρ:List Nat)(hB:reBs s.heap ρ H' ρ H')(hn:ρ.Nodup)(hk:keeps 0 (s.heap.take m) ρ H')(hs:reSl s.heap ρ H' s.slots sl):View n m s ⟨sl,H'⟩:=by
 intro φ F a w hsr
 obtain⟨g1,g2,g3⟩:=re_core hsr.rel hB hn hk
 refine⟨_,F,⟨hsr.size,hsr.defers,g1,fun t av ht=>?_⟩,g2,g3⟩
 obtain⟨u,hu,hv⟩:=reSl_get hs t av ht
 have:=hsr.slot t u hu
 cases av<;>cases u
 ·exact reA_rep hB hv this
 ·exact hv.elim
 ·exact hv.elim
 ·obtain⟨vs,he,hl⟩:=this
  exact⟨vs,he,reAs_rep hB hv hl⟩
theorem View.adopt{n m:Nat}{s:St}(t sz:Nat)(ht:lk s.slots t=some (.one (.c (.d (.v (.slice none 0 0)))))):View n m s ⟨(t,.one (.c (.own s.heap.length 0 0 0 none)))::s.slots,s.heap++[some (.arr 0 sz [])]⟩:=by
 intro φ F a w hs
 have hnew:hp (s.heap++[some (.arr 0 sz [])]) s.heap.length=some (.arr 0 sz []):=by simp[hp]
 have hold:∀i,i≠s.heap.length→hp (s.heap++[some (.arr 0 sz [])]) i=hp s.heap i:=by
  intro i hi
  simp only[hp,List.getElem?_append]
  split
  ·rfl
  ·rename_i h1
   rw[List.getElem?_eq_none (by omega:s.heap.length≤i),List.getElem?_eq_none (by simp;omega)]
 have hφ:φ s.heap.length=none:=by
  cases h:φ s.heap.length with
  |none=>rfl
  |some x=>have:=hs.rel.dom _ _ h;rw[hp_len]at this;cases this
 have stp:Stp φ F (hp s.heap) w φ F (hp (s.heap++[some (.arr 0 sz [])])) w:=by
  refine⟨fun b hb=>⟨hb,rfl⟩,fun id=>?_⟩
  by_cases hid:id=s.heap.length
  ·subst hid;rw[hp_len];trivial
  ·rw[hold id hid];exact BStp.refl _ _ _ _
 refine⟨φ,F,⟨hs.size,hs.defers,⟨fun id blk hb=>?_,fun id x hx=>?_,hs.rel.inj,hs.rel.frz⟩,fun t' av hav=>?_⟩,Fr.refl _ _ _,stp.m⟩
 ·by_cases hid:id=s.heap.length
  ·subst hid;rw[hnew]at hb;cases hb;exact .inl ⟨hφ,rfl⟩
  ·rw[hold id hid]at hb
   exact BRep.mono stp rfl (fun _ _ _=>rfl) (hs.rel.blk id blk hb)
 ·by_cases hid:id=s.heap.length
  ·subst hid;rw[hφ]at hx;cases hx
  ·rw[hold id hid];exact hs.rel.dom id x hx
 ·simp only[lk]at hav
  split at hav
  ·rename_i he;subst he
   cases hav
   have h0:DRep w F (.v (.slice none 0 0)) (a.tmps.getD t undef):=hs.slot t _ ht
   generalize a.tmps.getD t undef=val at h0
   cases h0
   exact⟨0,sz,[],hnew,Nat.le_refl _,none,0,0,rfl,fun _=>⟨rfl,Nat.le_refl _,fun c hc=>(by cases hc),fun _=>(by simp),.inl rfl⟩⟩
  ·have:=hs.slot t' av hav
   cases av with
   |one x=>exact A1Rep.mono stp this
   |tup l=>obtain⟨vs,h1,h2⟩:=this;exact⟨vs,h1,h2.imp fun _ _=>A1Rep.mono stp⟩
theorem CallD.cap{P:Program}{f:FuncId}{H H':List (Option Blk)}{res:AV}{id ep off len:Nat}{as:List A1}(h:∀c,len≤c→CallD P f (.c (.own id ep off len (some c))::as) H res H'):CallD P f (.c (.own id ep off len none)::as) H res H':=by
 intro φ F w vs hr hA
 cases hA with
 |cons hx hA=>
  obtain⟨e,sz,rows,hG,hle,A,l,k,rfl,hA1⟩:=hx
  by_cases he:ep=e
  ·obtain⟨rfl,g1,g2,g3,g4⟩:=hA1 he
   exact h k g1 φ F w _ hr (.cons ⟨e,sz,rows,hG,hle,A,l,k,rfl,fun _=>⟨rfl,g1,fun c hc=>(by cases hc;rfl),fun hc=>(by cases hc),g4⟩⟩ hA)
  ·exact h len (Nat.le_refl _) φ F w _ hr (.cons ⟨e,sz,rows,hG,hle,A,l,k,rfl,fun h=>(he h).elim⟩ hA)
end Go.Fw
namespace Go.Fw
theorem eqB_t{b:Bool}:eqB true b=nb b:=rfl
theorem eqB_f{b:Bool}:eqB false b=b:=rfl
theorem dec_and{p q:Prop}[Decidable p][Decidable q]:(decide p&&decide q)=decide (p∧q):=by simp
theorem and_t{b:Bool}:(b&&true)=b:=by simp
theorem NilK_f{e:Bool}{K:Out→Prop}:NilK false e K=((e=true→retV K (.bool true))∧retV K (.bool false)):=by
 apply propext;constructor
 ·exact fun h=>⟨fun he=>h true (fun h'=>by rw[he]at h';cases h'),h false (fun _=>rfl)⟩
 ·rintro⟨h1,h2⟩ b hb
  cases b with
  |false=>exact h2
  |true=>
   cases e with
   |true=>exact h1 rfl
   |false=>cases hb rfl
theorem NilK_t{e:Bool}{K:Out→Prop}:NilK true e K=((e=true→retV K (.bool false))∧retV K (.bool true)):=by
 apply propext;constructor
 ·exact fun h=>⟨fun he=>h true (fun h'=>by rw[he]at h';cases h'),h false (fun _=>rfl)⟩
 ·rintro⟨h1,h2⟩ b hb
  cases b with
  |false=>exact h2
  |true=>
   cases e with
   |true=>exact h1 rfl
   |false=>cases hb rfl
theorem cnd_split{P:Program}{n m:Nat}{p:Prop}[Decidable p]{a b:AC}{k:List Frm}{Q:XT→St→Prop}{s:St}(h1:p→vcK P n m a k Q s)(h0:¬p→vcK P n m b k Q s):cnd P n m (decide p) a b k Q s:=by
 rw[cnd_dec];exact⟨h1,h0⟩
theorem gOps_split{P:Program}{dst:Option Nat}{op:AOp}{r:List AStep}{s:St}{K:St→Prop}{g:Nat}{want:Bool}{p:Prop}[Decidable p](h1:p→gOps P true want dst op r g s K)(h0:¬p→gOps P false want dst op r g s K):gOps P (decide p) want dst op r g s K:=by
 rw[gOps_dec];exact⟨h1,h0⟩
theorem gD_split{P:Program}{h:List (Option Blk)}{dst:Option Nat}{op:AOp}{bef:List Nat}{lone:Lone}{r:List AStep}{i g:Nat}{slots:List (Nat×AV)}{wl:List (Nat×List (Nat×Blk))}{K:St→Prop}{want:Bool}{p:Prop}[Decidable p]
 (h1:p→gD P h true want dst op bef lone r i g slots wl K) (h0:¬p→gD P h false want dst op bef lone r i g slots wl K):gD P h (decide p) want dst op bef lone r i g slots wl K:=by
 rw[gD_dec];exact⟨h1,h0⟩
theorem cast1:((1:Nat):Int)=1:=rfl
theorem cast0:((0:Nat):Int)=0:=rfl
theorem toNat0:(0:Int).toNat=0:=rfl
theorem toNat1:(1:Int).toNat=1:=rfl
end Go.Fw
