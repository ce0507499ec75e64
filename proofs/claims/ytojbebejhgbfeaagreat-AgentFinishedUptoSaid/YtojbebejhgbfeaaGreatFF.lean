/- From a row's reading to typed things. -/
import Derived.Test.YtojbebejhgbfeaaGreatFE
import Derived.WalkKit
import Derived.ProofKit
import Derived.OpenShut
import Derived.JoinedCond
open List renaming getElem?_eq_getElem->XC,append_nil->XD,getElem?_map->XF,getElem?_cons_zero->XG,getElem?_eq_some_iff->XH,sum_cons->XI,map_cons->XJ,mem_append_right->XK,mem_append_left->XL,mem_map->XM
open Go renaming TypeId->XN,MemPlace->XO,Program->XP,DataW->XQ,World->XR,Field->XS,ChangeSpec->XU
open Option renaming map_eq_some_iff->XV,some->XW,none->XX
open Go.Value renaming okWide->XY
open Go.DataW renaming TrodAll->XZ,Whole->X0,trod->X1
open Bool renaming true->X2,false->X3
open Nat renaming le_trans->X4,add_le_add_right->X5
open Go.World renaming cells?_some->X6
set_option linter.unusedVariables false
set_option linter.unusedSimpArgs false
set_option linter.unusedSectionVars false
namespace Go.Fw
open Go.ChangeShapes Go.WideShapes Go.ChangeAt Go.RowKit
structure qG{H:Type}(B:XQ H→Nat):Prop where
 str:∀b,b.length+1≤B (.lit (.string b))
 pos:∀d,1≤B d
 slice:∀xs ys,(xs.map B).sum+1≤B (.slice xs ys)
 agg:∀xs,(xs.map B).sum+1≤B (.agg xs)
def Reads(P:XP)(t:XN){α:Type}(enc:α→List D)(ok:α→Prop)(wt:α→Nat):Prop:=
 ∀{H:Type} (B:XQ H→Nat),qG B→∀(e:XN×Value→H) (w:XR) (sp:Nat→Bool) (held:Bool) (fuel:Nat) (cs:List Value) (x:XQ H×List XO),
  X1 e P w 0 sp held fuel t cs=XW x→∃a:α,bX (dh w (fun b=>b<w.heap.size)) (enc a) cs∧ok a∧wt a≤B x.1
variable {P:XP} {t e:XN}
theorem cg(ht:P.underlying t=XW (.int .i64)):Reads P t eI ln wN:=by
 intro H B hB e w sp held fuel cs x h
 obtain⟨n,rfl,rfl,hw⟩:=DataW.trod_int ht h
 refine⟨n,.cons (.v _ rfl) .nil,?_,hB.pos _⟩
 simp only[Lit.wf,Bool.and_eq_true,decide_eq_true_eq]at hw
 simpa[ln,IntKind.min,IntKind.max,IntKind.signed,IntKind.bits]using hw
theorem dO(ht:P.underlying t=XW .bool):Reads P t eB ll wN:=by
 intro H B hB e w sp held fuel cs x h
 obtain⟨n,rfl,rfl⟩:=DataW.trod_bool ht h
 exact⟨n,.cons (.v _ rfl) .nil,trivial,hB.pos _⟩
theorem da(ht:P.underlying t=XW .string):Reads P t eS ll wS:=by
 intro H B hB e w sp held fuel cs x h
 obtain⟨s,rfl,rfl,hs⟩:=DataW.trod_string ht h
 refine⟨s,.cons (.v _ rfl) .nil,trivial,?_⟩
 have:=hB.str s.data.toList
 simp only[Array.length_toList]at this
 exact this
theorem Bv{α β:Type}{R:Nat→α→Prop}{n:Nat}(h:∀i,i<n→∃a,R i a):∃l:List α,l.length=n∧∀i a,l[i]? =XW a→R i a:=by
 induction n with
 |zero=>exact⟨[],rfl,fun i a h=>by simp at h⟩
 |succ n ih=>
  obtain⟨l,hl,hR⟩:=ih fun i hi=>h i (by omega)
  obtain⟨a,ha⟩:=h n (by omega)
  refine⟨l++[a],by simp[hl],fun i b hb=>?_⟩
  rw[List.getElem?_append]at hb
  split at hb
  ·exact hR i b hb
  ·have:i-l.length=0:=by
    have:=(XH.1 hb).1
    simp at this;omega
   rw[this]at hb
   simp only[XG,Option.some.injEq]at hb
   subst hb
   have:i=n:=by rename_i h1;omega
   rw[this];exact ha
theorem cC{α:Type}{enc:α→List D}{ok:α→Prop}{wt:α→Nat}(ht:P.underlying t=XW (.slice e))(hr:Reads P e enc ok wt){sz:Nat}(hs:P.cellsOf e=sz)(hp:0<sz)(hl:∀a,(enc a).length=sz):
 Reads P t (eL enc) (tP ok) (wL wt):=by
 intro H B hB en w sp held fuel cs x h
 rcases DataW.trod_slice ht h with⟨rfl,rfl⟩|⟨a,len,cap,elems,rest,n,rfl,rfl,rfl,_,hlc,hcm,hel,hget,_,_⟩
 ·exact⟨[],.cons (.nil _ _) .nil,(fun x hx=>by cases hx),hB.pos _⟩
 ·have each:∀i,i<len→∃y:α×(XQ H×List XO)×List Value,elems[i]? =XW y.2.1∧w.cells? 0 (a.add (i*sz)) sz=XW y.2.2∧bX (dh w (fun b=>b<w.heap.size)) (enc y.1) y.2.2∧ok y.1∧wt y.1≤B y.2.1.1:=by
   intro i hi
   have hg:=hget i hi
   have hlt:i<elems.length:=by omega
   rw[XC hlt]at hg
   simp only[Option.bind_eq_some_iff]at hg
   obtain⟨c,hc,hd⟩:=hg
   obtain⟨y,h1,h2,h3⟩:=hr B hB en w sp held n c _ hd
   rw[hs]at hc
   exact⟨⟨y,elems[i],c⟩,XC hlt,hc,h1,h2,h3⟩
  obtain⟨l,hll,hR⟩:=Bv (β:=Unit) each
  refine⟨l.map (·.1),.cons ?_ .nil,?_,?_⟩
  ·by_cases h0:len=0
   ·subst h0
    have:l=[]:=List.length_eq_zero_iff.1 hll
    subst this
    exact .nil _ _
   ·
    have h00:0<len:=by omega
    obtain⟨y0,hy0⟩:∃y,l[0]? =XW y:=⟨l[0],XC (by omega)⟩
    have hc0:=(hR 0 y0 hy0).2.1
    obtain⟨_,_,hcell0⟩:=X6 hc0
    have hspot:a.spot=XX:=by
     have h1:=hcell0 0 hp
     have e0:(a.add (0*sz)).add 0=a:=by simp[Addr.add]
     rw[e0]at h1
     have hsome:∃v,w.cell? a=XW v:=by
      have:0<y0.2.2.length:=by rw[(X6 hc0).2.1];exact hp
      exact⟨y0.2.2[0],by rw[h1];exact XC this⟩
     obtain⟨v,hv⟩:=hsome
     unfold World.cell? at hv
     split at hv
     ·split at hv
      ·cases hv
      ·rename_i hsp;simpa using hsp
     ·cases hv
    have hblk:a.block<w.heap.size:=by
     have e0:a.add (0*sz)=a:=by simp[Addr.add]
     rw[e0]at hc0;exact World.cells?_block hc0 hp
    obtain⟨ab,ao,asp⟩:=a
    simp only at hspot hblk
    subst hspot
    have hadd:∀i j,((⟨ab,ao,XX⟩:Addr).add i).add j=⟨ab,ao+i+j,XX⟩:=by
     intro i j
     rw[show(⟨ab,ao,XX⟩:Addr).add i=⟨ab,ao+i,XX⟩from jc _ _ _,jc]
    have hlen:((l.map (·.1)).map enc).length=len:=by simp[hll]
    have:=dh.sl (w:=w) (F:=fun b=>b<w.heap.size) ((l.map (·.1)).map enc) ab ao sz cap (fun i j=>(((l[i]?).map fun y=>y.2.2[j]?).join).getD (.bool X2)) hblk (by rw[hlen];exact hlc)
     (fun row hrow=>by
       obtain⟨x,_,rfl⟩:=XM.1 hrow
       exact hl x)
     (fun i row hi j d hj=>by
       rw[XF,XF,XV]at hi
       obtain⟨y',hy',rfl⟩:=hi
       rw[XV]at hy'
       obtain⟨y,hy,rfl⟩:=hy'
       obtain⟨r1,r2,r3,_⟩:=hR i y hy
       obtain⟨_,hcl,hce⟩:=X6 r2
       have hjs:j<sz:=by rw[←hl y.1];exact(XH.1 hj).1
       have:=hce j hjs
       rw[hadd]at this
       rw[this,XC (by omega)]
       simp[hy,hcl,hjs])
     (fun i row hi j d hj=>by
       rw[XF,XF,XV]at hi
       obtain⟨y',hy',rfl⟩:=hi
       rw[XV]at hy'
       obtain⟨y,hy,rfl⟩:=hy'
       obtain⟨r1,r2,r3,_⟩:=hR i y hy
       obtain⟨b,hb,hd⟩:=bX.get r3 hj
       simpa[hy,hb]using hd)
    rw[hlen]at this
    exact this
  ·intro x hx
   obtain⟨y,hy,rfl⟩:=XM.1 hx
   obtain⟨i,hi,rfl⟩:=List.mem_iff_getElem.1 hy
   exact(hR i _ (XC hi)).2.2.2.1
  ·refine X4 (X5 ?_ 1) (hB.slice _ _)
   have key:∀(l:List (α×(XQ H×List XO)×List Value)) (elems:List (XQ H×List XO)),l.length=elems.length→(∀(i:Nat) (y:α×(XQ H×List XO)×List Value),l[i]? =XW y→elems[i]? =XW y.2.1∧wt y.1≤B y.2.1.1)→((l.map (·.1)).map wt).sum≤((elems.map (·.1)).map B).sum:=by
    intro l
    induction l with
    |nil=>intro elems _ _;simp
    |cons y l ih=>
     intro elems hle hyp
     cases elems with
     |nil=>simp at hle
     |cons z elems=>
      have h0:=hyp 0 y rfl
      simp only[XG,Option.some.injEq]at h0
      have:=ih elems (by simpa using hle) fun i y hy=>by simpa using hyp (i+1) y (by simpa using hy)
      simp only[XJ,XI]
      rw[h0.1]
      have:=h0.2
      omega
   exact key l elems (by omega) fun i y hy=>⟨(hR i y hy).1,(hR i y hy).2.2.2.2⟩
def zN(P:XP)(fs:List XS)(off T:Nat){α:Type}(enc:α→List D)(ok:α→Prop)(wt:α→Nat):Prop:=
 ∀{H:Type} (B:XQ H→Nat),qG B→∀(e:XN×Value→H) (w:XR) (sp:Nat→Bool) (held:Bool) (fuel:Nat) (cs:List Value) (xs:List (XQ H×List XO)),cs.length=T→
  xs.length=fs.length→(∀(i:Nat) (f:XS),fs[i]? =XW f→X1 e P w 0 sp held fuel f.type ((cs.drop f.offset).take (P.cellsOf f.type))=xs[i]?)→
  ∃a:α,bX (dh w (fun b=>b<w.heap.size)) (enc a) (cs.drop off)∧ok a∧wt a≤((xs.map (·.1)).map B).sum
theorem df{T:Nat}:zN P [] T T (α:=Unit) (fun _=>[]) (fun _=>True) (fun _=>0):=by
 intro H B hB e w sp held fuel cs xs hc hx _
 exact⟨(),by rw[List.drop_of_length_le (by omega)];exact .nil,trivial,Nat.zero_le _⟩
theorem az{f:XS}{fs:List XS}{off n T:Nat}{α β:Type}{enc:α→List D}{ok:α→Prop}{wt:α→Nat}{enc':β→List D}{ok':β→Prop}{wt':β→Nat}
 (hr:Reads P f.type enc ok wt) (hn:P.cellsOf f.type=n) (ho:f.offset=off) (ht:zN P fs (off+n) T enc' ok' wt'):
 zN P (f::fs) off T (α:=α×β) (fun p=>enc p.1++enc' p.2) (fun p=>ok p.1∧ok' p.2) (fun p=>wt p.1+wt' p.2):=by
 intro H B hB e w sp held fuel cs xs hc hx hget
 cases xs with
 |nil=>simp at hx
 |cons x xs=>
  have h0:=hget 0 f rfl
  simp only[XG]at h0
  obtain⟨a,h1,h2,h3⟩:=hr B hB e w sp held fuel _ _ h0
  obtain⟨b,g1,g2,g3⟩:=ht B hB e w sp held fuel cs xs hc (by simpa using hx) fun i f' hf=>by simpa using hget (i+1) f' (by simpa using hf)
  refine⟨(a,b),?_,⟨h2,g2⟩,by simp only[XJ,XI];omega⟩
  rw[hn,ho]at h1
  have:=h1.append g1
  rw[show cs.drop (off+n)=(cs.drop off).drop n by rw[List.drop_drop],List.take_append_drop]at this
  exact this
theorem cw{fs:Array XS}{T:Nat}{α β:Type}{enc':β→List D}{ok':β→Prop}{wt':β→Nat}{enc:α→List D}{ok:α→Prop}{wt:α→Nat}(ht:P.underlying t=XW (.struct fs))(hT:P.cellsOf t=T)(hf:zN P fs.toList 0 T enc' ok' wt')
 (g:β→α) (he:∀b,enc (g b)=enc' b) (ho:∀b,ok' b→ok (g b)) (hw:∀b,wt (g b)=wt' b+1):Reads P t enc ok wt:=by
 intro H B hB e w sp held fuel cs x h
 obtain⟨xs,n,rfl,rfl,hc,hx,hget⟩:=DataW.trod_struct ht h
 obtain⟨b,h1,h2,h3⟩:=hf B hB e w sp held n cs xs (by rw[hc,hT]) (by simpa using hx) fun i f hf=>hget i f (by simpa using hf)
 refine⟨g b,?_,ho b h2,?_⟩
 ·rw[he];simpa using h1
 ·rw[hw];exact X4 (X5 h3 1) (hB.agg _)
end Go.Fw
namespace Go.Fw
open Go.ChangeShapes Go.WideShapes Go.ChangeAt Go.RowKit
variable {P:XP} {t e:XN}
end Go.Fw
namespace Go.Fw
open Go.ChangeShapes Go.WideShapes Go.ChangeAt Go.RowKit
def DW(P:XP)(t:XN){α:Type}(enc:α→A1)(ok:α→Prop)(wt:α→Nat):Prop:=
 ∀{H:Type} (B:XQ H→Nat),qG B→∀(e:XN×Value→H) (w:XR) (sp:Nat→Bool) (held:Bool) (r:Reach) (base:Nat) (v:Value) (d:XQ H) (ps:List XO),
  XY P w r base t v→DataW.Trod e P w 0 sp held t v d ps→∃a:α,cm (fun _=>XX) (fun b=>b<w.heap.size) (hp []) w (enc a) v∧ok a∧wt a≤B d
section
variable {P:XP} {t:XN} {α:Type} {ok:α→Prop} {wt:α→Nat}
theorem uh{f:α→D}(h0:∀w r base v,XY P w r base t v→dx v=X2)(h:Reads P t (fun a=>[f a]) ok wt):DW P t (fun a=> .c (.d (f a))) ok wt:=by
 intro H B hB e w sp held r base v d ps hv ⟨fuel,hd⟩
 obtain⟨a,h1,h2,h3⟩:=h B hB e w sp held fuel _ _ hd
 have hc:=h0 _ _ _ _ hv
 have:v.cells.toList=[v]:=by cases v<;>simp_all [Value.cells,dx]
 rw[this]at h1
 cases h1 with
 |cons h1 _=>exact⟨a,h1,h2,h3⟩
theorem H6{k:IntKind}(ht:P.underlying t=XW (.int k))(w r base v)(h:XY P w r base t v):dx v=X2:=by obtain⟨_,rfl⟩:=okWide_int ht h;rfl
theorem AP{e:XN}(ht:P.underlying t=XW (.slice e))(w r base v)(h:XY P w r base t v):dx v=X2:=by obtain⟨_,_,_,rfl⟩:=okWide_slice ht h;rfl
theorem xB{fs:Array XS}{enc:α→List D}(ht:P.underlying t=XW (.struct fs))(h:Reads P t enc ok wt):DW P t (fun a=> .agg ((enc a).map .d)) ok wt:=by
 intro H B hB e w sp held r base v d ps hv ⟨fuel,hd⟩
 obtain⟨a,h1,h2,h3⟩:=h B hB e w sp held fuel _ _ hd
 obtain⟨cs,rfl,_⟩:=okWide_struct ht hv
 exact⟨a,⟨cs.toList,by simp,Dg _ h1⟩,h2,h3⟩
end
def ReadsAll(P:XP)(ts:List XN){α:Type}(enc:α→List A1)(ok:α→Prop)(wt:α→Nat):Prop:=
 ∀{H:Type} (B:XQ H→Nat),qG B→∀(e:XN×Value→H) (w:XR) (sp:Nat→Bool) (held:Bool) (r:Reach) (base:Nat) (vs:List Value) (ds:List (XQ H)) (ps:List XO),
  (∀(j:Nat) t v,ts[j]? =XW t→vs[j]? =XW v→XY P w r base t v)→XZ e P w 0 sp held ts vs ds ps→
  ∃a:α,bX (cm (fun _=>XX) (fun b=>b<w.heap.size) (hp []) w) (enc a) vs∧ok a∧wt a≤(ds.map B).sum∧ds.length=ts.length
theorem HT{P:XP}:ReadsAll P [] (α:=Unit) (fun _=>[]) (fun _=>True) (fun _=>0):=by
 intro H B hB e w sp held r base vs ds ps hv h
 obtain⟨rfl,rfl,rfl⟩:=trodAll_nil h
 exact⟨(),.nil,trivial,Nat.le_refl _,rfl⟩
theorem oW{P:XP}{t:XN}{ts:List XN}{α β:Type}{enc:α→A1}{ok:α→Prop}{wt:α→Nat}{enc':β→List A1}{ok':β→Prop}{wt':β→Nat}
 (h:DW P t enc ok wt) (h':ReadsAll P ts enc' ok' wt'):ReadsAll P (t::ts) (α:=α×β) (fun p=>enc p.1::enc' p.2) (fun p=>ok p.1∧ok' p.2) (fun p=>wt p.1+wt' p.2):=by
 intro H B hB e w sp held r base vs ds ps hv hA
 obtain⟨v0,vs0,d0,ds0,p0,q0,rfl,rfl,rfl,h0,r0⟩:=trodAll_cons hA
 obtain⟨a,a1,a2,a3⟩:=h B hB e w sp held r base v0 d0 p0 (hv 0 t v0 rfl rfl) h0
 obtain⟨b,b1,b2,b3,b4⟩:=h' B hB e w sp held r base vs0 ds0 q0 (fun j t v hj hv'=>hv (j+1) t v (by simpa using hj) (by simpa using hv')) r0
 exact⟨(a,b),.cons a1 b1,⟨a2,b2⟩,by simp only[XJ,XI];omega,by simp[b4]⟩
theorem qP{P:XP}(K:Kids P (·<P.types.size))(hz:∀t e,t<P.types.size→P.underlying t=XW (.slice e)→0<P.cellsOf e){H:Type}{enc:XN×Value→H}{W W':XR}(hh:∀b,b<W.heap.size→W'.heap[b]? =W.heap[b]?){sp:Nat→Bool}:
 ∀{ts:List XN} {vs:List Value} {ds:List (XQ H)} {ps:List XO},(∀t∈ts,t<P.types.size)→XZ enc P W 0 (fun _=>X2) X2 ts vs ds ps→(∀p∈ps,p.block<W.heap.size)→(∀p∈ps,sp p.block=X2)→XZ enc P W' 0 sp X2 ts vs ds ps
 |[],[],[],_,_,h,_,_=>h
 |t::ts,v::vs,d::ds,ps,hT,⟨p,q,⟨n,h1⟩,h2,e⟩,hlt,hs=>by
  subst e
  refine⟨p,q,⟨n,?_⟩,qP K hz hh (fun t ht=>hT t (List.mem_cons_of_mem _ ht)) h2 (fun x hx=>hlt x (XK _ hx)) (fun x hx=>hs x (XK _ hx)),rfl⟩
  refine DataW.trod_carry n _ _ _ (DataW.trod_respare K hz n _ _ _ (hT t (List.mem_cons_self ..)) h1 fun x hx=>hs x (XL _ hx)) fun x hx=>?_
  have hb:=hlt x (XL _ hx)
  cases x with
  |cell b off=>exact World.cell?_congr (hh b hb)
  |map b=>exact hh b hb
theorem H3{P:XP}{H:Type}{enc:XN×Value→H}{f:Func}{s:XU}{apart fresh handsOn again:Bool}{W W':XR}{args:Array Value}{v:Value}{ds gs:List (XQ H)}{before pa pv:List XO}
 (hW:X0 enc P f.params.toList s.vars apart W args.toList ds gs before)
 (hres:∀(b:Nat) (sp:Nat→Bool) (hd:Bool),XZ enc P W' b sp hd f.resultTypes.toList (v.resultList f.resultTypes.size) (s.fn H (ds++gs)).results [])
 (hargs:∀sp:Nat→Bool,(∀p∈before,sp p.block=X2)→XZ enc P W' 0 sp X2 f.params.toList args.toList (s.fn H (ds++gs)).args pa)
 (hvars:∀sp:Nat→Bool,(∀p∈before,sp p.block=X2)→DataW.TrodVars enc P W' sp s.vars (s.fn H (ds++gs)).vars pv)
 (hps:before=pa++pv) (hk:W.keptBut W' (·∈before)) (hheap:∀b,b<W.heap.size→W'.heap[b]? =W.heap[b]?)
 (hok:∀(j:Nat) (t:XN) (r:Value),f.resultTypes[j]? =XW t→(v.resultList f.resultTypes.size)[j]? =XW r→XY P W' .any 0 t r):
 s.post enc P f apart fresh handsOn again W args v W':=by
 have hlt:∀p∈before,(fun b=>decide (b<W.heap.size)) p.block=X2:=fun p hp=>decide_eq_true (hW.lt p hp)
 have hW0:=hW
 obtain⟨_,_,_,_,_,hz,hn⟩:=hW
 refine⟨ds,gs,before,[],pa,pv,hW0,hres _ _ _,hargs _ hlt,hvars _ hlt,World.keptBut_mono (fun p hp=>⟨hp,.inr ?_⟩) hk,fun _=>⟨hok,_,_,([]++pa)++pv,⟨[]++pa,pv,trodAll_append (hargs _ fun _ _=>rfl) (hres _ _ _),hvars _ fun _ _=>rfl,rfl,fun b off hp=>?_,fun ha=>?_⟩,fun p hp _=>?_⟩⟩
 ·exact List.mem_append.1 (hps▸hp)
 ·have hp':MemPlace.cell b off∈before:=by rw[hps];exact hp
  have hb:=hW0.lt _ hp'
  have e:W'.frozen? ⟨b,off,XX⟩=W.frozen? ⟨b,off,XX⟩:=by simp only[World.frozen?];rw[hheap b hb]
  rw[e];exact hz b off hp'
 ·have:=hn ha;rw[hps]at this;exact this
 ·rw[hps];exact hp
theorem q9{P:XP}{f:FuncId}{fn:Func}{s:XU}{tb:XN}(hok:AO P f=X2)(hlaid:laidOutB P=X2)(hmaps:mapsRowed P=X2)
 (hfull:((List.range P.types.size).all fun t=>match P.underlying t with|some (.slice e)=>decide (0<P.cellsOf e)|_=>X2)=X2)
 (hvars:s.vars=[]) (hres:fn.resultTypes= #[tb]) (htb:P.underlying tb=XW .bool) (hsz:∀t∈fn.params.toList,t<P.types.size)
 (hspec:∀(H:Type) (ds:List (XQ H)),ds.length=fn.params.toList.length→s.fn H ds={results:=[.lit (.bool X2)],args:=ds})
 {α:Type} {enc:α→List A1} {ok:α→Prop} {wt:α→Nat} (hrd:ReadsAll P fn.params.toList enc ok wt) {N:Nat} (hcall:∀a,ok a→wt a≤N→aW P f (enc a) [] (.one (aB X2)) [])
 (H:Type) (e:XN×Value→H) (B:XQ H→Nat) (hB:qG B) (W:XR) (base:Nat) (args:Array Value) (ds gs:List (XQ H)) (before:List XO)
 (hval:∀(j:Nat) t v,fn.params[j]? =XW t→args[j]? =XW v→XY P W .any base t v)
 (hW:X0 e P fn.params.toList s.vars X3 W args.toList ds gs before) (hN:((ds++gs).map B).sum≤N):
 Calls P f args W fun e' W'=>∃v,e'= .returned v∧s.post e P fn X3 X2 X3 X3 W args v W':=by
 have hW':=hW
 obtain⟨p,q,hA,hV,rfl,hfz,hnd⟩:=hW
 rw[hvars]at hV
 obtain⟨rfl,rfl⟩:=trodVars_none hV
 obtain⟨a,a1,a2,a3,a4⟩:=hrd B hB e W _ _ .any base args.toList ds p (fun j t v hj hv=>hval j t v (by simpa using hj) (by simpa using hv)) hA
 rw[XD]at hN
 have hrel:Rel (fun _=>XX) (fun b=>b<W.heap.size) (hp []) W:=⟨(fun id bZ h=>by simp[hp]at h),(fun id x h=>by cases h),(fun i j b o b' o' h=>by cases h),(fun b hb=>⟨hb,(fun id b' o h=>by cases h)⟩)⟩
 have hent:=hcall a a2 (X4 a3 hN) _ _ W args.toList hrel a1
 simp only[Array.toArray_toList]at hent
 rcases hent with⟨_,hc⟩|⟨v,w',hc,_⟩
 ·refine hc.mono ?_
  rintro e' W' ⟨v,rfl,φ',F',hv,hr',hs,hf⟩
  refine⟨v,rfl,?_⟩
  have hvb:v= .bool X2:=by cases hv;rfl
  subst hvb
  have hheap:∀b,b<W.heap.size→W'.heap[b]? =W.heap[b]? :=fun b hb=>hf.rest b hb fun id o h=>by cases h
  have hlen:(ds++([]:List (XQ H))).length=fn.params.toList.length:=by simpa using a4
  rw[XD]at hlen
  refine H3 (pa:=p) (pv:=[]) hW' (fun b sp hd=>?_) (fun sp hsp=>?_) (fun sp _=>?_) rfl ⟨hf.io.1,hf.io.2,fun i hi=>?_⟩ hheap ?_
  ·rw[XD,hspec H ds hlen,hres]
   exact trodAll_cons_mk (shut_bool htb _) trodAll_mk0
  ·rw[XD,hspec H ds hlen]
   exact qP (kids_rows hlaid hmaps) (slices_full_of P hfull) hheap hsz hA (fun x hx=>hW'.lt x (by simpa using hx)) (fun x hx=>hsp x (by simpa using hx))
  ·rw[hvars,XD,hspec H ds hlen];rfl
  ·rw[hheap i hi]
   cases W.heap[i]? with
   |none=>rfl
   |some o=>cases o<;>simp
  ·exact ok_one hres rfl (okWide_bool_mk htb _)
 ·rw[mC hok]at hc;cases hc
end Go.Fw
