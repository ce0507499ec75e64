/- From a row's reading to typed things. -/
import Derived.Test.YtadhmlfnfgpjjaaFE
import Derived.WalkKit
import Derived.ProofKit
import Derived.OpenShut
import Derived.JoinedCond
import Derived.Shelf.Vars
set_option linter.unusedVariables false
set_option linter.unusedSimpArgs false
set_option linter.unusedSectionVars false
namespace Go.Fw
open Go.ChangeShapes Go.WideShapes Go.ChangeAt Go.RowKit
structure BulkOk{H:Type}(B:DataW H→Nat):Prop where
 str:∀b,b.length+1≤B (.lit (.string b))
 pos:∀d,1≤B d
 slice:∀xs ys,(xs.map B).sum+1≤B (.slice xs ys)
 agg:∀xs,(xs.map B).sum+1≤B (.agg xs)
def Reads(P:Program)(t:TypeId){α:Type}(enc:α→List D)(ok:α→Prop)(wt:α→Nat):Prop:=
 ∀{H:Type} (B:DataW H→Nat),BulkOk B→∀(e:TypeId×Value→H) (w:World) (sp:Nat→Bool) (held:Bool) (fuel:Nat) (cs:List Value) (x:DataW H×List MemPlace),
  DataW.trod e P w 0 sp held fuel t cs=some x→∃a:α,All2 (DRep w (fun b=>b<w.heap.size)) (enc a) cs∧ok a∧wt a≤B x.1
variable {P:Program} {t e:TypeId}
theorem rd_str(ht:P.underlying t=some .string):Reads P t eS okT wS:=by
 intro H B hB e w sp held fuel cs x h
 obtain⟨s,rfl,rfl,hs⟩:=DataW.trod_string ht h
 refine⟨s,.cons (.v _ rfl) .nil,trivial,?_⟩
 have:=hB.str s.data.toList
 simp only[Array.length_toList]at this
 exact this
end Go.Fw
namespace Go.Fw
open Go.ChangeShapes Go.WideShapes Go.ChangeAt Go.RowKit
def ReadsN(N:Nat)(P:Program)(t:TypeId){α:Type}(enc:α→List D)(ok:α→Prop)(wt:α→Nat):Prop:=
 ∀{H:Type} (B:DataW H→Nat),BulkOk B→∀(e:TypeId×Value→H) (w:World) (sp:Nat→Bool) (held:Bool) (fuel:Nat),fuel≤N→∀(cs:List Value) (x:DataW H×List MemPlace),
  DataW.trod e P w 0 sp held fuel t cs=some x→∃a:α,All2 (DRep w (fun b=>b<w.heap.size)) (enc a) cs∧ok a∧wt a≤B x.1
theorem Reads.at{P:Program}{t:TypeId}{α:Type}{enc:α→List D}{ok:α→Prop}{wt:α→Nat}(h:Reads P t enc ok wt)(N:Nat):ReadsN N P t enc ok wt:=
 fun B hB e w sp held fuel _ cs x hx=>h B hB e w sp held fuel cs x hx
theorem Reads.all{P:Program}{t:TypeId}{α:Type}{enc:α→List D}{ok:α→Prop}{wt:α→Nat}(h:∀N,ReadsN N P t enc ok wt):Reads P t enc ok wt:=
 fun B hB e w sp held fuel cs x hx=>h fuel B hB e w sp held fuel (Nat.le_refl _) cs x hx
variable {P:Program} {t e:TypeId}
end Go.Fw
namespace Go.Fw
open Go.ChangeShapes Go.WideShapes Go.ChangeAt Go.RowKit
def ReadsV(P:Program)(t:TypeId){α:Type}(enc:α→A1)(ok:α→Prop)(wt:α→Nat):Prop:=
 ∀{H:Type} (B:DataW H→Nat),BulkOk B→∀(e:TypeId×Value→H) (w:World) (sp:Nat→Bool) (held:Bool) (r:Reach) (base:Nat) (v:Value) (d:DataW H) (ps:List MemPlace),
  Value.okWide P w r base t v→DataW.Trod e P w 0 sp held t v d ps→∃a:α,A1Rep (fun _=>none) (fun b=>b<w.heap.size) (hp []) w (enc a) v∧ok a∧wt a≤B d
section
variable {P:Program} {t:TypeId} {α:Type} {ok:α→Prop} {wt:α→Nat}
theorem rv_cell{f:α→D}(h0:∀w r base v,Value.okWide P w r base t v→isCell v=true)(h:Reads P t (fun a=>[f a]) ok wt):ReadsV P t (fun a=> .c (.d (f a))) ok wt:=by
 intro H B hB e w sp held r base v d ps hv ⟨fuel,hd⟩
 obtain⟨a,h1,h2,h3⟩:=h B hB e w sp held fuel _ _ hd
 have hc:=h0 _ _ _ _ hv
 have:v.cells.toList=[v]:=by cases v<;>simp_all [Value.cells,isCell]
 rw[this]at h1
 cases h1 with
 |cons h1 _=>exact⟨a,h1,h2,h3⟩
theorem oc_str(ht:P.underlying t=some .string)(w r base v)(h:Value.okWide P w r base t v):isCell v=true:=by obtain⟨_,rfl⟩:=okWide_string ht h;rfl
end
def ReadsAll(P:Program)(ts:List TypeId){α:Type}(enc:α→List A1)(ok:α→Prop)(wt:α→Nat):Prop:=
 ∀{H:Type} (B:DataW H→Nat),BulkOk B→∀(e:TypeId×Value→H) (w:World) (sp:Nat→Bool) (held:Bool) (r:Reach) (base:Nat) (vs:List Value) (ds:List (DataW H)) (ps:List MemPlace),
  (∀(j:Nat) t v,ts[j]? =some t→vs[j]? =some v→Value.okWide P w r base t v)→DataW.TrodAll e P w 0 sp held ts vs ds ps→
  ∃a:α,All2 (A1Rep (fun _=>none) (fun b=>b<w.heap.size) (hp []) w) (enc a) vs∧ok a∧wt a≤(ds.map B).sum∧ds.length=ts.length
theorem ra_nil{P:Program}:ReadsAll P [] (α:=Unit) (fun _=>[]) (fun _=>True) (fun _=>0):=by
 intro H B hB e w sp held r base vs ds ps hv h
 obtain⟨rfl,rfl,rfl⟩:=trodAll_nil h
 exact⟨(),.nil,trivial,Nat.le_refl _,rfl⟩
theorem ra_cons{P:Program}{t:TypeId}{ts:List TypeId}{α β:Type}{enc:α→A1}{ok:α→Prop}{wt:α→Nat}{enc':β→List A1}{ok':β→Prop}{wt':β→Nat}
 (h:ReadsV P t enc ok wt) (h':ReadsAll P ts enc' ok' wt'):ReadsAll P (t::ts) (α:=α×β) (fun p=>enc p.1::enc' p.2) (fun p=>ok p.1∧ok' p.2) (fun p=>wt p.1+wt' p.2):=by
 intro H B hB e w sp held r base vs ds ps hv hA
 obtain⟨v0,vs0,d0,ds0,p0,q0,rfl,rfl,rfl,h0,r0⟩:=trodAll_cons hA
 obtain⟨a,a1,a2,a3⟩:=h B hB e w sp held r base v0 d0 p0 (hv 0 t v0 rfl rfl) h0
 obtain⟨b,b1,b2,b3,b4⟩:=h' B hB e w sp held r base vs0 ds0 q0 (fun j t v hj hv'=>hv (j+1) t v (by simpa using hj) (by simpa using hv')) r0
 exact⟨(a,b),.cons a1 b1,⟨a2,b2⟩,by simp only[List.map_cons,List.sum_cons];omega,by simp[b4]⟩
theorem trodAll_keep{P:Program}(K:Kids P (·<P.types.size))(hz:∀t e,t<P.types.size→P.underlying t=some (.slice e)→0<P.cellsOf e){H:Type}{enc:TypeId×Value→H}{W W':World}(hh:∀b,b<W.heap.size→W'.heap[b]? =W.heap[b]?){sp:Nat→Bool}:
 ∀{ts:List TypeId} {vs:List Value} {ds:List (DataW H)} {ps:List MemPlace},(∀t∈ts,t<P.types.size)→DataW.TrodAll enc P W 0 (fun _=>true) true ts vs ds ps→(∀p∈ps,p.block<W.heap.size)→(∀p∈ps,sp p.block=true)→DataW.TrodAll enc P W' 0 sp true ts vs ds ps
 |[],[],[],_,_,h,_,_=>h
 |t::ts,v::vs,d::ds,ps,hT,⟨p,q,⟨n,h1⟩,h2,e⟩,hlt,hs=>by
  subst e
  refine⟨p,q,⟨n,?_⟩,trodAll_keep K hz hh (fun t ht=>hT t (List.mem_cons_of_mem _ ht)) h2 (fun x hx=>hlt x (List.mem_append_right _ hx)) (fun x hx=>hs x (List.mem_append_right _ hx)),rfl⟩
  refine DataW.trod_carry n _ _ _ (DataW.trod_respare K hz n _ _ _ (hT t (List.mem_cons_self ..)) h1 fun x hx=>hs x (List.mem_append_left _ hx)) fun x hx=>?_
  have hb:=hlt x (List.mem_append_left _ hx)
  cases x with
  |cell b off=>exact World.cell?_congr (hh b hb)
  |map b=>exact hh b hb
theorem post_old{P:Program}{H:Type}{enc:TypeId×Value→H}{f:Func}{s:ChangeSpec}{apart fresh handsOn again:Bool}{W W':World}{args:Array Value}{v:Value}{ds gs:List (DataW H)}{before pa pv:List MemPlace}
 (hW:DataW.Whole enc P f.params.toList s.vars apart W args.toList ds gs before)
 (hres:∀(b:Nat) (sp:Nat→Bool) (hd:Bool),DataW.TrodAll enc P W' b sp hd f.resultTypes.toList (v.resultList f.resultTypes.size) (s.fn H (ds++gs)).results [])
 (hargs:∀sp:Nat→Bool,(∀p∈before,sp p.block=true)→DataW.TrodAll enc P W' 0 sp true f.params.toList args.toList (s.fn H (ds++gs)).args pa)
 (hvars:∀sp:Nat→Bool,(∀p∈before,sp p.block=true)→DataW.TrodVars enc P W' sp s.vars (s.fn H (ds++gs)).vars pv)
 (hps:before=pa++pv) (hk:W.keptBut W' (·∈before)) (hheap:∀b,b<W.heap.size→W'.heap[b]? =W.heap[b]?)
 (hok:∀(j:Nat) (t:TypeId) (r:Value),f.resultTypes[j]? =some t→(v.resultList f.resultTypes.size)[j]? =some r→Value.okWide P W' .any 0 t r):
 s.post enc P f apart fresh handsOn again W args v W':=by
 have hlt:∀p∈before,(fun b=>decide (b<W.heap.size)) p.block=true:=fun p hp=>decide_eq_true (hW.lt p hp)
 have hW0:=hW
 obtain⟨_,_,_,_,_,hz,hn⟩:=hW
 refine⟨ds,gs,before,[],pa,pv,hW0,hres _ _ _,hargs _ hlt,hvars _ hlt,World.keptBut_mono (fun p hp=>⟨hp,.inr ?_⟩) hk,fun _=>⟨hok,_,_,([]++pa)++pv,⟨[]++pa,pv,trodAll_append (hargs _ fun _ _=>rfl) (hres _ _ _),hvars _ fun _ _=>rfl,rfl,fun b off hp=>?_,fun ha=>?_⟩,fun p hp _=>?_⟩⟩
 ·exact List.mem_append.1 (hps▸hp)
 ·have hp':MemPlace.cell b off∈before:=by rw[hps];exact hp
  have hb:=hW0.lt _ hp'
  have e:W'.frozen? ⟨b,off,none⟩=W.frozen? ⟨b,off,none⟩:=by simp only[World.frozen?];rw[hheap b hb]
  rw[e];exact hz b off hp'
 ·have:=hn ha;rw[hps]at this;exact this
 ·rw[hps];exact hp
theorem cell_lt{w:World}{b i:Nat}{v:Value}(h:w.cell? ⟨b,i,none⟩=some v):b<w.heap.size:=by
 by_cases hb:b<w.heap.size
 ·exact hb
 ·exfalso
  simp only[World.cell?]at h
  rw[Array.getElem?_eq_none (by omega)]at h
  cases h
theorem handed_of_cond_shaped{H:Type}{enc:TypeId×Value→H}{a:Assume}{C:Checked}{os:Os}{f:FuncId}{fn:Func}{s:OpenSpec}{k:(H:Type)→List (DataW H)→Bool}(hk:s.cond=some k){F:Stop.Interp}{conds:List PathCond}{apart fresh handsOn again:Bool}
 (own:ownKnob C.prog.godebug=none) (started:os.Started) (noInit:C.prog.inits.idxOf? f=none) (hfn:C.prog.funcs[f]? =some fn)
 (witness:∃(w:World) (tape:Tape) (i:Input),w.os=os∧(w.forCall tape i).Shaped C.prog∧i.vars=[]∧Input.okWide C.prog (w.forCall tape i) .any w.heap.size f i∧
   s.pre6 enc C.prog fn conds apart (w.forCall tape i).memory i.args∧a.holds C.prog (lone (Frame.enter C.prog f i.args .normal) [] (w.forCall tape i)))
 (contract:∀(W:World) (base:Nat) (args:Array Value) (ds gs:List (DataW H)) (before:List MemPlace),
   (∀(j:Nat) t v,fn.params[j]? =some t→args[j]? =some v→Value.okWide C.prog W .any base t v)→
   DataW.Whole enc C.prog fn.params.toList s.vars apart W args.toList ds gs before→
   k H (ds++gs)=true→W.ShapedOpen C.prog→
   Calls C.prog f args W fun e W'=>∃v,e= .returned v∧(s.at F).post enc C.prog fn apart fresh handsOn again W args v W'):
 ReturnsInHanded a C os f .any (s.pre6 enc C.prog fn conds apart) ((s.at F).post enc C.prog fn apart fresh handsOn again):=by
 refine returnsInHanded_of_calls own started noInit witness ?_
 intro w tape i _ hsh _ hok hpre _
 obtain⟨_,_,_,fn',hfn',_,_,_,_,hval⟩:=hok
 have e:fn'=fn:=Option.some.inj (hfn'.symm.trans hfn)
 subst e
 obtain⟨ds,gs,before,hw,_,hkk⟩:=(OpenSpec.pre_some hk conds apart _ _).1 hpre.1
 have hw':=DataW.Whole.of_heap (w':=w.forCall tape i) (by rfl) hw
 refine(contract (w.forCall tape i) w.heap.size i.args ds gs before hval hw' hkk hsh).mono fun e W' ⟨v,he,hp⟩=>?_
 subst he
 exact ChangeSpec.post_blind hp
theorem row_contract{P:Program}{f:FuncId}{fn:Func}{s:ChangeSpec}{tb:TypeId}(hok:okFn P f=true)(hlaid:laidOutB P=true)(hmaps:mapsRowed P=true)
 (hfull:((List.range P.types.size).all fun t=>match P.underlying t with|some (.slice e)=>decide (0<P.cellsOf e)|_=>true)=true)
 (hvars:s.vars=[]) (hres:fn.resultTypes= #[tb]) (htb:P.underlying tb=some .bool) (hsz:∀t∈fn.params.toList,t<P.types.size)
 (hspec:∀(H:Type) (ds:List (DataW H)),ds.length=fn.params.toList.length→s.fn H ds={results:=[.lit (.bool true)],args:=ds})
 {α:Type} {enc:α→List A1} {ok:α→Prop} {wt:α→Nat} (hrd:ReadsAll P fn.params.toList enc ok wt) {N:Nat} (hcall:∀a,ok a→wt a≤N→CallD P f (enc a) [] (.one (aB true)) [])
 (H:Type) (e:TypeId×Value→H) (B:DataW H→Nat) (hB:BulkOk B) (W:World) (hgb:∀g,g∈gBlocks→∃m,W.cell? ⟨g,0,none⟩=some (.int .i64 m)) (base:Nat) (args:Array Value) (ds gs:List (DataW H)) (before:List MemPlace)
 (hval:∀(j:Nat) t v,fn.params[j]? =some t→args[j]? =some v→Value.okWide P W .any base t v)
 (hW:DataW.Whole e P fn.params.toList s.vars false W args.toList ds gs before) (hN:((ds++gs).map B).sum≤N):
 Calls P f args W fun e' W'=>∃v,e'= .returned v∧s.post e P fn false true false false W args v W':=by
 have hW':=hW
 obtain⟨p,q,hA,hV,rfl,hfz,hnd⟩:=hW
 rw[hvars]at hV
 obtain⟨rfl,rfl⟩:=trodVars_none hV
 obtain⟨a,a1,a2,a3,a4⟩:=hrd B hB e W _ _ .any base args.toList ds p (fun j t v hj hv=>hval j t v (by simpa using hj) (by simpa using hv)) hA
 rw[List.append_nil]at hN
 have hrel:Rel (fun _=>none) (fun b=>b<W.heap.size) (hp []) W:=⟨(fun id blk h=>by simp[hp]at h),(fun id x h=>by cases h),(fun i j b o b' o' h=>by cases h),(fun b hb=>⟨hb,(fun id b' o h=>by cases h)⟩),fun g hg=>⟨cell_lt (hgb g hg).choose_spec,hgb g hg⟩⟩
 have hent:=hcall a a2 (Nat.le_trans a3 hN) _ _ W args.toList hrel a1
 simp only[Array.toArray_toList]at hent
 rcases hent with⟨_,hc⟩|⟨v,w',hc,_⟩
 ·refine hc.mono ?_
  rintro e' W' ⟨v,rfl,φ',F',hv,hr',hs,hf⟩
  refine⟨v,rfl,?_⟩
  have hvb:v= .bool true:=by cases hv;rfl
  subst hvb
  have hheap:∀b,b<W.heap.size→W'.heap[b]? =W.heap[b]? :=fun b hb=>hf.rest b hb fun id o h=>by cases h
  have hlen:(ds++([]:List (DataW H))).length=fn.params.toList.length:=by simpa using a4
  rw[List.append_nil]at hlen
  refine post_old (pa:=p) (pv:=[]) hW' (fun b sp hd=>?_) (fun sp hsp=>?_) (fun sp _=>?_) rfl ⟨hf.io.1,hf.io.2,fun i hi=>?_⟩ hheap ?_
  ·rw[List.append_nil,hspec H ds hlen,hres]
   exact trodAll_cons_mk (shut_bool htb _) trodAll_mk0
  ·rw[List.append_nil,hspec H ds hlen]
   exact trodAll_keep (kids_rows hlaid hmaps) (slices_full_of P hfull) hheap hsz hA (fun x hx=>hW'.lt x (by simpa using hx)) (fun x hx=>hsp x (by simpa using hx))
  ·rw[hvars,List.append_nil,hspec H ds hlen];rfl
  ·rw[hheap i hi]
   cases W.heap[i]? with
   |none=>rfl
   |some o=>cases o<;>simp
  ·exact ok_one hres rfl (okWide_bool_mk htb _)
 ·rw[run_callFunc hok]at hc;cases hc
end Go.Fw
