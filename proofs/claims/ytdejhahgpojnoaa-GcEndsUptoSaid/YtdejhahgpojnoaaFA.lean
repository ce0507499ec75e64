/- The abstract machine: values, blocks, and single operations. -/
import Derived.Calls
import Derived.Orders
import Derived.MapKept
import Derived.Laws.Strings
import Derived.Laws.Tables
import Derived.Laws.StructEq
import Derived.ChangeKeysEq
set_option linter.unusedVariables false
set_option linter.unusedSimpArgs false
set_option linter.unusedSectionVars false
namespace Go.Fw
inductive D where
 |v (x:Value)
 |sl (rows:List (List D))
 deriving Inhabited
inductive C where
 |d (x:D)
 |own (id ep off len:Nat) (cap:Option Nat)
 |pt (id off:Nat)
 |pe (id ep row off:Nat)
 |fp (cells:List D)
 |fn (f:FuncId) (caps:List (Nat×Nat))
 |mref (id:Nat)
 deriving Inhabited
inductive All2{α β:Type}(R:α→β→Prop):List α→List β→Prop
 |nil:All2 R [] []
 |cons {a b l m}:R a b→All2 R l m→All2 R (a::l) (b::m)
theorem All2.imp{α β:Type}{R S:α→β→Prop}(h:∀a b,R a b→S a b){l:List α}{m:List β}(hl:All2 R l m):All2 S l m:=by
 induction hl with
 |nil=>exact .nil
 |cons a _ ih=>exact .cons (h _ _ a) ih
theorem All2.length{α β:Type}{R:α→β→Prop}{l:List α}{m:List β}(hl:All2 R l m):l.length=m.length:=by
 induction hl with
 |nil=>rfl
 |cons a _ ih=>simp[ih]
theorem All2.get{α β:Type}{R:α→β→Prop}{l:List α}{m:List β}(hl:All2 R l m):∀{i:Nat} {a},l[i]? =some a→∃b,m[i]? =some b∧R a b:=by
 induction hl with
 |nil=>intro i a h;simp at h
 |cons a _ ih=>
  intro i x h
  cases i with
  |zero=>simp at h;subst h;exact⟨_,rfl,a⟩
  |succ i=>simp only[List.getElem?_cons_succ]at h⊢;exact ih h
theorem All2.of{α β:Type}{R:α→β→Prop}:∀{l:List α} {m:List β},l.length=m.length→(∀(i:Nat) a b,l[i]? =some a→m[i]? =some b→R a b)→All2 R l m
 |[],[],_,_=> .nil
 |a::l,b::m,hl,h=> .cons (h 0 a b rfl rfl) (All2.of (by simpa using hl) fun i x y hx hy=>h (i+1) x y (by simpa using hx) (by simpa using hy))
theorem All2.append{α β:Type}{R:α→β→Prop}{l l':List α}{m m':List β}(h:All2 R l m)(h':All2 R l' m'):All2 R (l++l') (m++m'):=by
 induction h with
 |nil=>exact h'
 |cons a _ ih=>exact .cons a ih
theorem All2.take{α β:Type}{R:α→β→Prop}{l:List α}{m:List β}(h:All2 R l m):∀n,All2 R (l.take n) (m.take n):=by
 induction h with
 |nil=>intro n;simp;exact .nil
 |cons a _ ih=>intro n;cases n with
  |zero=>exact .nil
  |succ n=>exact .cons a (ih n)
theorem All2.drop{α β:Type}{R:α→β→Prop}{l:List α}{m:List β}(h:All2 R l m):∀n,All2 R (l.drop n) (m.drop n):=by
 induction h with
 |nil=>intro n;simp;exact .nil
 |cons a t ih=>intro n;cases n with
  |zero=>exact .cons a t
  |succ n=>exact ih n
inductive A1 where
 |c (x:C)
 |agg (cs:List C)
 deriving Inhabited
inductive AV where
 |one (a:A1)
 |tup (l:List A1)
 deriving Inhabited
inductive Blk where
 |box (cells:List C)
 |arr (ep sz:Nat) (rows:List (List D))
 |map (ents:List (Value×A1))
 deriving Inhabited
abbrev Heap:=Nat→Option Blk
abbrev Phi:=Nat→Option (Nat×Nat)
def isCell:Value→Bool
 | .agg _| .tuple _=>false
 |_=>true
inductive DRep(w:World)(F:Nat→Prop):D→Value→Prop
 |v (x:Value):isCell x=true→DRep w F (.v x) x
 |nil (A:Option Addr) (cap:Nat):DRep w F (.sl []) (.slice A 0 cap)
 |sl (rows:List (List D)) (b o sz cap:Nat) (u:Nat→Nat→Value):F b→rows.length≤cap→
   (∀row∈rows,row.length=sz)→
   (∀i row,rows[i]? =some row→∀j d,row[j]? =some d→w.cell? ⟨b,o+i*sz+j,none⟩=some (u i j))→
   (∀i row,rows[i]? =some row→∀j d,row[j]? =some d→DRep w F d (u i j))→
   DRep w F (.sl rows) (.slice (some ⟨b,o,none⟩) rows.length cap)
theorem DRep.isCell{w F d v}(h:DRep w F d v):Fw.isCell v=true:=by
 cases h<;>simp_all [Fw.isCell]
theorem World.cell?_congr{w w':World}{a:Addr}(h:w'.heap[a.block]? =w.heap[a.block]?):w'.cell? a=w.cell? a:=by
 simp[World.cell?,h]
theorem DRep.mono{w w' F F'}(h:∀b,F b→F' b∧w'.heap[b]? =w.heap[b]?){d v}(hd:DRep w F d v):DRep w' F' d v:=by
 induction hd with
 |v x hx=>exact .v x hx
 |nil A cap=>exact .nil A cap
 |sl rows b o sz cap u hF hc hs hcell _ ih=>
  refine .sl rows b o sz cap u (h b hF).1 hc hs ?_ ih
  intro i row hi j d hj
  rw[World.cell?_congr (h b hF).2]
  exact hcell i row hi j d hj
def bsize(w:World)(b:Nat):Option Nat:=
 match w.heap[b]? with
 |some (.cells c _ _)=>some c.size
 |_=>none
def CRep(φ:Phi)(F:Nat→Prop)(G:Heap)(w:World):C→Value→Prop
 | .d x,v=>DRep w F x v
 | .own id ep off len cap,v=>∃e sz rows,G id=some (.arr e sz rows)∧ep≤e∧
     ∃A l k,v= .slice A l k∧(ep=e→l=len∧len≤k∧(∀c,cap=some c→c=k)∧(cap=none→off+len≤rows.length)∧
      (k=0∨∃b o n,φ id=some (b,o)∧A=some ⟨b,o+off*sz,none⟩∧bsize w b=some n∧o+off*sz+k*sz≤n))
 | .pt id off,v=>∃cells b o,G id=some (.box cells)∧φ id=some (b,o)∧v= .pointer (some ⟨b,o+off,none⟩)
 | .pe id ep row off,v=>∃e sz rows,G id=some (.arr e sz rows)∧ep≤e∧
     ∃A,v= .pointer A∧(ep=e→∃b o,φ id=some (b,o)∧row<rows.length∧A=some ⟨b,o+row*sz+off,none⟩)
 | .fp cells,v=>∃b o,F b∧v= .pointer (some ⟨b,o,none⟩)∧
     ∀(j:Nat) d,cells[j]? =some d→∃u,w.cell? ⟨b,o+j,none⟩=some u∧DRep w F d u
 | .fn f caps,v=>∃us:List Value,v= .func (.func f) #[] us.toArray∧us.length=caps.length∧
     ∀(j:Nat) c,caps[j]? =some c→∃cells b o,G c.1=some (.box cells)∧φ c.1=some (b,o)∧us[j]? =some (.pointer (some ⟨b,o+c.2,none⟩))
 | .mref id,v=>∃ents b,G id=some (.map ents)∧φ id=some (b,0)∧v= .map (some b)
theorem CRep.isCell{φ F G w c v}(h:CRep φ F G w c v):Fw.isCell v=true:=by
 cases c with
 |d x=>exact DRep.isCell h
 |own id ep off len cap=>obtain⟨_,_,_,_,_,_,_,_,rfl,_⟩:=h;rfl
 |pt id off=>obtain⟨_,_,_,_,_,rfl⟩:=h;rfl
 |pe id ep row off=>obtain⟨_,_,_,_,_,_,rfl,_⟩:=h;rfl
 |fp cells=>obtain⟨_,_,_,rfl,_⟩:=h;rfl
 |fn f caps=>obtain⟨_,rfl,_⟩:=h;rfl
 |mref id=>obtain⟨_,_,_,_,rfl⟩:=h;rfl
def CsRep(φ:Phi)(F:Nat→Prop)(G:Heap)(w:World)(cs:List C)(vs:List Value):Prop:=
 All2 (CRep φ F G w) cs vs
def A1Rep(φ:Phi)(F:Nat→Prop)(G:Heap)(w:World):A1→Value→Prop
 | .c x,v=>CRep φ F G w x v
 | .agg cs,v=>∃vs:List Value,v= .agg vs.toArray∧CsRep φ F G w cs vs
def AVRep(φ:Phi)(F:Nat→Prop)(G:Heap)(w:World):AV→Value→Prop
 | .one a,v=>A1Rep φ F G w a v
 | .tup l,v=>∃vs:List Value,v= .tuple vs.toArray∧All2 (A1Rep φ F G w) l vs
def BRep(φ:Phi)(F:Nat→Prop)(G:Heap)(w:World)(id:Nat):Blk→Prop
 | .box cells=>∃b cs T,φ id=some (b,0)∧w.heap[b]? =some (.cells cs T (0,0))∧CsRep φ F G w cells cs.toList
 | .arr _ sz rows=>(φ id=none∧rows=[])∨∃b o cs T,φ id=some (b,o)∧w.heap[b]? =some (.cells cs T (0,0))∧
     o+rows.length*sz≤cs.size∧(∀row∈rows,row.length=sz)∧
     ∀(i:Nat) row,rows[i]? =some row→∀(j:Nat) d,row[j]? =some d→∃u,cs[o+i*sz+j]? =some u∧DRep w F d u
 | .map ents=>∃b es clock,φ id=some (b,0)∧w.heap[b]? =some (.map es clock)∧MapKept.Stamped es clock∧
     All2 (fun(e:Value×A1) (m:MapEntry)=>m.key=e.1∧A1Rep φ F G w e.2 m.val) ents es.toList
structure Rel(φ:Phi)(F:Nat→Prop)(G:Heap)(w:World):Prop where
 blk:∀id blk,G id=some blk→BRep φ F G w id blk
 dom:∀id x,φ id=some x→(G id).isSome=true
 inj:∀i j b o b' o',φ i=some (b,o)→φ j=some (b',o')→b=b'→i=j
 frz:∀b,F b→b<w.heap.size∧∀id b' o,φ id=some (b',o)→b'≠b
theorem Rel.live{φ F G w}(h:Rel φ F G w){id b o}(hi:φ id=some (b,o)):∃x,w.heap[b]? =some x:=by
 have hd:=h.dom id _ hi
 cases hg:G id with
 |none=>simp[hg]at hd
 |some blk=>
  have hb:=h.blk id blk hg
  cases blk with
  |box cells=>
   obtain⟨b',cs,T,h1,h2,_⟩:=hb
   rw[hi]at h1;simp only[Option.some.injEq,Prod.mk.injEq]at h1
   exact⟨_,h1.1▸h2⟩
  |arr e sz rows=>
   rcases hb with⟨h1,_⟩|⟨b',o',cs,T,h1,h2,_⟩
   ·rw[hi]at h1;cases h1
   ·rw[hi]at h1;simp only[Option.some.injEq,Prod.mk.injEq]at h1
    exact⟨_,h1.1▸h2⟩
  |map ents=>
   obtain⟨b',es,clock,h1,h2,_⟩:=hb
   rw[hi]at h1;simp only[Option.some.injEq,Prod.mk.injEq]at h1
   exact⟨_,h1.1▸h2⟩
theorem Rel.lt{φ F G w}(h:Rel φ F G w){id b o}(hi:φ id=some (b,o)):b<w.heap.size:=by
 obtain⟨x,hb⟩:=h.live hi
 by_cases hlt:b<w.heap.size
 ·exact hlt
 ·rw[Array.getElem?_eq_none (by omega)]at hb;cases hb
def BStp(φ:Phi)(w:World)(φ':Phi)(w':World)(id:Nat):Option Blk→Option Blk→Prop
 |some (.box _),some (.box _)=>φ' id=φ id
 |some (.map _),some (.map _)=>φ' id=φ id
 |some (.arr e sz rows),some (.arr e' sz' rows')=>e≤e'∧(e=e'→sz'=sz∧rows.length≤rows'.length∧φ' id=φ id∧
   ∀b o,φ id=some (b,o)→bsize w' b=bsize w b)
 |some _,_=>False
 |none,_=>True
structure Stp(φ:Phi)(F:Nat→Prop)(G:Heap)(w:World)(φ':Phi)(F':Nat→Prop)(G':Heap)(w':World):Prop where
 frz:∀b,F b→F' b∧w'.heap[b]? =w.heap[b]?
 blk:∀id,BStp φ w φ' w' id (G id) (G' id)
theorem BStp.refl(φ:Phi)(w:World)(id:Nat)(x:Option Blk):BStp φ w φ w id x x:=by
 cases x with
 |none=>trivial
 |some b=>cases b<;>simp[BStp]
theorem BStp.trans{φ w φ' w' φ'' w'' id x y z}(h:BStp φ w φ' w' id x y)(h':BStp φ' w' φ'' w'' id y z):BStp φ w φ'' w'' id x z:=by
 cases x with
 |none=>trivial
 |some x=>
  cases y with
  |none=>cases x<;>exact h.elim
  |some y=>
   cases z with
   |none=>cases y<;>exact h'.elim
   |some z=>
    cases x<;>cases y<;>cases z<;>simp only[BStp]at h h'⊢
    ·rw[h',h]
    rotate_left
    ·rw[h',h]
    ·refine⟨Nat.le_trans h.1 h'.1,fun he=>?_⟩
     have h1:=h.1
     have h2:=h'.1
     obtain⟨a1,a2,a3,a4⟩:=h.2 (by omega)
     obtain⟨b1,b2,b3,b4⟩:=h'.2 (by omega)
     exact⟨b1.trans a1,Nat.le_trans a2 b2,b3.trans a3,fun b o hb=>(b4 b o (a3▸hb)).trans (a4 b o hb)⟩
theorem Stp.refl(φ F G w):Stp φ F G w φ F G w:=⟨fun _ h=>⟨h,rfl⟩,fun id=>BStp.refl φ w id _⟩
theorem Stp.trans{φ F G w φ' F' G' w' φ'' F'' G'' w''}(h:Stp φ F G w φ' F' G' w')(h':Stp φ' F' G' w' φ'' F'' G'' w''):
 Stp φ F G w φ'' F'' G'' w'':=
 ⟨fun b hb=>⟨(h'.frz b (h.frz b hb).1).1,(h'.frz b (h.frz b hb).1).2.trans (h.frz b hb).2⟩,fun id=>(h.blk id).trans (h'.blk id)⟩
theorem CRep.mono{φ F G w φ' F' G' w'}(h:Stp φ F G w φ' F' G' w'){c v}(hc:CRep φ F G w c v):CRep φ' F' G' w' c v:=by
 cases c with
 |d x=>exact DRep.mono h.frz hc
 |own id ep off len cap=>
  obtain⟨e,sz,rows,hg,hle,A,l,k,rfl,hk⟩:=hc
  have hb:=h.blk id
  rw[hg]at hb
  cases hg':G' id with
  |none=>rw[hg']at hb;exact hb.elim
  |some blk=>
   rw[hg']at hb
   cases blk with
   |box cells=>exact hb.elim
   |map ents=>exact hb.elim
   |arr e' sz' rows'=>
    simp only[BStp]at hb
    refine⟨e',sz',rows',hg',Nat.le_trans hle hb.1,A,l,k,rfl,fun he=>?_⟩
    have h1:=hb.1
    obtain⟨b1,b2,b3,b4⟩:=hb.2 (by omega)
    obtain⟨r1,r2,r3,r4,r5⟩:=hk (by omega)
    refine⟨r1,r2,r3,fun hcap=>Nat.le_trans (r4 hcap) b2,?_⟩
    rcases r5 with r5|⟨b,o,n,s1,s2,s3,s4⟩
    ·exact .inl r5
    ·subst b1
     exact .inr ⟨b,o,n,b3.trans s1,s2,(b4 b o s1).trans s3,s4⟩
 |pt id off=>
  obtain⟨cells,b,o,hg,hp,rfl⟩:=hc
  have hb:=h.blk id
  rw[hg]at hb
  cases hg':G' id with
  |none=>rw[hg']at hb;exact hb.elim
  |some blk=>
   rw[hg']at hb
   cases blk with
   |arr e' sz' rows'=>exact hb.elim
   |map ents=>exact hb.elim
   |box cells'=>exact⟨cells',b,o,hg',Eq.trans hb hp,rfl⟩
 |pe id ep row off=>
  obtain⟨e,sz,rows,hg,hle,A,rfl,hk⟩:=hc
  have hb:=h.blk id
  rw[hg]at hb
  cases hg':G' id with
  |none=>rw[hg']at hb;exact hb.elim
  |some blk=>
   rw[hg']at hb
   cases blk with
   |box cells=>exact hb.elim
   |map ents=>exact hb.elim
   |arr e' sz' rows'=>
    simp only[BStp]at hb
    refine⟨e',sz',rows',hg',Nat.le_trans hle hb.1,A,rfl,fun he=>?_⟩
    have h1:=hb.1
    obtain⟨b1,b2,b3,b4⟩:=hb.2 (by omega)
    obtain⟨b,o,s1,s2,s3⟩:=hk (by omega)
    subst b1
    exact⟨b,o,b3.trans s1,Nat.lt_of_lt_of_le s2 b2,s3⟩
 |fp cells=>
  obtain⟨b,o,hF,rfl,hk⟩:=hc
  refine⟨b,o,(h.frz b hF).1,rfl,fun j d hj=>?_⟩
  obtain⟨u,hu,hd⟩:=hk j d hj
  exact⟨u,(World.cell?_congr (h.frz b hF).2).trans hu,hd.mono h.frz⟩
 |fn f caps=>
  obtain⟨us,rfl,hl,hk⟩:=hc
  refine⟨us,rfl,hl,fun j c hj=>?_⟩
  obtain⟨cells,b,o,hg,hp,hu⟩:=hk j c hj
  have hb:=h.blk c.1
  rw[hg]at hb
  cases hg':G' c.1 with
  |none=>rw[hg']at hb;exact hb.elim
  |some blk=>
   rw[hg']at hb
   cases blk with
   |arr e' sz' rows'=>exact hb.elim
   |map ents=>exact hb.elim
   |box cells'=>exact⟨cells',b,o,rfl,Eq.trans hb hp,hu⟩
 |mref id=>
  obtain⟨ents,b,hg,hp,rfl⟩:=hc
  have hb:=h.blk id
  rw[hg]at hb
  cases hg':G' id with
  |none=>rw[hg']at hb;exact hb.elim
  |some blk=>
   rw[hg']at hb
   cases blk with
   |arr e' sz' rows'=>exact hb.elim
   |box cells'=>exact hb.elim
   |map ents'=>exact⟨ents',b,hg',Eq.trans hb hp,rfl⟩
theorem CsRep.mono{φ F G w φ' F' G' w'}(h:Stp φ F G w φ' F' G' w'){cs vs}(hc:CsRep φ F G w cs vs):CsRep φ' F' G' w' cs vs:=
 All2.imp (fun _ _=>CRep.mono h) hc
theorem A1Rep.mono{φ F G w φ' F' G' w'}(h:Stp φ F G w φ' F' G' w'){c v}(hc:A1Rep φ F G w c v):A1Rep φ' F' G' w' c v:=by
 cases c with
 |c x=>exact CRep.mono h hc
 |agg cs=>obtain⟨vs,rfl,hk⟩:=hc;exact⟨vs,rfl,hk.mono h⟩
theorem AVRep.mono{φ F G w φ' F' G' w'}(h:Stp φ F G w φ' F' G' w'){c v}(hc:AVRep φ F G w c v):AVRep φ' F' G' w' c v:=by
 cases c with
 |one x=>exact A1Rep.mono h hc
 |tup cs=>obtain⟨vs,rfl,hk⟩:=hc;exact⟨vs,rfl,All2.imp (fun _ _=>A1Rep.mono h) hk⟩
def Io(w w':World):Prop:=w'.os=w.os∧w'.output=w.output
theorem Io.refl(w:World):Io w w:=⟨rfl,rfl⟩
theorem Io.push{w w':World}{c:Array Value}{T:TypeId}(h1:w'.os=w.os)(h2:w'.output=w.output)(_h3:w'.heap=w.heap.push (.cells c T (0,0))):Io w w':=⟨h1,h2⟩
theorem Io.trans{w w' w'':World}(h:Io w w')(h':Io w' w''):Io w w'':=⟨h'.1.trans h.1,h'.2.trans h.2⟩
structure Fr(φ:Phi)(F:Nat→Prop)(w:World)(φ':Phi)(F':Nat→Prop)(w':World):Prop where
 size:w.heap.size≤w'.heap.size
 rest:∀b,b<w.heap.size→(∀id o,φ id≠some (b,o))→w'.heap[b]? =w.heap[b]?
 own:∀id b o,φ' id=some (b,o)→(∃id0 o0,φ id0=some (b,o0))∨w.heap.size≤b
 frz:∀b,F' b→F b∨(∃id o,φ id=some (b,o))∨w.heap.size≤b
 io:Io w w'
theorem Fr.refl(φ F w):Fr φ F w φ F w:=⟨Nat.le_refl _,fun _ _ _=>rfl,fun id b o h=> .inl ⟨id,o,h⟩,fun _ h=> .inl h,Io.refl _⟩
theorem Fr.trans{φ F w φ' F' w' φ'' F'' w''}(h:Fr φ F w φ' F' w')(h':Fr φ' F' w' φ'' F'' w''):Fr φ F w φ'' F'' w'':=by
 refine⟨Nat.le_trans h.size h'.size,fun b hb hn=>?_,fun id b o hi=>?_,fun b hb=>?_,h.io.trans h'.io⟩
 ·rw[h'.rest b (Nat.lt_of_lt_of_le hb h.size) ?_,h.rest b hb hn]
  intro id o hi
  rcases h.own id b o hi with⟨i0,o0,h0⟩|h0
  ·exact hn i0 o0 h0
  ·omega
 ·rcases h'.own id b o hi with⟨i0,o0,h0⟩|h0
  ·exact h.own i0 b o0 h0
  ·exact .inr (Nat.le_trans h.size h0)
 ·rcases h'.frz b hb with h0|⟨i0,o0,h0⟩|h0
  ·exact h.frz b h0
  ·exact .inr (h.own i0 b o0 h0)
  ·exact .inr (.inr (Nat.le_trans h.size h0))
end Go.Fw
namespace Go.Fw
def upd{α:Type}(f:Nat→α)(i:Nat)(x:α):Nat→α:=fun j=>if j=i then x else f j
@[simp] theorem upd_same{α:Type}(f:Nat→α)(i:Nat)(x:α):upd f i x i=x:=by simp[upd]
theorem upd_ne{α:Type}(f:Nat→α){i j:Nat}(x:α)(h:j≠i):upd f i x j=f j:=by simp[upd,h]
theorem bsize_congr{w w':World}{b:Nat}(h:w'.heap[b]? =w.heap[b]?):bsize w' b=bsize w b:=by simp[bsize,h]
theorem BStp.same{φ w φ' w' id x}(hφ:φ' id=φ id)(hb:∀b o,φ id=some (b,o)→bsize w' b=bsize w b):BStp φ w φ' w' id x x:=by
 cases x with
 |none=>trivial
 |some b=>cases b with
  |box=>exact hφ
  |arr=>exact⟨Nat.le_refl _,fun _=>⟨rfl,Nat.le_refl _,hφ,hb⟩⟩
  |map=>exact hφ
theorem BRep.mono{φ F G w φ' F' G' w'}(h:Stp φ F G w φ' F' G' w'){id blk}(hφ:φ' id=φ id)
 (hw:∀b o,φ id=some (b,o)→w'.heap[b]? =w.heap[b]?) (hb:BRep φ F G w id blk):BRep φ' F' G' w' id blk:=by
 cases blk with
 |box cells=>
  obtain⟨b,cs,T,h1,h2,h3⟩:=hb
  exact⟨b,cs,T,hφ.trans h1,(hw b 0 h1).trans h2,h3.mono h⟩
 |arr e sz rows=>
  rcases hb with⟨h1,h2⟩|⟨b,o,cs,T,h1,h2,h3,h4,h5⟩
  ·exact .inl ⟨hφ.trans h1,h2⟩
  ·refine .inr ⟨b,o,cs,T,hφ.trans h1,(hw b o h1).trans h2,h3,h4,fun i row hi j d hj=>?_⟩
   obtain⟨u,hu,hd⟩:=h5 i row hi j d hj
   exact⟨u,hu,hd.mono h.frz⟩
 |map ents=>
  obtain⟨b,es,clock,h1,h2,h4,h3⟩:=hb
  exact⟨b,es,clock,hφ.trans h1,(hw b 0 h1).trans h2,h4,All2.imp (fun _ _ hx=>⟨hx.1,hx.2.mono h⟩) h3⟩
theorem Rel.update{φ F G w}(h:Rel φ F G w)(id:Nat)(x:Option (Nat×Nat))(blk:Blk)(w':World)
 (hsz:w.heap.size≤w'.heap.size) (hio:Io w w')
 (hrest:∀b,b<w.heap.size→(∀o,φ id≠some (b,o))→w'.heap[b]? =w.heap[b]?)
 (hx:∀b o,x=some (b,o)→((∃o',φ id=some (b,o'))∨w.heap.size≤b))
 (hst:BStp φ w (upd φ id x) w' id (G id) (some blk))
 (hb:Stp φ F G w (upd φ id x) F (upd G id (some blk)) w'→BRep (upd φ id x) F (upd G id (some blk)) w' id blk):
 Rel (upd φ id x) F (upd G id (some blk)) w'∧Stp φ F G w (upd φ id x) F (upd G id (some blk)) w'∧Fr φ F w (upd φ id x) F w':=by
 have hother:∀j b o,j≠id→φ j=some (b,o)→w'.heap[b]? =w.heap[b]? :=by
  intro j b o hj hφ
  refine hrest b (h.lt hφ) fun o' he=>hj (h.inj j id b o b o' hφ he rfl)
 have stp:Stp φ F G w (upd φ id x) F (upd G id (some blk)) w':=by
  refine⟨fun b hF=>⟨hF,hrest b (h.frz b hF).1 fun o he=>(h.frz b hF).2 id b o he rfl⟩,fun j=>?_⟩
  by_cases hj:j=id
  ·subst hj;rw[upd_same];exact hst
  ·rw[upd_ne _ _ hj]
   exact BStp.same (upd_ne _ _ hj) fun b o hφ=>bsize_congr (hother j b o hj hφ)
 refine⟨⟨fun j bl hG=>?_,fun j y hy=>?_,fun i j b o b' o' hi hj hbb=>?_,fun b hF=>⟨Nat.lt_of_lt_of_le (h.frz b hF).1 hsz,fun j b' o hj hbb=>?_⟩⟩,stp,hsz,fun b hlt hn=>hrest b hlt fun o=>hn id o,fun j b o hj=>?_,fun b hF=> .inl hF,hio⟩
 ·by_cases hj:j=id
  ·subst hj;rw[upd_same]at hG;cases hG;exact hb stp
  ·rw[upd_ne _ _ hj]at hG
   exact BRep.mono stp (upd_ne _ _ hj) (fun b o hφ=>hother j b o hj hφ) (h.blk j bl hG)
 ·by_cases hj:j=id
  ·subst hj;simp
  ·rw[upd_ne _ _ hj]at hy⊢;exact h.dom j y hy
 ·subst hbb
  by_cases hii:i=id<;>by_cases hjj:j=id
  ·rw[hii,hjj]
  ·subst hii
   rw[upd_same]at hi;rw[upd_ne _ _ hjj]at hj
   rcases hx b o hi with⟨o2,h2⟩|h2
   ·exact h.inj i j b o2 b o' h2 hj rfl
   ·have:=h.lt hj;omega
  ·subst hjj
   rw[upd_same]at hj;rw[upd_ne _ _ hii]at hi
   rcases hx b o' hj with⟨o2,h2⟩|h2
   ·exact h.inj i j b o b o2 hi h2 rfl
   ·have:=h.lt hi;omega
  ·rw[upd_ne _ _ hii]at hi;rw[upd_ne _ _ hjj]at hj
   exact h.inj i j b o b o' hi hj rfl
 ·subst hbb
  by_cases hjj:j=id
  ·subst hjj
   rw[upd_same]at hj
   rcases hx b' o hj with⟨o2,h2⟩|h2
   ·exact(h.frz b' hF).2 j b' o2 h2 rfl
   ·have:=(h.frz b' hF).1;omega
  ·rw[upd_ne _ _ hjj]at hj
   exact(h.frz b' hF).2 j b' o hj rfl
 ·by_cases hjj:j=id
  ·subst hjj
   rw[upd_same]at hj
   rcases hx b o hj with⟨o2,h2⟩|h2
   ·exact .inl ⟨j,o2,h2⟩
   ·exact .inr h2
  ·rw[upd_ne _ _ hjj]at hj
   exact .inl ⟨j,o,hj⟩
theorem Rel.freeze{φ F G w}(h:Rel φ F G w){id e sz rows}(sz':Nat)(hG:G id=some (.arr e sz rows)):
 let F':=fun b=>F b∨∃o,φ id=some (b,o)
 Rel (upd φ id none) F' (upd G id (some (.arr (e+1) sz' []))) w∧
  Stp φ F G w (upd φ id none) F' (upd G id (some (.arr (e+1) sz' []))) w∧Fr φ F w (upd φ id none) F' w:=by
 intro F'
 have stp:Stp φ F G w (upd φ id none) F' (upd G id (some (.arr (e+1) sz' []))) w:=by
  refine⟨fun b hF=>⟨.inl hF,rfl⟩,fun j=>?_⟩
  by_cases hj:j=id
  ·subst hj;rw[upd_same,hG];exact⟨by omega,fun he=>by omega⟩
  ·rw[upd_ne _ _ hj]
   exact BStp.same (upd_ne _ _ hj) fun b o hφ=>rfl
 refine⟨⟨fun j bl hj=>?_,fun j y hy=>?_,fun i j b o b' o' hi hj hbb=>?_,fun b hF=>?_⟩,stp,Nat.le_refl _,fun _ _ _=>rfl,fun j b o hj=>?_,fun b hF=>?_,Io.refl _⟩
 ·by_cases hj':j=id
  ·subst hj';rw[upd_same]at hj;cases hj;exact .inl ⟨upd_same _ _ _,rfl⟩
  ·rw[upd_ne _ _ hj']at hj
   exact BRep.mono stp (upd_ne _ _ hj') (fun _ _ _=>rfl) (h.blk j bl hj)
 ·by_cases hj:j=id
  ·subst hj;simp
  ·rw[upd_ne _ _ hj]at hy⊢;exact h.dom j y hy
 ·by_cases hii:i=id
  ·subst hii;rw[upd_same]at hi;cases hi
  ·by_cases hjj:j=id
   ·subst hjj;rw[upd_same]at hj;cases hj
   ·rw[upd_ne _ _ hii]at hi;rw[upd_ne _ _ hjj]at hj
    exact h.inj i j b o b' o' hi hj hbb
 ·rcases hF with hF|⟨o,ho⟩
  ·refine⟨(h.frz b hF).1,fun j b' o hj=>?_⟩
   by_cases hjj:j=id
   ·subst hjj;rw[upd_same]at hj;cases hj
   ·rw[upd_ne _ _ hjj]at hj;exact(h.frz b hF).2 j b' o hj
  ·refine⟨h.lt ho,fun j b' o' hj hbb=>?_⟩
   by_cases hjj:j=id
   ·subst hjj;rw[upd_same]at hj;cases hj
   ·rw[upd_ne _ _ hjj]at hj;exact hjj (h.inj j id b' o' b o hj ho hbb)
 ·by_cases hjj:j=id
  ·subst hjj;rw[upd_same]at hj;cases hj
  ·rw[upd_ne _ _ hjj]at hj;exact .inl ⟨j,o,hj⟩
 ·rcases hF with hF|⟨o,ho⟩
  ·exact .inl hF
  ·exact .inr (.inl ⟨id,o,ho⟩)
theorem cell?_of_heap{w:World}{b:Nat}{cs:Array Value}{T:TypeId}{fz:Nat×Nat}(h:w.heap[b]? =some (.cells cs T fz))(i:Nat):
 w.cell? ⟨b,i,none⟩=cs[i]? :=by simp[World.cell?,h]
theorem bsize_of_heap{w:World}{b:Nat}{cs:Array Value}{T:TypeId}{fz:Nat×Nat}(h:w.heap[b]? =some (.cells cs T fz)):
 bsize w b=some cs.size:=by simp[bsize,h]
theorem CRep.frozen{φ F G w id e off len cap sz rows v}(h:Rel φ F G w)(hG:G id=some (.arr e sz rows))
 (hc:CRep φ F G w (.own id e off len cap) v) (hlen:off+len≤rows.length) {F':Nat→Prop} (hF:∀b,F b→F' b) (hF':∀b o,φ id=some (b,o)→F' b):
 DRep w F' (.sl ((rows.drop off).take len)) v:=by
 obtain⟨e',sz',rows',hg,_,A,l,k,rfl,hk⟩:=hc
 rw[hG]at hg;cases hg
 obtain⟨rfl,hlk,_,_,hor⟩:=hk rfl
 by_cases h0:l=0
 ·subst h0
  have:(rows.drop off).take 0=[]:=rfl
  rw[this];exact .nil A k
 rcases hor with h1|⟨b,o,n,hφ,rfl,hn,hle⟩
 ·omega
 have hb:=h.blk id _ hG
 rcases hb with⟨h1,_⟩|⟨b',o',cs,T,h1,h2,h3,h4,h5⟩
 ·rw[hφ]at h1;cases h1
 rw[hφ]at h1;simp only[Option.some.injEq,Prod.mk.injEq]at h1
 obtain⟨rfl,rfl⟩:=h1
 have hlen':((rows.drop off).take l).length=l:=by rw[List.length_take,List.length_drop];omega
 have key:∀(i:Nat) row,((rows.drop off).take l)[i]? =some row→rows[off+i]? =some row:=by
  intro i row hi
  rw[List.getElem?_take]at hi
  split at hi
  ·rw[List.getElem?_drop]at hi;exact hi
  ·cases hi
 have hidx:∀i j:Nat,o+off*sz+i*sz+j=o+(off+i)*sz+j:=by intro i j;rw[Nat.add_mul];omega
 have:=DRep.sl (w:=w) (F:=F') ((rows.drop off).take l) b (o+off*sz) sz k (fun i j=>(cs[o+(off+i)*sz+j]?).getD (.bool true)) (hF' b o hφ) (by omega)
  (fun row hr=>h4 row (List.mem_of_mem_drop (List.mem_of_mem_take hr)))
  (fun i row hi j d hj=>by
    obtain⟨u,hu,hd⟩:=h5 (off+i) row (key i row hi) j d hj
    rw[hidx,cell?_of_heap h2,hu];simp[hu])
  (fun i row hi j d hj=>by
    obtain⟨u,hu,hd⟩:=h5 (off+i) row (key i row hi) j d hj
    rw[hu];exact hd.mono (fun b hb=>⟨hF b hb,rfl⟩))
 rw[hlen']at this
 exact this
end Go.Fw
namespace Go.Fw
structure St where
 slots:List (Nat×AV)
 heap:List (Option Blk)
 deriving Inhabited
def lk:List (Nat×AV)→Nat→Option AV
 |[],_=>none
 |(k,v)::r,t=>if k=t then some v else lk r t
def hp(l:List (Option Blk)):Heap:=fun i=>(l[i]?).join
def hset:List (Option Blk)→Nat→Blk→List (Option Blk)
 |[],0,b=>[some b]
 |[],n+1,b=>none::hset [] n b
 |_::l,0,b=>some b::l
 |x::l,n+1,b=>x::hset l n b
theorem hp_hset(b:Blk):∀(l:List (Option Blk)) (i:Nat),hp (hset l i b)=upd (hp l) i (some b):=by
 have key:∀(l:List (Option Blk)) (i j:Nat),hp (hset l i b) j=upd (hp l) i (some b) j:=by
  intro l i
  induction i generalizing l with
  |zero=>
   intro j
   cases l<;>cases j<;>simp[hset,hp,upd]
  |succ i ih=>
   intro j
   cases l with
   |nil=>
    cases j with
    |zero=>simp[hset,hp,upd]
    |succ j=>have:=ih [] j;simp only[hset,hp,upd,List.getElem?_cons_succ]at this⊢;rw[this];simp
   |cons x l=>
    cases j with
    |zero=>simp[hset,hp,upd]
    |succ j=>have:=ih l j;simp only[hset,hp,upd,List.getElem?_cons_succ]at this⊢;rw[this];simp
 exact fun l i=>funext (key l i)
def wrs(h:List (Option Blk)):List (Nat×Blk)→List (Option Blk)
 |[]=>h
 |(i,b)::r=>wrs (hset h i b) r
theorem wrs_append(h:List (Option Blk))(a b:List (Nat×Blk)):wrs h (a++b)=wrs (wrs h a) b:=by
 induction a generalizing h with
 |nil=>rfl
 |cons x a ih=>exact ih _
inductive O where
 |t (n:Nat)
 |k (v:A1)
 |f (id:FuncId)
 deriving Inhabited
def St.ev(s:St):O→Option AV
 | .t n=>lk s.slots n
 | .k a=>some (.one a)
 | .f id=>some (.one (.c (.fn id [])))
def St.evC(s:St)(o:O):Option C:=
 match s.ev o with
 |some (.one (.c x))=>some x
 |_=>none
def St.evV(s:St)(o:O):Option Value:=
 match s.ev o with
 |some (.one (.c (.d (.v x))))=>some x
 |_=>none
def A1.cells:A1→List C
 | .c x=>[x]
 | .agg cs=>cs
structure Out where
 val:Option AV
 wr:List (Nat×Blk)
def St.apply(s:St)(dst:Option Nat)(o:Out):St:=
 {slots:=match dst with
   |some d=>match o.val with
    |some v=>(d,v)::s.slots
    |none=>s.slots.filter (·.1 !=d)
   |none=>s.slots
  heap:=wrs s.heap o.wr}
structure SRel(n:Nat)(φ:Phi)(F:Nat→Prop)(s:St)(a:Act)(w:World):Prop where
 size:a.tmps.size=n
 defers:a.defers=[]
 rel:Rel φ F (hp s.heap) w
 slot:∀t av,lk s.slots t=some av→AVRep φ F (hp s.heap) w av (a.tmps.getD t undef)
theorem ev_rep{n φ F s a w}(h:SRel n φ F s a w){o:O}{av:AV}{x:Operand}
 (hx:match o with| .t t=>x= .tmp t| .f f=>x= .func f| .k v=>∃u,x= .const u∧A1Rep φ F (hp s.heap) w v u)
 (he:s.ev o=some av):AVRep φ F (hp s.heap) w av (a.eval x):=by
 cases o with
 |t t=>subst hx;exact h.slot t av he
 |k v=>obtain⟨u,rfl,hu⟩:=hx;simp only[St.ev,Option.some.injEq]at he;subst he;exact hu
 |f f=>
  subst hx;simp only[St.ev,Option.some.injEq]at he;subst he
  exact⟨[],rfl,rfl,fun j c hj=>by simp at hj⟩
def cVal:Value→Option A1
 | .agg cs=>if cs.toList.all isCell then some (.agg (cs.toList.map fun c=> .d (.v c)))else none
 | .tuple _=>none
 |v=>some (.c (.d (.v v)))
theorem cVal_rep{v:Value}{x:A1}(h:cVal v=some x)(φ F G w):A1Rep φ F G w x v:=by
 cases v with
 |agg cs=>
  simp only[cVal]at h
  split at h
  ·rename_i hall
   cases h
   refine⟨cs.toList,by simp,All2.of (by simp) ?_⟩
   intro i a b ha hb
   rw[List.getElem?_map,hb]at ha
   simp only[Option.map_some,Option.some.injEq]at ha
   subst ha
   exact DRep.v _ (List.all_eq_true.1 hall _ (List.mem_of_getElem? hb))
  ·cases h
 |tuple vs=>cases h
 |_=>cases h;exact DRep.v _ rfl
def cO:Operand→Option O
 | .tmp t=>some (.t t)
 | .const v=>(cVal v).map .k
 | .func f=>some (.f f)
 | .global _=>none
theorem cO_ev{n φ F s a w}(h:SRel n φ F s a w){x:Operand}{o:O}(hc:cO x=some o){av:AV}(he:s.ev o=some av):
 AVRep φ F (hp s.heap) w av (a.eval x):=by
 refine ev_rep h ?_ he
 cases x with
 |tmp t=>cases hc;rfl
 |const v=>
  simp only[cO,Option.map_eq_some_iff]at hc
  obtain⟨y,hy,rfl⟩:=hc
  exact⟨v,rfl,cVal_rep hy _ _ _ _⟩
 |global g=>cases hc
 |func f=>cases hc;rfl
theorem evC_rep{n φ F s a w}(h:SRel n φ F s a w){x:Operand}{o:O}(hc:cO x=some o){c:C}(he:s.evC o=some c):
 CRep φ F (hp s.heap) w c (a.eval x):=by
 unfold St.evC at he
 split at he
 ·rename_i y hy;cases he;exact cO_ev h hc hy
 ·cases he
theorem evV_rep{n φ F s a w}(h:SRel n φ F s a w){x:Operand}{o:O}(hc:cO x=some o){v:Value}(he:s.evV o=some v):
 a.eval x=v:=by
 unfold St.evV at he
 split at he
 ·rename_i y hy;cases he
  have:=cO_ev h hc hy
  cases this;rfl
 ·cases he
def nrm:D→D
 | .v (.slice none 0 _)=> .sl []
 |d=>d
def frzs(h:List (Option Blk))(wr:List (Nat×Blk)):List C→(List D→List (Nat×Blk)→Prop)→Prop
 |[],K=>K [] wr
 | .d x::cs,K=>frzs h wr cs fun ds wr'=>K (nrm x::ds) wr'
 | .own id ep off len _::cs,K=>
   match hp (wrs h wr) id with
   |some (.arr e sz rows)=>ep=e∧off+len≤rows.length∧
    frzs h (wr++[(id,.arr (e+1) sz [])]) cs fun ds wr'=>K (.sl ((rows.drop off).take len)::ds) wr'
   |_=>False
 |_::_,_=>False
theorem nrm_rep{w F d v}(h:DRep w F d v):DRep w F (nrm d) v:=by
 unfold nrm
 split
 ·cases h;exact .nil _ _
 ·exact h
theorem frzs_sound{h:List (Option Blk)}{w:World}:∀{cs:List C} {wr:List (Nat×Blk)} {K:List D→List (Nat×Blk)→Prop},frzs h wr cs K→
 ∀{φ F vs},Rel φ F (hp (wrs h wr)) w→CsRep φ F (hp (wrs h wr)) w cs vs→
 ∃ds wr' φ' F',K ds wr'∧Rel φ' F' (hp (wrs h wr')) w∧Stp φ F (hp (wrs h wr)) w φ' F' (hp (wrs h wr')) w∧Fr φ F w φ' F' w∧All2 (DRep w F') ds vs∧
  ∀i,hp (wrs h wr) i=none→hp (wrs h wr') i=none
 |[],wr,K,hk,φ,F,vs,hr,hc=>by
  cases hc
  exact⟨[],wr,φ,F,hk,hr,Stp.refl _ _ _ _,Fr.refl _ _ _,.nil,fun _ h=>h⟩
 | .d x::cs,wr,K,hk,φ,F,vs,hr,hc=>by
   cases hc with
   |cons hx hc=>
    have hk':frzs h wr cs fun ds wr'=>K (nrm x::ds) wr':=hk
    obtain⟨ds,wr',φ',F',hK,h1,h2,h3,h4,h5⟩:=frzs_sound hk' hr hc
    exact⟨_,wr',φ',F',hK,h1,h2,h3,.cons ((nrm_rep hx).mono h2.frz) h4,h5⟩
 | .own id ep off len cap::cs,wr,K,hk,φ,F,vs,hr,hc=>by
   cases hc with
   |cons hx hc=>
    simp only[frzs]at hk
    split at hk
    ·rename_i e sz rows hG
     obtain⟨rfl,hlen,hk⟩:=hk
     obtain⟨r1,r2,r3⟩:=hr.freeze sz hG
     have e1:hp (wrs h (wr++[(id,Blk.arr (ep+1) sz [])]))=upd (hp (wrs h wr)) id (some (Blk.arr (ep+1) sz [])):=by
      rw[wrs_append];exact hp_hset _ _ _
     rw[←e1]at r1 r2
     obtain⟨ds,wr',φ',F',hK,h1,h2,h3,h4,h5⟩:=frzs_sound hk r1 (CsRep.mono r2 hc)
     refine⟨_,wr',φ',F',hK,h1,r2.trans h2,r3.trans h3,.cons ?_ h4,fun i hi=>h5 i ?_⟩
     ·exact(hx.frozen hr hG hlen (fun b hb=> .inl hb) (fun b o hb=> .inr ⟨o,hb⟩)).mono h2.frz
     ·rw[e1,upd_ne _ _ (fun he=>by subst he;rw[hG]at hi;cases hi)];exact hi
    ·exact hk.elim
 | .pt _ _::_,_,_,hk,_,_,_,_,_=>hk.elim
 | .pe _ _ _ _::_,_,_,hk,_,_,_,_,_=>hk.elim
 | .fp _::_,_,_,hk,_,_,_,_,_=>hk.elim
 | .fn _ _::_,_,_,hk,_,_,_,_,_=>hk.elim
structure OpRes(φ:Phi)(F:Nat→Prop)(s:St)(w:World)(K:Out→Prop)(v:Value)(w':World):Prop where
 ex:∃out φ' F',K out∧(∀av,out.val=some av→AVRep φ' F' (hp (wrs s.heap out.wr)) w' av v)∧Rel φ' F' (hp (wrs s.heap out.wr)) w'∧
  Stp φ F (hp s.heap) w φ' F' (hp (wrs s.heap out.wr)) w'∧Fr φ F w φ' F' w'
theorem OpRes.still{φ F s w K v}{av:AV}(hK:K ⟨some av,[]⟩)(hr:Rel φ F (hp s.heap) w)(h:AVRep φ F (hp s.heap) w av v):OpRes φ F s w K v w:=
 ⟨⟨_,φ,F,hK,fun _ h'=>by cases h';exact h,hr,Stp.refl _ _ _ _,Fr.refl _ _ _⟩⟩
theorem OpRes.change{φ F s w K v w'}{val:Option AV}(id:Nat)(x:Option (Nat×Nat))(blk:Blk)(hK:K ⟨val,[(id,blk)]⟩)
 (h:Rel φ F (hp s.heap) w)
 (hsz:w.heap.size≤w'.heap.size) (hio:Io w w')
 (hrest:∀b,b<w.heap.size→(∀o,φ id≠some (b,o))→w'.heap[b]? =w.heap[b]?)
 (hx:∀b o,x=some (b,o)→((∃o',φ id=some (b,o'))∨w.heap.size≤b))
 (hst:BStp φ w (upd φ id x) w' id (hp s.heap id) (some blk))
 (hb:Stp φ F (hp s.heap) w (upd φ id x) F (upd (hp s.heap) id (some blk)) w'→BRep (upd φ id x) F (upd (hp s.heap) id (some blk)) w' id blk)
 (hv:Stp φ F (hp s.heap) w (upd φ id x) F (upd (hp s.heap) id (some blk)) w'→∀av,val=some av→AVRep (upd φ id x) F (upd (hp s.heap) id (some blk)) w' av v):OpRes φ F s w K v w':=by
 obtain⟨h1,h2,h3⟩:=h.update id x blk w' hsz hio hrest hx hst hb
 have e:hp (wrs s.heap [(id,blk)])=upd (hp s.heap) id (some blk):=hp_hset _ _ _
 refine⟨⟨⟨val,[(id,blk)]⟩,upd φ id x,F,hK,?_,?_,?_,h3⟩⟩
 ·rw[e];exact hv h2
 ·rw[e];exact h1
 ·rw[e];exact h2
end Go.Fw
namespace Go.Fw
theorem run_bind{α β:Type}(P:Program)(x:Sem α)(f:α→Sem β)(w:World):
 (x>>=f).run P w=match x.run P w with| .ok a w'=>(f a).run P w'| .halt h w'=> .halt h w':=by
 show(Sem.bind x f).run P w=_
 induction x generalizing w with
 |pure a=>rfl
 |load m a k ih=>
  simp only[Sem.bind,Sem.run]
  cases w.cell? a with
  |some v=>exact ih v w
  |none=>simp only[];split<;>simp only[*]
 |store m a v k ih=>
  cases v<;>simp only[Sem.bind,Sem.run]<;>(try rfl)<;>
  ·split
   ·split
    ·rfl
    ·exact ih _
   ·split
    ·exact ih _
    ·rfl
 |new o k ih=>simp only[Sem.bind,Sem.run];exact ih _ _
 |shape r k ih=>simp only[Sem.bind,Sem.run];exact ih _ _
 |freeze a n k ih=>simp only[Sem.bind,Sem.run];exact ih _
 |frozen a k ih=>simp only[Sem.bind,Sem.run];exact ih _ _
 |getObj r k ih=>
  simp only[Sem.bind,Sem.run]
  split
  ·rfl
  ·exact ih _ _
  ·rfl
 |setObj r o k ih=>
  simp only[Sem.bind,Sem.run]
  split
  ·rfl
  ·exact ih _
  ·rfl
 |choose q k ih=>simp only[Sem.bind,Sem.run];split<;>exact ih _ _
 |sys c k ih=>simp only[Sem.bind,Sem.run];exact ih _ _
 |program k ih=>simp only[Sem.bind,Sem.run];exact ih _ _
 |mark m k ih=>simp only[Sem.bind,Sem.run];exact ih _
 |halt h=>rfl
theorem run_pure{α:Type}(P:Program)(a:α)(w:World):(pure a:Sem α).run P w= .ok a w:=rfl
theorem run_program(P:Program)(w:World):program.run P w= .ok P w:=rfl
theorem run_load{P:Program}{w:World}{a:Addr}{v:Value}(h:w.cell? a=some v):(load a).run P w= .ok v w:=by
 simp[load,Sem.run,h]
theorem run_newObj(P:Program)(o:Obj)(w:World):(newObj o).run P w= .ok w.heap.size {w with heap:=w.heap.push o}:=rfl
theorem run_underlying{P:Program}{w:World}{t:TypeId}{d:TypeDesc}(h:P.underlying t=some d):(underlying t).run P w= .ok d w:=by
 simp only[underlying,run_bind,run_program,h,run_pure]
theorem run_typeInfo{P:Program}{w:World}{t:TypeId}{i:TypeInfo}(h:P.info? t=some i):(typeInfo t).run P w= .ok i w:=by
 simp only[typeInfo,run_bind,run_program,h,run_pure]
theorem run_sizeOf{P:Program}{w:World}{t:TypeId}{n:Nat}(h:(P.info? t).map (·.size)=some n):(Go.sizeOf t).run P w= .ok n w:=by
 simp only[Option.map_eq_some_iff]at h
 obtain⟨i,hi,rfl⟩:=h
 simp only[Go.sizeOf,run_bind,run_typeInfo hi,run_pure]
theorem run_zeroValue{P:Program}{w:World}{t:TypeId}{v:Value}(h:(P.info? t).bind (·.zero)=some v):(zeroValue t).run P w= .ok v w:=by
 simp only[Option.bind_eq_some_iff]at h
 obtain⟨i,hi,hz⟩:=h
 simp only[zeroValue,run_bind,run_typeInfo hi,hz,run_pure]
def aggT(P:Program)(t:TypeId):Option Bool:=
 (P.underlying t).map fun| .struct _| .array _ _=>true|_=>false
theorem run_isAgg{P:Program}{w:World}{t:TypeId}{b:Bool}(h:aggT P t=some b):(isAgg t).run P w= .ok b w:=by
 simp only[aggT,Option.map_eq_some_iff]at h
 obtain⟨d,hd,rfl⟩:=h
 simp only[isAgg,run_bind,run_underlying hd]
 split<;>simp_all [run_pure]
def cellsT(P:Program)(t:TypeId):Option (Option Nat):=
 match aggT P t,(P.info? t).map (·.size)with
 |some true,some n=>some (some n)
 |some false,some 1=>some none
 |_,_=>none
theorem addr_add(b o n:Nat):(Addr.mk b o none).add n=⟨b,o+n,none⟩:=by
 unfold Addr.add;split
 ·subst_vars;rfl
 ·rfl
theorem run_loadCellsFrom{P:Program}{w:World}{b o:Nat}:∀(n i:Nat) (acc:Array Value) (vs:List Value),vs.length=n→
 (∀(j:Nat) v,vs[j]? =some v→w.cell? ⟨b,o+i+j,none⟩=some v)→(loadCellsFrom ⟨b,o,none⟩ i n acc).run P w= .ok (acc++vs.toArray) w
 |0,i,acc,vs,hl,h=>by
  have:vs=[]:=List.length_eq_zero_iff.1 hl
  subst this;simp[loadCellsFrom,run_pure]
 |n+1,i,acc,v::vs,hl,h=>by
  simp only[loadCellsFrom,run_bind,addr_add]
  have h0:=h 0 v rfl
  rw[Nat.add_zero]at h0
  rw[run_load h0]
  simp only[]
  rw[run_loadCellsFrom n (i+1) (acc.push v) vs (by simpa using hl) (fun j u hj=>by
   have:=h (j+1) u (by simpa using hj)
   rw[show o+(i+1)+j=o+i+(j+1)by omega];exact this)]
  simp
 |n+1,i,acc,[],hl,h=>by simp at hl
theorem run_loadCells{P:Program}{w:World}{b o:Nat}(vs:List Value)
 (h:∀(j:Nat) v,vs[j]? =some v→w.cell? ⟨b,o+j,none⟩=some v):(loadCells ⟨b,o,none⟩ vs.length).run P w= .ok vs.toArray w:=by
 unfold loadCells
 rw[run_loadCellsFrom vs.length 0 #[] vs rfl (by simpa using h)]
 simp
def splice{α:Type}(cs:List α)(off:Nat)(new:List α):List α:=cs.take off++new++cs.drop (off+new.length)
structure OneBlk(w w':World)(b:Nat)(cs:List Value)(T:TypeId):Prop where
 size:w'.heap.size=w.heap.size
 rest:∀b',b'≠b→w'.heap[b']? =w.heap[b']?
 blk:w'.heap[b]? =some (.cells cs.toArray T (0,0))
 io:Io w w'
theorem setCell_one{w:World}{b i:Nat}{cs:Array Value}{T:TypeId}(hb:w.heap[b]? =some (.cells cs T (0,0)))(v:Value):
 OneBlk w (w.setCell ⟨b,i,none⟩ v) b (cs.toList.set i v) T:=by
 have hlt:b<w.heap.size:=by
  by_cases h:b<w.heap.size
  ·exact h
  ·rw[Array.getElem?_eq_none (by omega)]at hb;cases hb
 refine⟨by simp[World.setCell],fun b' hb'=>?_,?_,⟨rfl,rfl⟩⟩
 ·simp only[World.setCell];rw[Array.getElem?_modify];simp[Ne.symm hb']
 ·simp only[World.setCell];rw[Array.getElem?_modify];simp[hb]
  apply Array.ext';simp
theorem OneBlk.trans{w w' w'':World}{b cs cs' T T'}(h:OneBlk w w' b cs T)(h':OneBlk w' w'' b cs' T'):OneBlk w w'' b cs' T':=
 ⟨h'.size.trans h.size,fun b' hb=>(h'.rest b' hb).trans (h.rest b' hb),h'.blk,h.io.trans h'.io⟩
theorem run_store{P:Program}{w:World}{b i:Nat}{cs:Array Value}{T:TypeId}(hb:w.heap[b]? =some (.cells cs T (0,0)))(hi:i<cs.size){v:Value}(hv:isCell v=true):
 (store ⟨b,i,none⟩ v).run P w= .ok () (w.setCell ⟨b,i,none⟩ v):=by
 have h1:w.cell? ⟨b,i,none⟩=some cs[i]:=by rw[cell?_of_heap hb];exact Array.getElem?_eq_getElem hi
 have h2:w.frozen? ⟨b,i,none⟩=false:=by simp[World.frozen?,hb]
 cases v<;>first|(simp[isCell]at hv;done)|simp[store,Sem.run,h1,h2]
theorem run_storeCells{P:Program}{b o:Nat}{T:TypeId}:∀(vs:List Value) (i:Nat) (w:World) (cs:List Value),w.heap[b]? =some (.cells cs.toArray T (0,0))→
 o+i+vs.length≤cs.length→vs.all isCell=true→vs≠[]→∃w',(storeCells ⟨b,o,none⟩ vs i).run P w= .ok () w'∧OneBlk w w' b (splice cs (o+i) vs) T
 |[],i,w,cs,hb,hl,ha,hne=>absurd rfl hne
 |v::vs,i,w,cs,hb,hl,ha,hne=>by
  simp only[List.length_cons]at hl
  simp only[List.all_cons,Bool.and_eq_true]at ha
  simp only[storeCells,run_bind,addr_add]
  rw[run_store hb (by simp;omega) ha.1]
  have h1:=setCell_one (i:=o+i) hb v
  cases vs with
  |nil=>
   refine⟨_,rfl,?_⟩
   have:splice cs (o+i) [v]=cs.set (o+i) v:=by
    unfold splice
    rw[List.set_eq_take_append_cons_drop,if_pos (by omega)]
    simp
   rw[this];simpa using h1
  |cons u us=>
   obtain⟨w',hr,ho⟩:=run_storeCells (P:=P) (o:=o) (u::us) (i+1) (w.setCell ⟨b,o+i,none⟩ v) (cs.set (o+i) v) (by simpa using h1.blk) (by simp;simp at hl;omega) ha.2 (by simp)
   refine⟨w',hr,?_⟩
   have:splice cs (o+i) (v::u::us)=splice (cs.set (o+i) v) (o+(i+1)) (u::us):=by
    unfold splice
    rw[List.set_eq_take_append_cons_drop,if_pos (by omega)]
    rw[List.take_append,List.drop_append]
    simp only[List.length_take,List.length_cons]
    have e1:min (o+i) cs.length=o+i:=by omega
    rw[e1]
    have e2:o+(i+1)-(o+i)=1:=by omega
    have e3:o+(i+1)+(us.length+1)-(o+i)=us.length+1+1:=by omega
    rw[e2,e3]
    rw[List.take_of_length_le (l:=List.take (o+i) cs) (by simp;omega),List.drop_of_length_le (l:=List.take (o+i) cs) (by simp;omega)]
    simp only[List.take_succ_cons,List.take_zero,List.drop_succ_cons,List.drop_drop,List.nil_append,List.append_assoc,List.cons_append]
    congr 4
    congr 1;omega
   rw[this]
   exact h1.trans ho
end Go.Fw
namespace Go.Fw
inductive AOp where
 |mv (x:O)
 |pick (c x y:O)
 |box (x:O)
 |zbox (cs:List C)
 |build (zero:List C) (parts:List (Nat×Nat×O))
 |bslice (sz:Nat) (parts:List O)
 |load (n:Option Nat) (x:O)
 |store (n:Nat) (a x:O)
 |fieldA (off:Nat) (x:O)
 |field (off:Nat) (n:Option Nat) (x:O)
 |indexA (sz:Nat) (x i:O)
 |sidx (x i:O)
 |slice (sz:Nat) (x:O) (lo hi mx:Option O)
 |sslice (x:O) (lo hi:Option O)
 |fn (f:FuncId) (caps:List O)
 |ext (x:O) (i:Nat)
 |len (x:O)
 |slen (x:O)
 |cap (x:O)
 |bin (op:BinOp) (x y:O)
 |eqnil (neg:Bool) (x:O)
 |not (x:O)
 |neg (x:O)
 |max (x y:O)
 |min (x y:O)
 |mins (x:O) (r:List O)
 |conv (k:IntKind) (x:O)
 |app (sz bytes:Nat) (x y:O)
 |appz (sz bytes:Nat) (zero:List D) (x y:O)
 |copy (sz:Nat) (x y:O)
 |clear (sz:Nat) (zero:List D) (x:O)
 |mk (sz bytes:Nat) (zero:List D) (l c:O)
 |call (f:FuncId) (args:List O)
 |callv (g:O) (args:List O)
 |eqs (neg:Bool) (plan:List (Nat×Nat)) (x y:O)
 |beq (neg:Bool) (x y:O)
 |istr (x:O)
 |mkmap
 |mget (kd:Nat) (ok:Bool) (zero:A1) (m k:O)
 |mset (kd:Nat) (m k v:O)
 |mdel (kd:Nat) (m k:O)
 |mlen (m:O)
 |opq (k:Nat) (x:O)
 deriving Inhabited
def C.isDt:C→Bool
 | .d _=>true
 |_=>false
def A1.isDt:A1→Bool
 | .c x=>x.isDt
 | .agg cs=>cs.all C.isDt
def keyK:Nat→Value→Bool
 |0,.int .i64 _=>true
 |1,.string _=>true
 |_,_=>false
def keyEq:Value→Value→Bool
 | .int _ a,.int _ b=>decide (a=b)
 | .string a,.string b=>decide (a=b)
 |_,_=>false
def mfind(k:Value):List (Value×A1)→Option A1
 |[]=>none
 |e::r=>if keyEq k e.1 then some e.2 else mfind k r
def mput(k:Value)(v:A1):List (Value×A1)→List (Value×A1)
 |[]=>[(k,v)]
 |e::r=>if keyEq k e.1 then(k,v)::r else e::mput k v r
def mdelE(k:Value):List (Value×A1)→List (Value×A1)
 |[]=>[]
 |e::r=>if keyEq k e.1 then r else e::mdelE k r
def allK(kd:Nat)(ents:List (Value×A1)):Bool:=ents.all fun e=>keyK kd e.1
def mres(ok:Bool)(zero:A1)(r:Option A1):AV:=if ok then .tup [r.getD zero,.c (.d (.v (.bool r.isSome)))]else .one (r.getD zero)
def ldC(n:Option Nat)(cs:List C)(K:Out→Prop):Prop:=
 match n with
 |none=>match cs with
  |c::_=>K ⟨some (.one (.c c)),[]⟩
  |[]=>False
 |some n=>n≤cs.length∧K ⟨some (.one (.agg (cs.take n))),[]⟩
def nb(t:Bool):Bool:= !t
def shrV(k:IntKind)(a b:Int):Int:=a.fdiv (2^(min b.toNat k.bits))
def shlV(k:IntKind)(a b:Int):Int:=k.wrap (a*2^(min b.toNat k.bits))
def andV(k:IntKind)(a b:Int):Int:=k.wrap (BitVec.ofInt k.bits a&&& BitVec.ofInt k.bits b).toNat
def orV(k:IntKind)(a b:Int):Int:=k.wrap (BitVec.ofInt k.bits a|||BitVec.ofInt k.bits b).toNat
def xorV(k:IntKind)(a b:Int):Int:=k.wrap (BitVec.ofInt k.bits a^^^BitVec.ofInt k.bits b).toNat
def binK(op:BinOp)(x y:Value)(K:Value→Prop):Prop:=
 match x,y with
 | .int k a,.int k' b=>k=k'∧
   (match op with
     | .add=>K (.int k (k.wrap (a+b)))
     | .sub=>K (.int k (k.wrap (a-b)))
     | .mul=>K (.int k (k.wrap (a*b)))
     | .quo=>b≠0∧K (.int k (k.wrap (a.tdiv b)))
     | .rem=>b≠0∧K (.int k (a.tmod b))
     | .eql=>K (.bool (decide (a=b)))
     | .neq=>K (.bool (nb (decide (a=b))))
     | .lss=>K (.bool (decide (a<b)))
     | .leq=>K (.bool (decide (a≤b)))
     | .gtr=>K (.bool (decide (b<a)))
     | .geq=>K (.bool (decide (b≤a)))
     | .shr=>0≤b∧K (.int k (shrV k a b))
     | .shl=>0≤b∧K (.int k (shlV k a b))
     | .and=>K (.int k (andV k a b))
     | .or=>K (.int k (orV k a b))
     | .xor=>K (.int k (xorV k a b))
     |_=>False)
 | .string a,.string b=>
   (match op with
     | .add=>a.size+b.size≤9223372036854775807∧K (.string (a++b))
     | .eql=>K (.bool (decide (a=b)))
     | .neq=>K (.bool (nb (decide (a=b))))
     | .lss=>K (.bool (Op.bytesLess a.toList b.toList))
     | .leq=>K (.bool (Op.bytesLess a.toList b.toList||decide (a=b)))
     | .gtr=>K (.bool (nb (Op.bytesLess a.toList b.toList||decide (a=b))))
     | .geq=>K (.bool (nb (Op.bytesLess a.toList b.toList)))
     |_=>False)
 |_,_=>False
def eqCell:Nat→C→C→Option Bool
 |0,.d (.v (.int k a)),.d (.v (.int k' b))=>if k=k' then some (decide (a=b))else none
 |1,.d (.v (.bool a)),.d (.v (.bool b))=>some (a==b)
 |2,.d (.v (.string a)),.d (.v (.string b))=>some (decide (a=b))
 |_,_,_=>none
def eqCells:List (Nat×Nat)→List C→List C→Option Bool
 |[],_,_=>some true
 |(off,k)::r,xs,ys=>match xs[off]?,ys[off]? with
  |some x,some y=>match eqCell k x y with
   |some b=>match eqCells r xs ys with
    |some b'=>some (b&&b')
    |none=>none
   |none=>none
  |_,_=>none
def clipC(k:Nat):C→C
 | .own id ep off len cap=> .own id ep off (min len k) cap
 |c=>c
def eqB(neg b:Bool):Bool:=if neg then nb b else b
def idx(v:Value)(K:Nat→Prop):Prop:=
 match v with
 | .int _ j=>0≤j∧K j.toNat
 |_=>False
def idxO(s:St)(o:Option O)(d:Nat)(K:Nat→Prop):Prop:=
 match o with
 |none=>K d
 |some o=>match s.evV o with
  |some v=>idx v K
  |none=>False
def evs(s:St):List O→(List A1→Prop)→Prop
 |[],K=>K []
 |o::r,K=>match s.ev o with
  |some (.one a)=>evs s r fun l=>K (a::l)
  |_=>False
def bld(s:St):List C→List (Nat×Nat×O)→(List C→Prop)→Prop
 |cs,[],K=>K cs
 |cs,(off,n,x)::r,K=>match s.ev x with
  |some (.one a)=>a.cells.length=n∧off+n≤cs.length∧bld s (splice cs off a.cells) r K
  |_=>False
def frzRows(h:List (Option Blk))(sz:Nat)(wr:List (Nat×Blk)):List A1→(List (List D)→List (Nat×Blk)→Prop)→Prop
 |[],K=>K [] wr
 |a::r,K=>a.cells.length=sz∧frzs h wr a.cells fun ds wr'=>frzRows h sz wr' r fun rows wr''=>K (ds::rows) wr''
def caps(s:St):List O→(List (Nat×Nat)→Prop)→Prop
 |[],K=>K []
 |o::r,K=>match s.evC o with
  |some (.pt id off)=>caps s r fun l=>K ((id,off)::l)
  |_=>False
def ret(K:Out→Prop)(c:C):Prop:=K ⟨some (.one (.c c)),[]⟩
def retV(K:Out→Prop)(v:Value):Prop:=K ⟨some (.one (.c (.d (.v v)))),[]⟩
def minL(s:St):List O→IntKind→Int→(Out→Prop)→Prop
 |[],k,a,K=>retV K (.int k a)
 |y::r,k,a,K=>match s.evV y with
  |some (.int _ b)=>minL s r k (if b<a then b else a) K
  |_=>False
def op0:AOp→St→(Out→Prop)→Prop
 | .mv x,s,K=>match s.ev x with
   |some v=>K ⟨some v,[]⟩
   |none=>False
 | .pick c x y,s,K=>match s.evV c with
   |some (.bool t)=>(t=true→match s.ev x with|some v=>K ⟨some v,[]⟩|none=>False)∧
     (t=false→match s.ev y with|some v=>K ⟨some v,[]⟩|none=>False)
   |_=>False
 | .box x,s,K=>match s.ev x with
   |some (.one a)=>K ⟨some (.one (.c (.pt s.heap.length 0))),[(s.heap.length,.box a.cells)]⟩
   |_=>False
 | .zbox cs,s,K=>K ⟨some (.one (.c (.pt s.heap.length 0))),[(s.heap.length,.box cs)]⟩
 | .build zero parts,s,K=>bld s zero parts fun cs=>K ⟨some (.one (.agg cs)),[]⟩
 | .bslice sz parts,s,K=>evs s parts fun as=>frzRows s.heap sz [] as fun rows wr=>
     K ⟨some (.one (.c (.own s.heap.length 0 0 rows.length none))),wr++[(s.heap.length,.arr 0 sz rows)]⟩
 | .load n x,s,K=>match s.evC x with
   |some (.pt id off)=>match hp s.heap id with
    |some (.box cells)=>ldC n (cells.drop off) K
    |_=>False
   |some (.pe id ep row off)=>match hp s.heap id with
    |some (.arr e _ rows)=>ep=e∧∃r,rows[row]? =some r∧ldC n ((r.drop off).map .d) K
    |_=>False
   |some (.fp cells)=>ldC n (cells.map .d) K
   |_=>False
 | .store n a x,s,K=>match s.ev x with
   |some (.one v)=>v.cells.length=n∧0<n∧match s.evC a with
    |some (.pt id off)=>match hp s.heap id with
     |some (.box cells)=>off+n≤cells.length∧K ⟨none,[(id,.box (splice cells off v.cells))]⟩
     |_=>False
    |some (.pe id ep row off)=>frzs s.heap [] v.cells fun ds wr=>match hp (wrs s.heap wr) id with
     |some (.arr e sz rows)=>ep=e∧∃r,rows[row]? =some r∧off+n≤r.length∧K ⟨none,wr++[(id,.arr e sz (rows.set row (splice r off ds)))]⟩
     |_=>False
    |_=>False
   |_=>False
 | .fieldA off x,s,K=>match s.evC x with
   |some (.pt id o)=>ret K (.pt id (o+off))
   |some (.pe id ep row o)=>match hp s.heap id with
    |some (.arr e _ _)=>ep=e∧ret K (.pe id ep row (o+off))
    |_=>False
   |some (.fp cells)=>ret K (.fp (cells.drop off))
   |_=>False
 | .field off n x,s,K=>match s.ev x with
   |some (.one (.agg cs))=>ldC n (cs.drop off) K
   |_=>False
 | .indexA sz x i,s,K=>match s.evV i with
   |some v=>idx v fun j=>match s.evC x with
    |some (.d (.sl rows))=>∃r,rows[j]? =some r∧r.length=sz∧ret K (.fp r)
    |some (.own id ep off len _)=>j<len∧match hp s.heap id with
     |some (.arr e sz' rows)=>ep=e∧sz'=sz∧off+j<rows.length∧ret K (.pe id ep (off+j) 0)
     |_=>False
    |_=>False
   |none=>False
 | .sidx x i,s,K=>match s.evV x,s.evV i with
   |some (.string b),some v=>idx v fun j=>∃c,b[j]? =some c∧retV K (.int .u8 c.toNat)
   |_,_=>False
 | .slice sz x lo hi mx,s,K=>match s.evC x with
   |some (.d (.sl rows))=>(match mx with
     |none=>idxO s hi rows.length fun h=>idxO s lo 0 fun l=>l≤h∧h≤rows.length∧(∀r∈rows,r.length=sz)∧
      ret K (.d (.sl ((rows.take h).drop l)))
     |some mx=>idxO s (some mx) 0 fun m=>idxO s hi rows.length fun h=>idxO s lo 0 fun l=>l=h∧h=m∧m≤rows.length∧
      K ⟨some (.one (.c (.own s.heap.length 0 0 0 none))),[(s.heap.length,.arr 0 sz [])]⟩)
   |some (.d (.v (.slice none 0 0)))=>mx=none∧idxO s hi 0 fun h=>idxO s lo 0 fun l=>l=0∧h=0∧retV K (.slice none 0 0)
   |some (.own id ep off len cap)=>match hp s.heap id with
    |some (.arr e sz' _)=>ep=e∧sz'=sz∧(match cap with
     |none=>match mx with
      |none=>idxO s hi len fun h=>idxO s lo 0 fun l=>l≤h∧h≤len∧ret K (.own id ep (off+l) (h-l) none)
      |some mx=>idxO s (some mx) 0 fun m=>idxO s hi len fun h=>idxO s lo 0 fun l=>l≤h∧h≤m∧m≤len∧ret K (.own id ep (off+l) (h-l) (some (m-l)))
     |some c=>idxO s mx c fun m=>idxO s hi len fun h=>idxO s lo 0 fun l=>l≤h∧h≤m∧m≤c∧ret K (.own id ep (off+l) (h-l) (some (m-l))))
    |_=>False
   |_=>False
 | .sslice x lo hi,s,K=>match s.evV x with
   |some (.string b)=>idxO s hi b.size fun h=>idxO s lo 0 fun l=>l≤h∧h≤b.size∧retV K (.string (b.extract l h))
   |_=>False
 | .fn f cs,s,K=>caps s cs fun l=>ret K (.fn f l)
 | .ext x i,s,K=>match s.ev x with
   |some (.tup l)=>match l[i]? with
    |some a=>K ⟨some (.one a),[]⟩
    |none=>False
   |_=>False
 | .len x,s,K=>match s.evC x with
   |some (.d (.sl rows))=>retV K (.int .i64 rows.length)
   |some (.d (.v (.slice _ m _)))=>retV K (.int .i64 m)
   |some (.own id ep _ len _)=>match hp s.heap id with
    |some (.arr e _ _)=>ep=e∧retV K (.int .i64 len)
    |_=>False
   |_=>False
 | .slen x,s,K=>match s.evV x with
   |some (.string b)=>retV K (.int .i64 b.size)
   |_=>False
 | .cap x,s,K=>match s.evC x with
   |some (.own id ep _ _ (some c))=>match hp s.heap id with
    |some (.arr e _ _)=>ep=e∧retV K (.int .i64 c)
    |_=>False
   |_=>False
 | .bin op x y,s,K=>match s.evV x,s.evV y with
   |some a,some b=>binK op a b (retV K)
   |_,_=>False
 | .eqnil neg x,s,K=>match s.evC x with
   |some (.d (.v (.slice none 0 0)))=>retV K (.bool (!neg))
   |some (.d (.sl rows))=>∀b,(rows≠[]→b=false)→retV K (.bool (b !=neg))
   |some (.own id ep _ len _)=>match hp s.heap id with
    |some (.arr e _ _)=>ep=e∧∀b,(len≠0→b=false)→retV K (.bool (b !=neg))
    |_=>False
   |_=>False
 | .beq neg x y,s,K=>match s.evV x,s.evV y with
   |some (.bool a),some (.bool b)=>retV K (.bool ((a==b)!=neg))
   |_,_=>False
 | .eqs neg plan x y,s,K=>match s.ev x,s.ev y with
   |some (.one (.agg xs)),some (.one (.agg ys))=>match eqCells plan xs ys with
    |some b=>retV K (.bool (eqB neg b))
    |none=>False
   |_,_=>False
 | .istr x,s,K=>match s.evV x with
   |some (.int _ n)=>retV K (.string (Utf8.encode n))
   |_=>False
 | .mkmap,s,K=>K ⟨some (.one (.c (.mref s.heap.length))),[(s.heap.length,.map [])]⟩
 | .mget kd ok zero m k,s,K=>match s.evC m with
   |some (.mref id)=>match hp s.heap id with
    |some (.map ents)=>match s.evV k with
     |some kv=>keyK kd kv=true∧allK kd ents=true∧K ⟨some (mres ok zero (mfind kv ents)),[]⟩
     |none=>False
    |_=>False
   |_=>False
 | .mdel kd m k,s,K=>match s.evC m with
   |some (.mref id)=>match hp s.heap id with
    |some (.map ents)=>match s.evV k with
     |some kv=>keyK kd kv=true∧allK kd ents=true∧K ⟨some (.tup []),[(id,.map (mdelE kv ents))]⟩
     |none=>False
    |_=>False
   |_=>False
 | .opq ..,_,_=>False
 | .mlen m,s,K=>match s.evC m with
   |some (.mref id)=>match hp s.heap id with
    |some (.map ents)=>retV K (.int .i64 (ents.length:Nat))
    |_=>False
   |_=>False
 | .mset kd m k v,s,K=>match s.evC m with
   |some (.mref id)=>match hp s.heap id with
    |some (.map ents)=>match s.evV k with
     |some kv=>match s.ev v with
      |some (.one a)=>keyK kd kv=true∧allK kd ents=true∧a.isDt=true∧K ⟨none,[(id,.map (mput kv a ents))]⟩
      |_=>False
     |none=>False
    |_=>False
   |_=>False
 | .not x,s,K=>match s.evV x with
   |some (.bool t)=>retV K (.bool (!t))
   |_=>False
 | .neg x,s,K=>match s.evV x with
   |some (.int k n)=>retV K (.int k (k.wrap (0-n)))
   |_=>False
 | .max x y,s,K=>match s.evV x,s.evV y with
   |some (.int k a),some (.int _ b)=>retV K (.int k (if a<b then b else a))
   |_,_=>False
 | .min x y,s,K=>match s.evV x,s.evV y with
   |some (.int k a),some (.int _ b)=>retV K (.int k (if b<a then b else a))
   |_,_=>False
 | .mins x r,s,K=>match s.evV x with
   |some (.int k a)=>minL s r k a K
   |_=>False
 | .conv k x,s,K=>match s.evV x with
   |some (.int _ n)=>retV K (.int k (k.wrap n))
   |_=>False
 |_,_,_=>False
end Go.Fw
namespace Go.Fw
def slT(P:Program)(t:TypeId):Option TypeId:=
 match P.underlying t with
 |some (.slice e)=>some e
 |_=>none
def kdT(P:Program)(t:TypeId):Option Nat:=
 match P.underlying t with
 |some (.int .i64)=>some 0
 |some .string=>some 1
 |_=>none
def szT(P:Program)(t:TypeId):Option Nat:=(P.info? t).map (·.size)
def nilK:Operand→Bool
 | .const (.slice none 0 0)=>true
 |_=>false
def cOs:List Operand→Option (List O)
 |[]=>some []
 |x::r=>(cO x).bind fun y=>(cOs r).map (y::·)
def cParts(places:List (Nat×Nat)):List (Nat×Operand)→Option (List (Nat×Nat×O))
 |[]=>some []
 |(i,x)::r=>(places[i]?).bind fun p=>(cO x).bind fun y=>(cParts places r).map ((p.1,p.2,y)::·)
def inOrder:Nat→List (Nat×Operand)→Bool
 |_,[]=>true
 |k,(i,_)::r=>i==k&&inOrder (k+1) r
def cCells(v:Value):Option (List C):=(cVal v).map A1.cells
def optO:Option Operand→Option (Option O)
 |none=>some none
 |some x=>(cO x).map some
def eqLeaf(P:Program)(f:Field):Option (Nat×Nat):=
 if f.name== "_" then none else match P.underlying f.type with
  |some (.int _)=>some (f.offset,0)
  |some .bool=>some (f.offset,1)
  |some .string=>some (f.offset,2)
  |_=>none
def eqLeaves(P:Program):List Field→Option (List (Nat×Nat))
 |[]=>some []
 |f::r=>match eqLeaf P f,eqLeaves P r with
  |some x,some l=>some (x::l)
  |_,_=>none
def arrF(n:Nat)(e:TypeId)(c:Nat):List Field:=(List.range n).map fun i=>{name:= "f",type:=e,offset:=i*c,embedded:=false,tag:= "",pkgPath:=default,byteOffset:=default}
def arrPl(n c:Nat):List (Nat×Nat):=(List.range n).map fun i=>(i*c,c)
def eqPlanA(P:Program)(t:TypeId)(n:Nat)(e:TypeId):Option (List (Nat×Nat)):=
 if P.eqGuardType P.depth t then none else eqLeaves P (arrF n e (P.cellsOf e))
def eqPlan(P:Program)(t:TypeId)(fs:List Field):Option (List (Nat×Nat)):=
 if P.stoodInHeld t||P.eqGuardType P.depth t then none else eqLeaves P fs
def cBin(P:Program)(op:BinOp)(t:TypeId)(x y:Operand):Option AOp:=
 match P.underlying t with
 |some (.int _)|some .string=>(cO x).bind fun a=>(cO y).map fun b=> .bin op a b
 |some .bool=>match op with
  | .eql=>(cO x).bind fun a=>(cO y).map fun b=> .beq false a b
  | .neq=>(cO x).bind fun a=>(cO y).map fun b=> .beq true a b
  |_=>none
 |some (.slice _)=>if nilK y then match op with
   | .eql=>(cO x).map fun a=> .eqnil false a
   | .neq=>(cO x).map fun a=> .eqnil true a
   |_=>none
  else none
 |some (.struct fs)=>match op with
  | .eql=>(eqPlan P t fs.toList).bind fun p=>(cO x).bind fun a=>(cO y).map fun b=> .eqs false p a b
  | .neq=>(eqPlan P t fs.toList).bind fun p=>(cO x).bind fun a=>(cO y).map fun b=> .eqs true p a b
  |_=>none
 |some (.array n e)=>if(P.info? e).isSome then match op with
   | .eql=>(eqPlanA P t n e).bind fun p=>(cO x).bind fun a=>(cO y).map fun b=> .eqs false p a b
   | .neq=>(eqPlanA P t n e).bind fun p=>(cO x).bind fun a=>(cO y).map fun b=> .eqs true p a b
   |_=>none
  else none
 |_=>none
def cOp0(P:Program)(op:Op):Option AOp:=
 match op with
 | .move x| .assign x=>(cO x).map .mv
 | .pick c a b=>(cO c).bind fun c=>(cO a).bind fun a=>(cO b).map fun b=> .pick c a b
 | .alloc t=>((P.info? t).bind (·.zero)).bind fun z=>(cCells z).map .zbox
 | .box _ x=>(cO x).map .box
 | .build t parts=>match P.info? t,P.underlying t with
   |some it,some (.struct fields)=>match it.zero,fields.toList.mapM (fun f=>(P.info? f.type).map fun i=>(f.offset,i.size))with
    |some z,some places=>(cCells z).bind fun cs=>(cParts places parts.toList).map fun ps=> .build cs ps
    |_,_=>none
   |some it,some (.array n e)=>match it.zero,P.info? e with
    |some z,some ie=>(cCells z).bind fun cs=>(cParts (arrPl n ie.size) parts.toList).map fun ps=> .build cs ps
    |_,_=>none
   |_,_=>none
 | .buildSlice t len parts=>(slT P t).bind fun e=>(szT P e).bind fun sz=>(cOs (parts.toList.map (·.2))).bind fun os=>
     if inOrder 0 parts.toList&&parts.size==len&&decide (len*sz≤2^24)&&decide (0<sz)&&((P.info? e).bind (·.zero)).isSome then some (.bslice sz os)else none
 | .load t x=>(cellsT P t).bind fun n=>(cO x).map fun a=> .load n a
 | .store t x y=>(szT P t).bind fun n=>(cO x).bind fun a=>(cO y).map fun b=> .store n a b
 | .nilCheck x=>(cO x).map (.fieldA 0)
 | .fieldAddr t x f=>match P.underlying t with
   |some (.struct fields)=>match fields[f]? with
    |some fd=>match szT P fd.type with
     |some (_+1)=>(cO x).map fun a=> .fieldA fd.offset a
     |_=>none
    |none=>none
   |_=>none
 | .field t x f=>match P.underlying t with
   |some (.struct fields)=>match fields[f]? with
    |some fd=>(cellsT P fd.type).bind fun n=>(cO x).map fun a=> .field fd.offset n a
    |none=>none
   |_=>none
 | .indexAddr t x i=>(slT P t).bind fun e=>(szT P e).bind fun sz=>(cO x).bind fun a=>(cO i).map fun b=> .indexA sz a b
 | .index t x i=>match P.underlying t with
   |some .string=>(cO x).bind fun a=>(cO i).map fun b=> .sidx a b
   |_=>none
 | .slice t x lo hi mx=>match P.underlying t with
   |some .string=>match mx with
    |none=>(cO x).bind fun a=>(optO lo).bind fun l=>(optO hi).map fun h=> .sslice a l h
    |some _=>none
   |some (.slice e)=>match mx,hi with
    |some _,none=>none
    |_,_=>(szT P e).bind fun sz=>(cO x).bind fun a=>(optO lo).bind fun l=>(optO hi).bind fun h=>(optO mx).map fun m=> .slice sz a l h m
   |_=>none
 | .makeFunc (.func f) first captured=>if first.isEmpty then(cOs captured.toList).map fun l=> .fn f l else none
 | .extract x i=>(cO x).map fun a=> .ext a i
 | .binOp op t x y _=>cBin P op t x y
 | .unOp .not _ x=>(cO x).map .not
 | .unOp .neg _ x=>(cO x).map .neg
 | .convert s d x=>match P.underlying s,P.underlying d with
   |some (.int _),some (.int k)=>(cO x).map fun a=> .conv k a
   |some (.int _),some .string=>(cO x).map .istr
   |_,_=>none
 | .call {callee:= .builtin .len,args,argTypes}=>match args.toList,argTypes.toList with
   |[x],[t]=>match P.underlying t with
    |some (.slice _)=>(cO x).map .len
    |some .string=>(cO x).map .slen
    |some (.map _ _)=>(cO x).map .mlen
    |_=>none
   |_,_=>none
 | .call {callee:= .builtin .delete,args,argTypes}=>match args.toList,argTypes.toList with
   |[m,k],t::_=>match P.underlying t with
    |some (.map kt _)=>(kdT P kt).bind fun kd=>(cO m).bind fun a=>(cO k).map fun b=> .mdel kd a b
    |_=>none
   |_,_=>none
 | .makeMap _ none=>some .mkmap
 | .range t x=>match P.underlying t with
   |some (.map _ _)=>(cO x).map (.opq 0)
   |_=>none
 | .next x false=>(cO x).map (.opq 1)
 | .entry x=>(cO x).map (.opq 2)
 | .lookup t m k ok=>match P.underlying t with
   |some (.map kt et)=>(kdT P kt).bind fun kd=>((P.info? et).bind (·.zero)).bind fun z=>(cVal z).bind fun zc=>(cO m).bind fun a=>(cO k).map fun b=> .mget kd ok zc a b
   |_=>none
 | .mapUpdate t m k v=>match P.underlying t with
   |some (.map kt _)=>(kdT P kt).bind fun kd=>(cO m).bind fun a=>(cO k).bind fun b=>(cO v).map fun c=> .mset kd a b c
   |_=>none
 | .call {callee:= .builtin .cap,args,argTypes}=>match args.toList,argTypes.toList with
   |[x],[t]=>match P.underlying t with
    |some (.slice _)=>(cO x).map .cap
    |_=>none
   |_,_=>none
 | .call {callee:= .builtin .max,args,..}=>match args.toList with
   |[x,y]=>(cO x).bind fun a=>(cO y).map fun b=> .max a b
   |_=>none
 | .call {callee:= .builtin .min,args,..}=>match args.toList with
   |[x,y]=>(cO x).bind fun a=>(cO y).map fun b=> .min a b
   |x::y::z::r=>(cO x).bind fun a=>(cOs (y::z::r)).map fun l=> .mins a l
   |_=>none
 |_=>none
def OpRun(P:Program)(o:Oper)(a:Act)(φ:Phi)(F:Nat→Prop)(s:St)(w:World)(K:Out→Prop):Prop:=
 ∃v w',((execOp a.eval o).run P w= .ok (.value v) w'∨((execOp a.eval o).run P w= .ok .skip w'∧v=undef))∧OpRes φ F s w K v w'
section
variable {P:Program} {o:Oper} {a:Act} {φ:Phi} {F:Nat→Prop} {s:St} {w:World} {K:Out→Prop} {n:Nat}
theorem OpRun.pure_(h:SRel n φ F s a w){v:Value}(hr:(execOp a.eval o).run P w= .ok (.value v) w){av:AV}(hK:K ⟨some av,[]⟩)
 (hv:AVRep φ F (hp s.heap) w av v):OpRun P o a φ F s w K:=⟨v,w,.inl hr,OpRes.still hK h.rel hv⟩
theorem exec_v{ρ:Operand→Value}{x:Sem Value}{v:Value}{w':World}(ho:execOp ρ o=(do pure (.value (←x))))(hx:x.run P w= .ok v w'):
 (execOp ρ o).run P w= .ok (.value v) w':=by
 rw[ho,run_bind,hx];rfl
theorem exec_u{ρ:Operand→Value}{x:Sem Unit}{w':World}(ho:execOp ρ o=(do x;pure .skip))(hx:x.run P w= .ok () w'):
 (execOp ρ o).run P w= .ok .skip w':=by
 rw[ho,run_bind,hx];rfl
theorem snd_mv(h:SRel n φ F s a w){x:Operand}(ho:o.op= .move x∨o.op= .assign x){y:O}(hc:cO x=some y)(hk:op0 (.mv y) s K):OpRun P o a φ F s w K:=by
 simp only[op0]at hk
 split at hk
 ·rename_i v hv
  refine OpRun.pure_ (v:=a.eval x) h ?_ hk (cO_ev h hc hv)
  rcases ho with ho|ho<;>(simp only[execOp,ho];rfl)
 ·exact hk.elim
theorem snd_pick(h:SRel n φ F s a w){c x y:Operand}(ho:o.op= .pick c x y){c' x' y':O}(hc:cO c=some c')(hx:cO x=some x')(hy:cO y=some y')
 (hk:op0 (.pick c' x' y') s K):OpRun P o a φ F s w K:=by
 simp only[op0]at hk
 split at hk
 ·rename_i t ht
  have e:=evV_rep h hc ht
  cases t with
  |true=>
   have hk:=hk.1 rfl
   split at hk
   ·rename_i v hv
    exact OpRun.pure_ (v:=a.eval x) h (by simp only[execOp,ho,e];rfl) hk (cO_ev h hx hv)
   ·exact hk.elim
  |false=>
   have hk:=hk.2 rfl
   split at hk
   ·rename_i v hv
    exact OpRun.pure_ (v:=a.eval y) h (by simp only[execOp,ho,e];rfl) hk (cO_ev h hy hv)
   ·exact hk.elim
 ·exact hk.elim
theorem A1Rep.cells{φ F G w x v}(h:A1Rep φ F G w x v):CsRep φ F G w x.cells v.cells.toList:=by
 cases x with
 |c x=>
  have hi:=CRep.isCell h
  cases v<;>first|(simp[isCell]at hi;done)|exact .cons h .nil
 |agg cs=>obtain⟨vs,rfl,h⟩:=h;exact h
theorem CsRep.isCell{φ F G w cs vs}(h:CsRep φ F G w cs vs):vs.all Fw.isCell=true:=by
 induction h with
 |nil=>rfl
 |cons x _ ih=>simp[CRep.isCell x,ih]
theorem hp_len(l:List (Option Blk)):hp l l.length=none:=by simp[hp]
theorem heap_push(w:World)(o:Obj)(b:Nat)(hb:b<w.heap.size):(w.heap.push o)[b]? =w.heap[b]? :=by
 rw[Array.getElem?_push];split
 ·omega
 ·rfl
theorem heap_push_self(w:World)(o:Obj):(w.heap.push o)[w.heap.size]? =some o:=by simp
theorem lay{cells:List C}{vs:List Value}(T:TypeId)(hr:Rel φ F (hp s.heap) w)(hc:CsRep φ F (hp s.heap) w cells vs)
 (hK:K ⟨some (.one (.c (.pt s.heap.length 0))),[(s.heap.length,.box cells)]⟩):
 OpRes φ F s w K (.pointer (some ⟨w.heap.size,0,none⟩)) {w with heap:=w.heap.push (.cells vs.toArray T (0,0))}:=by
 have hnone:φ s.heap.length=none:=by
  cases hφ:φ s.heap.length with
  |none=>rfl
  |some x=>have:=hr.dom _ _ hφ;simp[hp_len]at this
 refine OpRes.change s.heap.length (some (w.heap.size,0)) (.box cells) hK hr (by simp) (Io.push rfl rfl rfl) ?_ ?_ ?_ ?_ ?_
 ·exact fun b hb _=>heap_push _ _ _ hb
 ·intro b o hx;cases hx;exact .inr (Nat.le_refl _)
 ·rw[hp_len];trivial
 ·intro stp
  exact⟨w.heap.size,vs.toArray,T,upd_same _ _ _,heap_push_self _ _,by simpa using hc.mono stp⟩
 ·intro stp av hav
  cases hav
  exact⟨cells,w.heap.size,0,upd_same _ _ _,upd_same _ _ _,rfl⟩
theorem snd_box(h:SRel n φ F s a w){t:TypeId}{x:Operand}(ho:o.op= .box t x){y:O}(hc:cO x=some y)(hk:op0 (.box y) s K):OpRun P o a φ F s w K:=by
 simp only[op0]at hk
 split at hk
 ·rename_i v hv
  have hr:=A1Rep.cells (cO_ev h hc hv)
  refine⟨_,_,.inl ?_,lay t h.rel hr hk⟩
  simp only[execOp,ho,Instr.box,newVar,newRow,run_bind,run_newObj,run_pure,Array.toArray_toList]
 ·exact hk.elim
theorem snd_zbox(h:SRel n φ F s a w){t:TypeId}(ho:o.op= .alloc t){z:Value}{cs:List C}(hz:(P.info? t).bind (·.zero)=some z)(hc:cCells z=some cs)
 (hk:op0 (.zbox cs) s K):OpRun P o a φ F s w K:=by
 simp only[op0]at hk
 simp only[cCells,Option.map_eq_some_iff]at hc
 obtain⟨x,hx,rfl⟩:=hc
 have hr:=A1Rep.cells (cVal_rep hx φ F (hp s.heap) w)
 refine⟨_,_,.inl ?_,lay t h.rel hr hk⟩
 simp only[execOp,ho,Instr.alloc,run_bind,run_zeroValue hz,newVar,newRow,run_newObj,run_pure,Array.toArray_toList]
end
end Go.Fw
namespace Go.Fw
theorem splice_length{α:Type}(cs:List α)(off:Nat)(new:List α)(h:off+new.length≤cs.length):(splice cs off new).length=cs.length:=by
 simp only[splice,List.length_append,List.length_take,List.length_drop];omega
theorem foldl_set_list{α:Type}(off:Nat):∀(vs:List α) (k:Nat) (cells:List α),off+k+vs.length≤cells.length→
 (vs.zipIdx k).foldl (fun cs x=>cs.set (off+x.2) x.1) cells=splice cells (off+k) vs
 |[],k,cells,h=>by simp[splice]
 |v::vs,k,cells,h=>by
  simp only[List.length_cons]at h
  simp only[List.zipIdx_cons,List.foldl_cons]
  rw[foldl_set_list off vs (k+1) (cells.set (off+k) v) (by simp;omega)]
  unfold splice
  rw[List.set_eq_take_append_cons_drop,if_pos (by omega),List.take_append,List.drop_append]
  simp only[List.length_take,List.length_cons]
  have e1:min (off+k) cells.length=off+k:=by omega
  rw[e1]
  have e2:off+(k+1)-(off+k)=1:=by omega
  have e3:off+(k+1)+vs.length-(off+k)=vs.length+1:=by omega
  rw[e2,e3,List.take_of_length_le (l:=List.take (off+k) cells) (by simp;omega),List.drop_of_length_le (l:=List.take (off+k) cells) (by simp;omega)]
  simp only[List.take_succ_cons,List.take_zero,List.drop_succ_cons,List.drop_drop,List.nil_append,List.append_assoc,List.cons_append]
  congr 4
  omega
theorem foldl_set_array{α:Type}(off:Nat):∀(l:List (α×Nat)) (cells:Array α),
 (l.foldl (fun cs x=>cs.setIfInBounds (off+x.2) x.1) cells).toList=l.foldl (fun cs x=>cs.set (off+x.2) x.1) cells.toList
 |[],cells=>rfl
 |x::l,cells=>by simp only[List.foldl_cons];rw[foldl_set_array off l];simp
theorem fill_step(off:Nat)(v:Array Value)(cells:Array Value)(h:off+v.size≤cells.size):
 (v.zipIdx.foldl (fun cs x=>cs.setIfInBounds (off+x.2) x.1) cells)=(splice cells.toList off v.toList).toArray:=by
 apply Array.ext'
 rw[←Array.foldl_toList,foldl_set_array,Array.toList_zipIdx]
 have:=foldl_set_list off v.toList 0 cells.toList (by simpa using h)
 simpa using this
section
variable {P:Program} {o:Oper} {a:Act} {φ:Phi} {F:Nat→Prop} {s:St} {w:World} {K:Out→Prop} {n:Nat}
theorem CsRep.splice{G:Heap}{cs:List C}{vs:List Value}{ds:List C}{us:List Value}(h:CsRep φ F G w cs vs)(h':CsRep φ F G w ds us)(off:Nat):
 CsRep φ F G w (Fw.splice cs off ds) (Fw.splice vs off us):=by
 have hl:=All2.length h'
 unfold Fw.splice
 rw[hl]
 exact((h.take _).append h').append (h.drop _)
theorem cParts_fill{ρ:Operand→Value}(h:SRel n φ F s a w)(places:List (Nat×Nat)):∀(parts:List (Nat×Operand)) (ps:List (Nat×Nat×O)) (cs:List C) (vs:List Value) (L:List C→Prop),
 cParts places parts=some ps→CsRep φ F (hp s.heap) w cs vs→bld s cs ps L→(∀x,ρ x=a.eval x)→
 ∃cs' vs',L cs'∧CsRep φ F (hp s.heap) w cs' vs'∧Instr.fill (places.toArray[·]?) vs.toArray (parts.map fun x=>(x.1,ρ x.2))=some vs'.toArray
 |[],ps,cs,vs,L,hp',hc,hb,hρ=>by
  cases hp'
  exact⟨cs,vs,hb,hc,by simp[Instr.fill]⟩
 |(i,x)::r,ps,cs,vs,L,hp',hc,hb,hρ=>by
  simp only[cParts,Option.bind_eq_some_iff,Option.map_eq_some_iff]at hp'
  obtain⟨p,hpl,y,hy,ps',hps',rfl⟩:=hp'
  simp only[bld]at hb
  split at hb
  ·rename_i av hav
   obtain⟨hl,hle,hb⟩:=hb
   have hA:=A1Rep.cells (cO_ev h hy hav)
   have hl1:=All2.length hA
   have hl2:=All2.length hc
   obtain⟨cs',vs',hL,hc',hf⟩:=cParts_fill (ρ:=ρ) h places r ps' _ _ L hps' (hc.splice hA p.1) hb hρ
   refine⟨cs',vs',hL,hc',?_⟩
   simp only[List.map_cons,Instr.fill,hρ]
   have hpl':places.toArray[i]? =some p:=by simpa using hpl
   rw[hpl']
   have e1:(a.eval x).cells.size=p.2:=by
    have:(a.eval x).cells.size=(a.eval x).cells.toList.length:=by simp
    rw[this,←hl1,hl]
   simp only[]
   rw[if_neg (by
    rw[e1];simp only[ne_eq,not_true_eq_false,decide_false,Bool.false_or,decide_eq_true_eq,List.size_toArray];omega)]
   have:=fill_step p.1 (a.eval x).cells vs.toArray (by rw[e1];simp;omega)
   simp only at this
   rw[this]
   simp only[hρ]at hf
   exact hf
  ·exact hb.elim
theorem snd_build(h:SRel n φ F s a w){t:TypeId}{parts:Array (Nat×Operand)}(ho:o.op= .build t parts){it:TypeInfo}{fields:Array Field}{z:Value}{places:List (Nat×Nat)}
 (hi:P.info? t=some it) (hu:P.underlying t=some (.struct fields)) (hz:it.zero=some z)
 (hpl:fields.toList.mapM (fun f=>(P.info? f.type).map fun i=>(f.offset,i.size))=some places) {cs:List C} (hcs:cCells z=some cs)
 {ps:List (Nat×Nat×O)} (hps:cParts places parts.toList=some ps) (hk:op0 (.build cs ps) s K):OpRun P o a φ F s w K:=by
 simp only[op0]at hk
 simp only[cCells,Option.map_eq_some_iff]at hcs
 obtain⟨x,hx,rfl⟩:=hcs
 have hr:=A1Rep.cells (cVal_rep hx φ F (hp s.heap) w)
 obtain⟨cs',vs',hL,hc',hf⟩:=cParts_fill (ρ:=a.eval) h places parts.toList ps _ _ _ hps hr hk (fun _=>rfl)
 refine OpRun.pure_ (v:= .agg vs'.toArray) h ?_ hL ⟨vs',rfl,hc'⟩
 refine exec_v (x:=Instr.build t (parts.map fun(i,x)=>(i,a.eval x))) (by simp only[execOp,ho]) ?_
 refine Go.run_build w t _ _ ?_
 simp only[Program.built,hi,hu,hz,hpl]
 simpa using hf
theorem fill_mono{f g:Nat→Option (Nat×Nat)}(h:∀i p,g i=some p→f i=some p):∀(parts:List (Nat×Value)) (cells r:Array Value),Instr.fill g cells parts=some r→Instr.fill f cells parts=some r
 |[],cells,r,hr=>hr
 |(i,v)::rest,cells,r,hr=>by
  simp only[Instr.fill]at hr⊢
  cases hg:g i with
  |none=>rw[hg]at hr;cases hr
  |some p=>
   rw[hg]at hr
   rw[h i p hg]
   obtain⟨off,size⟩:=p
   simp only at hr⊢
   split at hr
   ·cases hr
   ·rename_i hc
    rw[if_neg hc]
    exact fill_mono h rest _ _ hr
theorem snd_buildA(h:SRel n φ F s a w){t:TypeId}{parts:Array (Nat×Operand)}(ho:o.op= .build t parts){it ie:TypeInfo}{m:Nat}{e:TypeId}{z:Value}
 (hi:P.info? t=some it) (hu:P.underlying t=some (.array m e)) (hz:it.zero=some z)
 (hie:P.info? e=some ie) {cs:List C} (hcs:cCells z=some cs)
 {ps:List (Nat×Nat×O)} (hps:cParts (arrPl m ie.size) parts.toList=some ps) (hk:op0 (.build cs ps) s K):OpRun P o a φ F s w K:=by
 simp only[op0]at hk
 simp only[cCells,Option.map_eq_some_iff]at hcs
 obtain⟨x,hx,rfl⟩:=hcs
 have hr:=A1Rep.cells (cVal_rep hx φ F (hp s.heap) w)
 obtain⟨cs',vs',hL,hc',hf⟩:=cParts_fill (ρ:=a.eval) h (arrPl m ie.size) parts.toList ps _ _ _ hps hr hk (fun _=>rfl)
 refine OpRun.pure_ (v:= .agg vs'.toArray) h ?_ hL ⟨vs',rfl,hc'⟩
 refine exec_v (x:=Instr.build t (parts.map fun(i,x)=>(i,a.eval x))) (by simp only[execOp,ho]) ?_
 refine Go.run_build w t _ _ ?_
 simp only[Program.built,hi,hu,hz,hie]
 refine fill_mono (fun i p hp'=>?_) _ _ _ (by simpa using hf)
 simp only[arrPl,List.getElem?_toArray,List.getElem?_map,Option.map_eq_some_iff]at hp'
 obtain⟨j,hj,rfl⟩:=hp'
 rw[List.getElem?_range]at hj
 ·cases hj;rfl
 ·have:=(List.getElem?_eq_some_iff.1 hj).1
  simpa using this
theorem cellsT_some{t:TypeId}{m:Option Nat}(h:cellsT P t=some m):
 (m=none∧aggT P t=some false∧(P.info? t).map (·.size)=some 1)∨(∃k,m=some k∧aggT P t=some true∧(P.info? t).map (·.size)=some k):=by
 unfold cellsT at h
 split at h
 ·cases h;rename_i h1 h2;exact .inr ⟨_,rfl,h1,h2⟩
 ·cases h;rename_i h1 h2;exact .inl ⟨rfl,h1,h2⟩
 ·cases h
theorem run_loadVar{t:TypeId}{m:Option Nat}(ht:cellsT P t=some m){b off:Nat}{cs:List C}{vs:List Value}{G:Heap}(hc:CsRep φ F G w cs vs)
 (hcell:∀(j:Nat) v,vs[j]? =some v→w.cell? ⟨b,off+j,none⟩=some v) {L:Out→Prop} (hl:ldC m cs L):
 ∃av v,(loadVar t ⟨b,off,none⟩).run P w= .ok v w∧L ⟨some av,[]⟩∧AVRep φ F G w av v:=by
 rcases cellsT_some ht with⟨rfl,ha,hs⟩|⟨k,rfl,ha,hs⟩
 ·simp only[ldC]at hl
  split at hl
  ·rename_i c cs
   cases hc with
   |cons hx hr=>
    rename_i v vs
    refine⟨_,v,?_,hl,hx⟩
    simp only[loadVar,run_bind,run_isAgg ha]
    have:=hcell 0 v rfl
    rw[Nat.add_zero]at this
    simpa using run_load this
  ·exact hl.elim
 ·obtain⟨hle,hl⟩:=hl
  have hlen:=All2.length hc
  refine⟨_,.agg (vs.take k).toArray,?_,hl,⟨vs.take k,rfl,hc.take k⟩⟩
  simp only[loadVar,run_bind,run_isAgg ha,if_true,run_sizeOf hs]
  have:=run_loadCells (P:=P) (w:=w) (b:=b) (o:=off) (vs.take k) (fun j v hj=>hcell j v (by
   rw[List.getElem?_take]at hj;split at hj
   ·exact hj
   ·cases hj))
  rw[List.length_take,Nat.min_eq_left (by omega)]at this
  rw[this];rfl
theorem dcells(G:Heap){cells:List D}{vs:List Value}(h:All2 (DRep w F) cells vs):CsRep φ F G w (cells.map .d) vs:=by
 induction h with
 |nil=>exact .nil
 |cons x _ ih=>exact .cons x ih
theorem gather{cells:List D}{g:Nat→Option Value}(h:∀(j:Nat) d,cells[j]? =some d→∃u,g j=some u∧DRep w F d u):
 ∃vs,All2 (DRep w F) cells vs∧∀(j:Nat) v,vs[j]? =some v→g j=some v:=by
 induction cells generalizing g with
 |nil=>exact⟨[],.nil,fun j v hj=>by simp at hj⟩
 |cons d cells ih=>
  obtain⟨u,hu,hd⟩:=h 0 d rfl
  obtain⟨vs,h1,h2⟩:=ih (g:=fun j=>g (j+1)) (fun j d hj=>h (j+1) d (by simpa using hj))
  refine⟨u::vs,.cons hd h1,fun j v hj=>?_⟩
  cases j with
  |zero=>simp at hj;subst hj;exact hu
  |succ j=>exact h2 j v (by simpa using hj)
theorem snd_load(h:SRel n φ F s a w){t:TypeId}{x:Operand}(ho:o.op= .load t x){m:Option Nat}{y:O}(ht:cellsT P t=some m)(hc:cO x=some y)
 (hk:op0 (.load m y) s K):OpRun P o a φ F s w K:=by
 suffices hs:∃b off cs vs,a.eval x= .pointer (some ⟨b,off,none⟩)∧CsRep φ F (hp s.heap) w cs vs∧
  (∀(j:Nat) v,vs[j]? =some v→w.cell? ⟨b,off+j,none⟩=some v)∧ldC m cs K by
  obtain⟨b,off,cs,vs,he,hcs,hcell,hl⟩:=hs
  obtain⟨av,v,hr,hL,hv⟩:=run_loadVar (P:=P) ht hcs hcell hl
  refine OpRun.pure_ (v:=v) h ?_ hL hv
  refine exec_v (x:=Instr.loadAt t (a.eval x)) (by simp only[execOp,ho]) ?_
  simp only[Instr.loadAt,he,Instr.sureAddr,run_bind,run_pure]
  exact hr
 simp only[op0]at hk
 split at hk
 ·rename_i id off hy
  have hp':=evC_rep h hc hy
  obtain⟨cells,b,o',hG,hφ,he⟩:=hp'
  rw[hG]at hk
  simp only[]at hk
  obtain⟨b',cs,T,h1,h2,h3⟩:=h.rel.blk _ _ hG
  rw[hφ]at h1;simp only[Option.some.injEq,Prod.mk.injEq]at h1
  obtain⟨rfl,rfl⟩:=h1
  refine⟨b,0+off,cells.drop off,cs.toList.drop off,he,h3.drop off,fun j v hj=>?_,hk⟩
  rw[cell?_of_heap h2]
  rw[List.getElem?_drop]at hj
  simpa using hj
 ·rename_i id ep row off hy
  have hp':=evC_rep h hc hy
  obtain⟨e,sz,rows,hG,hle,A,he,hA⟩:=hp'
  rw[hG]at hk
  simp only[]at hk
  obtain⟨rfl,r,hrow,hk⟩:=hk
  obtain⟨b,o',hφ,hlt,rfl⟩:=hA rfl
  rcases h.rel.blk _ _ hG with⟨h1,rfl⟩|⟨b',o2,cs,T,h1,h2,h3,h4,h5⟩
  ·simp at hlt
  rw[hφ]at h1;simp only[Option.some.injEq,Prod.mk.injEq]at h1
  obtain⟨rfl,rfl⟩:=h1
  obtain⟨vs,hvs,hg⟩:=gather (w:=w) (F:=F) (cells:=r.drop off) (g:=fun j=>w.cell? ⟨b,o'+row*sz+off+j,none⟩) (fun j d hj=>by
   rw[List.getElem?_drop]at hj
   obtain⟨u,hu,hd⟩:=h5 row r hrow (off+j) d hj
   exact⟨u,by rw[cell?_of_heap h2,show o'+row*sz+off+j=o'+row*sz+(off+j)by omega];exact hu,hd⟩)
  exact⟨b,_,_,vs,he,dcells _ hvs,hg,hk⟩
 ·rename_i cells hy
  have hp':=evC_rep h hc hy
  obtain⟨b,o',hF,he,hk'⟩:=hp'
  obtain⟨vs,hvs,hg⟩:=gather (w:=w) (F:=F) (cells:=cells) (g:=fun j=>w.cell? ⟨b,o'+j,none⟩) hk'
  exact⟨b,_,_,vs,he,dcells _ hvs,hg,hk⟩
 ·exact hk.elim
end
end Go.Fw
namespace Go.Fw
section
variable {P:Program} {o:Oper} {a:Act} {φ:Phi} {F:Nat→Prop} {s:St} {w:World} {K:Out→Prop} {n:Nat}
theorem evs_sound(h:SRel n φ F s a w):∀{xs:List Operand} {os:List O} {L:List A1→Prop},cOs xs=some os→evs s os L→
 ∃as,L as∧All2 (A1Rep φ F (hp s.heap) w) as (xs.map a.eval)
 |[],os,L,hc,hl=>by cases hc;exact⟨[],hl,.nil⟩
 |x::r,os,L,hc,hl=>by
  simp only[cOs,Option.bind_eq_some_iff,Option.map_eq_some_iff]at hc
  obtain⟨y,hy,ys,hys,rfl⟩:=hc
  simp only[evs]at hl
  split at hl
  ·rename_i v hv
   obtain⟨as,hL,hA⟩:=evs_sound h hys hl
   exact⟨v::as,hL,.cons (cO_ev h hy hv) hA⟩
  ·exact hl.elim
theorem frzRows_sound{sz:Nat}:∀{as:List A1} {wr:List (Nat×Blk)} {L:List (List D)→List (Nat×Blk)→Prop},frzRows s.heap sz wr as L→
 ∀{φ F vs},Rel φ F (hp (wrs s.heap wr)) w→All2 (A1Rep φ F (hp (wrs s.heap wr)) w) as vs→
 ∃rows wr' φ' F',L rows wr'∧Rel φ' F' (hp (wrs s.heap wr')) w∧Stp φ F (hp (wrs s.heap wr)) w φ' F' (hp (wrs s.heap wr')) w∧Fr φ F w φ' F' w∧
  rows.length=vs.length∧(∀r∈rows,r.length=sz)∧All2 (fun r v=>v.cells.size=sz∧v.cells.toList.all isCell=true∧All2 (DRep w F') r v.cells.toList) rows vs∧
  ∀i,hp (wrs s.heap wr) i=none→hp (wrs s.heap wr') i=none
 |[],wr,L,hk,φ,F,vs,hr,hc=>by
  cases hc
  exact⟨[],wr,φ,F,hk,hr,Stp.refl _ _ _ _,Fr.refl _ _ _,rfl,by simp,.nil,fun _ h=>h⟩
 |x::as,wr,L,hk,φ,F,vs,hr,hc=>by
  cases hc with
  |cons hx hc=>
   obtain⟨hl,hk⟩:=hk
   have hcells:=A1Rep.cells hx
   obtain⟨ds,wr1,φ1,F1,hk1,r1,s1,f1,d1,n1⟩:=frzs_sound hk hr hcells
   obtain⟨rows,wr',φ',F',hK,h1,h2,h3,h4,h5,h6,n2⟩:=frzRows_sound hk1 r1 (hc.imp fun _ _=>A1Rep.mono s1)
   have e:=All2.length hcells
   have e':=All2.length d1
   refine⟨ds::rows,wr',φ',F',hK,h1,s1.trans h2,f1.trans h3,by simp[h4],?_,.cons ⟨?_,CsRep.isCell hcells,d1.imp fun _ _ hd=>hd.mono h2.frz⟩ h6,fun i hi=>n2 i (n1 i hi)⟩
   ·intro r hr
    rcases List.mem_cons.1 hr with rfl|hr
    ·rw[e',←e,hl]
    ·exact h5 r hr
   ·have:∀v:Value,v.cells.size=v.cells.toList.length:=fun v=>by simp
    rw[this,←e,hl]
theorem fill_rows{sz:Nat}:∀(vs:List Value) (k:Nat) (cells:List Value),(∀v∈vs,v.cells.size=sz)→(k+vs.length)*sz≤cells.length→
 Instr.fill (fun i=>some (i*sz,sz)) cells.toArray ((List.range' k vs.length).zip vs)=some (splice cells (k*sz) (vs.flatMap fun v=>v.cells.toList)).toArray:=by
 intro vs
 induction vs with
 |nil=>intro k cells _ h;simp[Instr.fill,splice]
 |cons v vs ih=>
  intro k cells hv h
  simp only[List.length_cons,List.range'_succ,List.zip_cons_cons,Instr.fill]
  have e1:=hv v (by simp)
  have hle:k*sz+sz+vs.length*sz≤cells.length:=by
   simp only[List.length_cons]at h
   have:(k+(vs.length+1))*sz=k*sz+sz+vs.length*sz:=by rw[Nat.add_mul,Nat.add_mul];omega
   omega
  rw[if_neg (by rw[e1];simp only[ne_eq,not_true_eq_false,decide_false,Bool.false_or,decide_eq_true_eq,List.size_toArray];omega)]
  have:=fill_step (k*sz) v.cells cells.toArray (by rw[e1];simp;omega)
  simp only at this
  rw[this]
  have hlen:v.cells.toList.length=sz:=by simpa using e1
  rw[ih (k+1) _ (fun u hu=>hv u (by simp[hu])) (by
   rw[splice_length _ _ _ (by rw[hlen];omega)]
   rw[Nat.add_mul,Nat.add_mul];omega)]
  congr 2
  simp only[List.flatMap_cons]
  unfold splice
  rw[List.take_append,List.drop_append]
  have e2:(List.take (k*sz) cells).length=k*sz:=by simp;omega
  simp only[List.length_append,e2,hlen]
  have e3:(k+1)*sz=k*sz+sz:=by rw[Nat.add_mul];omega
  rw[e3]
  rw[List.take_of_length_le (l:=List.take (k*sz) cells++v.cells.toList) (by simp only[List.length_append,e2,hlen];omega)]
  rw[show k*sz+sz-(k*sz+sz)=0 by omega]
  rw[List.drop_of_length_le (l:=List.take (k*sz) cells++v.cells.toList) (by simp only[List.length_append,e2,hlen];omega)]
  simp only[List.take_zero,List.append_nil,List.nil_append,List.drop_drop,List.append_assoc]
  congr 4
  omega
theorem flat_get{sz:Nat}:∀{rows:List (List D)} {vs:List Value} {F:Nat→Prop},All2 (fun r v=>v.cells.size=sz∧v.cells.toList.all isCell=true∧All2 (DRep w F) r v.cells.toList) rows vs→
 ∀(i:Nat) r,rows[i]? =some r→∀(j:Nat) d,r[j]? =some d→∃u,(vs.flatMap fun v=>v.cells.toList)[i*sz+j]? =some u∧DRep w F d u
 |[],[],F,_,i,r,hi,_,_,_=>by simp at hi
 |r0::rows,v0::vs,F,h,i,r,hi,j,d,hj=>by
  cases h with
  |cons hx hr=>
   obtain⟨e1,_,e2⟩:=hx
   have hl:v0.cells.toList.length=sz:=by simpa using e1
   cases i with
   |zero=>
    simp only[List.getElem?_cons_zero,Option.some.injEq]at hi
    subst hi
    obtain⟨u,hu,hd⟩:=All2.get e2 hj
    refine⟨u,?_,hd⟩
    simp only[List.flatMap_cons,Nat.zero_mul,Nat.zero_add]
    rw[List.getElem?_append_left]
    ·exact hu
    ·exact(List.getElem?_eq_some_iff.1 hu).1
   |succ i=>
    obtain⟨u,hu,hd⟩:=flat_get hr i r (by simpa using hi) j d hj
    refine⟨u,?_,hd⟩
    simp only[List.flatMap_cons]
    rw[List.getElem?_append_right (by rw[hl,Nat.add_mul];omega),hl]
    rw[show(i+1)*sz+j-sz=i*sz+j by rw[Nat.add_mul];omega]
    exact hu
theorem flat_len{sz:Nat}:∀{vs:List Value},(∀v∈vs,v.cells.size=sz)→(vs.flatMap fun v=>v.cells.toList).length=vs.length*sz
 |[],_=>by simp
 |v::vs,h=>by
  simp only[List.flatMap_cons,List.length_append,List.length_cons,flat_len (vs:=vs) (fun u hu=>h u (List.mem_cons_of_mem _ hu))]
  have:v.cells.toList.length=sz:=by simpa using h v (by simp)
  rw[this,Nat.add_mul];omega
theorem layArr{wr:List (Nat×Blk)}{φ':Phi}{F':Nat→Prop}{rows:List (List D)}{sz len cap:Nat}{copt:Option Nat}{cells:List Value}(T:TypeId)(hr':Rel φ' F' (hp (wrs s.heap wr)) w)
 (hs':Stp φ F (hp s.heap) w φ' F' (hp (wrs s.heap wr)) w) (hf':Fr φ F w φ' F' w) (hlen:hp (wrs s.heap wr) s.heap.length=none)
 (hrows:∀r∈rows,r.length=sz) (hcells:∀(i:Nat) r,rows[i]? =some r→∀(j:Nat) d,r[j]? =some d→∃u,cells[i*sz+j]? =some u∧DRep w F' d u)
 (hle:rows.length*sz≤cells.length) (hl:len≤cap) (hl2:copt=none→len≤rows.length) (hc:∀c,copt=some c→c=cap) (hcap:cap*sz≤cells.length)
 {w':World} (hw:w'.heap=w.heap.push (.cells cells.toArray T (0,0))) (hio:Io w w')
 (hK:K ⟨some (.one (.c (.own s.heap.length 0 0 len copt))),wr++[(s.heap.length,.arr 0 sz rows)]⟩):
 OpRes φ F s w K (.slice (some ⟨w.heap.size,0,none⟩) len cap) w':=by
 have hnone:φ' s.heap.length=none:=by
  cases hφ:φ' s.heap.length with
  |none=>rfl
  |some x=>have:=hr'.dom _ _ hφ;simp[hlen]at this
 have hblk:w'.heap[w.heap.size]? =some (.cells cells.toArray T (0,0)):=by rw[hw];simp
 obtain⟨h1,h2,h3⟩:=hr'.update s.heap.length (some (w.heap.size,0)) (.arr 0 sz rows) w' (by rw[hw];simp) hio
  (fun b hb _=>by rw[hw];exact heap_push _ _ _ hb) (fun b o hx=>by cases hx;exact .inr (Nat.le_refl _)) (by rw[hlen];trivial)
  (fun stp=> .inr ⟨w.heap.size,0,cells.toArray,T,upd_same _ _ _,hblk,by simpa using hle,hrows,fun i r hi j d hj=>by
    obtain⟨u,hu,hd⟩:=hcells i r hi j d hj
    exact⟨u,by simpa using hu,hd.mono stp.frz⟩⟩)
 have e:hp (wrs s.heap (wr++[(s.heap.length,Blk.arr 0 sz rows)]))=upd (hp (wrs s.heap wr)) s.heap.length (some (.arr 0 sz rows)):=by
  rw[wrs_append];exact hp_hset _ _ _
 refine⟨⟨_,_,F',hK,?_,by rw[e];exact h1,by rw[e];exact hs'.trans h2,hf'.trans h3⟩⟩
 intro av hav
 cases hav
 rw[e]
 refine⟨0,sz,rows,upd_same _ _ _,Nat.le_refl _,_,len,cap,rfl,fun _=>⟨rfl,hl,hc,fun hcn=>by simpa using hl2 hcn,.inr ⟨w.heap.size,0,cells.length,upd_same _ _ _,by simp,?_,by simpa using hcap⟩⟩⟩
 simpa using bsize_of_heap hblk
theorem zipRange_map{ρ:Operand→Value}:∀(l:List (Nat×Operand)) (k:Nat),inOrder k l=true→
 (l.map fun x=>(x.1,ρ x.2))=(List.range' k (l.map fun x=>ρ x.2).length).zip (l.map fun x=>ρ x.2)
 |[],k,_=>rfl
 |(i,x)::l,k,h=>by
  simp only[inOrder,Bool.and_eq_true,beq_iff_eq]at h
  obtain⟨rfl,h⟩:=h
  simp only[List.map_cons,List.length_cons,List.range'_succ,List.zip_cons_cons]
  rw[zipRange_map l _ h]
theorem snd_bslice(h:SRel n φ F s a w){t e:TypeId}{len sz:Nat}{parts:Array (Nat×Operand)}(ho:o.op= .buildSlice t len parts)(he:slT P t=some e)(hs:szT P e=some sz)
 {os:List O} (hos:cOs (parts.toList.map (·.2))=some os) (hin:inOrder 0 parts.toList=true) (hlen:parts.size=len) (hle:len*sz≤2^24) (hz:((P.info? e).bind (·.zero)).isSome=true)
 (hk:op0 (.bslice sz os) s K):OpRun P o a φ F s w K:=by
 simp only[op0]at hk
 obtain⟨as,hk,hA⟩:=evs_sound h hos hk
 obtain⟨rows,wr,φ',F',hK,h1,h2,h3,h4,h5,h6,h7⟩:=frzRows_sound hk h.rel hA
 have hu:P.underlying t=some (.slice e):=by
  unfold slT at he;split at he
  ·cases he;assumption
  ·cases he
 obtain⟨z,hz⟩:=Option.isSome_iff_exists.1 hz
 have hvs:∀v∈(parts.toList.map (·.2)).map a.eval,v.cells.size=sz:=by
  intro v hv
  obtain⟨i,hi⟩:=List.mem_iff_getElem?.1 hv
  have hl:=All2.length h6
  have:i<rows.length:=by rw[hl];exact(List.getElem?_eq_some_iff.1 hi).1
  obtain⟨u,hu,hd⟩:=All2.get h6 (List.getElem?_eq_getElem this)
  rw[hi]at hu;cases hu
  exact hd.1
 have hvl:((parts.toList.map (·.2)).map a.eval).length=len:=by simp[hlen]
 have hfl:=flat_len hvs
 rw[hvl]at hfl
 refine⟨_,_,.inl ?_,layArr (cells:=((parts.toList.map (·.2)).map a.eval).flatMap fun v=>v.cells.toList) (w':={w with heap:=w.heap.push (.cells (((parts.toList.map (·.2)).map a.eval).flatMap fun v=>v.cells.toList).toArray e (0,0))}) e h1 h2 h3 (h7 _ (hp_len _)) h5 ?_ ?_ (Nat.le_refl _) (fun _=>Nat.le_refl _) (fun c hc=>by cases hc) ?_ rfl (Io.push rfl rfl rfl) hK⟩
 ·refine exec_v (x:=Instr.buildSlice t len (parts.map fun(i,x)=>(i,a.eval x))) (by simp only[execOp,ho]) ?_
  simp only[Instr.buildSlice,run_bind,run_underlying hu,run_sizeOf hs]
  rw[if_neg (by omega)]
  have hfill:∀cells:Array Value,cells.size=len*sz→Instr.fill (fun i=>some (i*sz,sz)) cells (parts.map fun x=>(x.1,a.eval x.2)).toList=
   some (((parts.toList.map (·.2)).map a.eval).flatMap fun v=>v.cells.toList).toArray:=by
   intro cells hc
   have e0:(parts.map fun x=>(x.1,a.eval x.2)).toList=parts.toList.map fun x=>(x.1,a.eval x.2):=by simp
   have e1:=zipRange_map (ρ:=a.eval) parts.toList 0 hin
   have e2:(parts.toList.map fun x=>a.eval x.2)=(parts.toList.map (·.2)).map a.eval:=by simp
   rw[e0,e1,e2]
   have:=fill_rows ((parts.toList.map (·.2)).map a.eval) 0 cells.toList hvs (by rw[hvl];simp[hc])
   simp only[Array.toArray_toList]at this
   rw[this]
   congr 2
   unfold splice
   rw[hfl]
   simp[hc]
  by_cases h0:len*sz=0
  ·simp only[h0,if_true,run_bind,run_pure]
   rw[hfill _ (by simp[h0])]
   simp only[newRow,run_bind,run_newObj,run_pure,h4,List.length_map,Array.length_toList,hlen]
  ·simp only[h0,if_false,run_bind,run_zeroValue hz,run_pure]
   rw[hfill _ (by simp)]
   simp only[newRow,run_bind,run_newObj,run_pure,h4,List.length_map,Array.length_toList,hlen]
 ·exact fun i r hi j d hj=>flat_get h6 i r hi j d hj
 ·rw[hfl,h4];simp[hlen]
 ·rw[hfl,h4];simp[hlen]
end
end Go.Fw
namespace Go.Fw
section
variable {P:Program} {o:Oper} {a:Act} {φ:Phi} {F:Nat→Prop} {s:St} {w:World} {K:Out→Prop} {n:Nat}
theorem OneBlk.set{w w':World}{b:Nat}{cs:List Value}{T:TypeId}(h:OneBlk w w' b cs T){old:Array Value}{T0:TypeId}
 (hold:w.heap[b]? =some (.cells old T0 (0,0))) (hl:cs.length=old.size):bsize w' b=bsize w b:=by
 simp[bsize,h.blk,hold,hl]
theorem snd_store(h:SRel n φ F s a w){t:TypeId}{x y:Operand}(ho:o.op= .store t x y){m:Nat}{x' y':O}(ht:szT P t=some m)(hx:cO x=some x')(hy:cO y=some y')
 (hk:op0 (.store m x' y') s K):OpRun P o a φ F s w K:=by
 simp only[op0]at hk
 split at hk
 ·rename_i v hv
  obtain⟨hm,hpos,hk⟩:=hk
  have hcells:=A1Rep.cells (cO_ev h hy hv)
  have hlen:(a.eval y).cells.toList.length=m:=by rw[←All2.length hcells,hm]
  have hall:=CsRep.isCell hcells
  have hne:(a.eval y).cells.toList≠[]:=by intro he;rw[he]at hlen;simp at hlen;omega
  split at hk
  ·rename_i id off hx'
   obtain⟨cells0,b,o',hG,hφ,he⟩:=evC_rep h hx hx'
   rw[hG]at hk
   simp only[]at hk
   obtain⟨hle,hk⟩:=hk
   obtain⟨b',cs,T,h1,h2,h3⟩:=h.rel.blk _ _ hG
   rw[hφ]at h1;simp only[Option.some.injEq,Prod.mk.injEq]at h1
   obtain⟨rfl,rfl⟩:=h1
   have hl3:=All2.length h3
   obtain⟨w',hr,hone⟩:=run_storeCells (P:=P) (b:=b) (o:=0+off) (T:=T) (a.eval y).cells.toList 0 w cs.toList (by simpa using h2) (by rw[hlen];omega) hall hne
   have hbl:b<w.heap.size:=h.rel.lt hφ
   refine⟨undef,w',.inr ⟨?_,rfl⟩,?_⟩
   ·refine exec_u (x:=Instr.storeAt t (a.eval x) (a.eval y)) (by simp only[execOp,ho]) ?_
    simp only[Instr.storeAt,he,Instr.sureAddr,run_bind,run_pure,storeVar,run_sizeOf ht]
    rw[if_neg (by simp[←hlen])]
    exact hr
   ·have hu:upd φ id (some (b,0))=φ:=by funext j;by_cases hj:j=id<;>simp[upd,hj,hφ]
    refine OpRes.change id (some (b,0)) (.box (splice cells0 off v.cells)) hk h.rel (by rw[hone.size];exact Nat.le_refl _) hone.io ?_ ?_ ?_ ?_ ?_
    ·intro b2 _ hn;exact hone.rest b2 (fun he=>hn 0 (he▸hφ))
    ·intro b2 o2 hx2;cases hx2;exact .inl ⟨0,hφ⟩
    ·rw[hG];simp only[BStp];rw[hu]
    ·intro stp
     refine⟨b,_,T,upd_same _ _ _,hone.blk,?_⟩
     simp only[Nat.add_zero,Nat.zero_add]
     exact CsRep.splice (h3.mono stp) (hcells.mono stp) off
    ·intro _ av hav;cases hav
  ·rename_i id ep row off hx'
   obtain⟨e,sz,rows,hG,hle,A,he,hA⟩:=evC_rep h hx hx'
   obtain⟨ds,wr,φ',F',hK,r1,s1,f1,d1,n1⟩:=frzs_sound (h:=s.heap) (wr:=[]) hk h.rel hcells
   split at hK
   ·rename_i e2 sz2 rows2 hG2
    obtain⟨rfl,r,hrow,hle2,hK⟩:=hK
    have hb:=s1.blk id
    rw[show wrs s.heap []=s.heap from rfl,hG,hG2]at hb
    obtain⟨hb1,hb2⟩:=hb
    have hee:ep=e:=by omega
    subst hee
    obtain⟨rfl,_,hφ',_⟩:=hb2 rfl
    obtain⟨b,o',hφ,hlt,rfl⟩:=hA rfl
    rw[hφ]at hφ'
    rcases r1.blk _ _ hG2 with⟨q1,rfl⟩|⟨b',o2,cs,T,q1,q2,q3,q4,q5⟩
    ·simp at hrow
    rw[hφ']at q1;simp only[Option.some.injEq,Prod.mk.injEq]at q1
    obtain⟨rfl,rfl⟩:=q1
    have hbl:b<w.heap.size:=r1.lt hφ'
    have hrl:r.length=sz2:=q4 r (List.mem_of_getElem? hrow)
    have hrowlt:row<rows2.length:=(List.getElem?_eq_some_iff.1 hrow).1
    have hmul:row*sz2+sz2≤rows2.length*sz2:=by
     have:=Nat.mul_le_mul_right sz2 hrowlt
     rw[Nat.succ_mul]at this;exact this
    obtain⟨w',hr,hone⟩:=run_storeCells (P:=P) (b:=b) (o:=o'+row*sz2+off) (T:=T) (a.eval y).cells.toList 0 w cs.toList (by simpa using q2) (by rw[hlen];simp;omega) hall hne
    refine⟨undef,w',.inr ⟨?_,rfl⟩,?_⟩
    ·refine exec_u (x:=Instr.storeAt t (a.eval x) (a.eval y)) (by simp only[execOp,ho]) ?_
     simp only[Instr.storeAt,he,Instr.sureAddr,run_bind,run_pure,storeVar,run_sizeOf ht]
     rw[if_neg (by simp[←hlen])]
     exact hr
    ·have hu:upd φ' id (some (b,o'))=φ':=by funext j;by_cases hj:j=id<;>simp[upd,hj,hφ']
     have hdl:ds.length=m:=by rw[All2.length d1,hlen]
     obtain⟨g1,g2,g3⟩:=r1.update id (some (b,o')) (.arr ep sz2 (rows2.set row (splice r off ds))) w' (by rw[hone.size];exact Nat.le_refl _) hone.io
      (fun b2 _ hn=>hone.rest b2 (fun he=>hn o' (he▸hφ'))) (fun b2 o2 hx2=>by cases hx2;exact .inl ⟨o',hφ'⟩)
      (by
        rw[hG2,hu]
        refine⟨Nat.le_refl _,fun _=>⟨rfl,by simp,rfl,fun b2 o2 hb2=>?_⟩⟩
        rw[hφ']at hb2;cases hb2
        refine hone.set q2 ?_
        rw[splice_length _ _ _ (by rw[hlen];simp;omega)];simp)
      (fun stp=>by
        refine .inr ⟨b,o',_,T,upd_same _ _ _,hone.blk,?_,?_,?_⟩
        ·simp only[List.size_toArray,List.length_set]
         rw[splice_length _ _ _ (by rw[hlen];simp;omega)];simpa using q3
        ·intro r' hr'
         rcases List.mem_or_eq_of_mem_set hr' with hr'|rfl
         ·exact q4 r' hr'
         ·rw[splice_length _ _ _ (by rw[hdl];exact hle2)];exact hrl
        ·intro i r' hi j d hj
         have hst:=stp.frz
         rw[List.getElem?_set]at hi
         have hcl:(splice cs.toList (o'+row*sz2+off) (a.eval y).cells.toList).length=cs.size:=by
          rw[splice_length _ _ _ (by rw[hlen];simp;omega)];simp
         have hsp:∀(p:Nat),(splice cs.toList (o'+row*sz2+off+0) (a.eval y).cells.toList).toArray[p]? =
          if p<o'+row*sz2+off then cs[p]? else if p<o'+row*sz2+off+m then(a.eval y).cells.toList[p-(o'+row*sz2+off)]? else cs[p]? :=by
          intro p
          simp only[Nat.add_zero,List.getElem?_toArray,splice]
          rw[List.getElem?_append,List.getElem?_append]
          simp only[List.length_append,List.length_take,Array.length_toList,hlen]
          have:min (o'+row*sz2+off) cs.size=o'+row*sz2+off:=by omega
          rw[this]
          by_cases c1:p<o'+row*sz2+off
          ·rw[if_pos (by omega),if_pos c1,if_pos c1,List.getElem?_take,if_pos c1];simp
          ·by_cases c2:p<o'+row*sz2+off+m
           ·rw[if_pos c2,if_neg c1,if_neg c1,if_pos c2]
           ·rw[if_neg c2,if_neg c1,if_neg c2,List.getElem?_drop]
            simp only[Array.getElem?_toList]
            congr 1;omega
         by_cases hij:row=i
         ·subst hij
          simp only[if_true,hrowlt]at hi
          cases hi
          simp only[splice]at hj
          rw[List.getElem?_append,List.getElem?_append]at hj
          simp only[List.length_append,List.length_take,hdl]at hj
          have:min off r.length=off:=by omega
          rw[this]at hj
          rw[hsp]
          by_cases c1:j<off
          ·rw[if_pos (by omega),if_pos c1,List.getElem?_take,if_pos c1]at hj
           rw[if_pos (by omega)]
           obtain⟨u,hu,hd⟩:=q5 row r hrow j d hj
           exact⟨u,hu,hd.mono hst⟩
          ·by_cases c2:j<off+m
           ·rw[if_pos c2,if_neg c1]at hj
            rw[if_neg (by omega),if_pos (by omega)]
            obtain⟨u,hu,hd⟩:=All2.get d1 hj
            exact⟨u,by rw[show o'+row*sz2+j-(o'+row*sz2+off)=j-off by omega];exact hu,hd.mono hst⟩
           ·rw[if_neg c2,List.getElem?_drop]at hj
            rw[if_neg (by omega),if_neg (by omega)]
            obtain⟨u,hu,hd⟩:=q5 row r hrow _ d hj
            exact⟨u,by rw[show off+m+(j-(off+m))=j by omega]at hu;exact hu,hd.mono hst⟩
         ·rw[if_neg hij]at hi
          obtain⟨u,hu,hd⟩:=q5 i r' hi j d hj
          refine⟨u,?_,hd.mono hst⟩
          have hjl:j<sz2:=by
           rw[←q4 r' (List.mem_of_getElem? hi)];exact(List.getElem?_eq_some_iff.1 hj).1
          rw[hsp]
          rcases Nat.lt_or_gt_of_ne hij with hlt|hgt
          ·have:row*sz2+sz2≤i*sz2:=by have:=Nat.mul_le_mul_right sz2 hlt;rw[Nat.succ_mul]at this;exact this
           rw[if_neg (by omega),if_neg (by omega)];exact hu
          ·have:i*sz2+sz2≤row*sz2:=by have:=Nat.mul_le_mul_right sz2 hgt;rw[Nat.succ_mul]at this;exact this
           rw[if_pos (by omega)];exact hu)
     have e:hp (wrs s.heap (wr++[(id,Blk.arr ep sz2 (rows2.set row (splice r off ds)))]))=upd (hp (wrs s.heap wr)) id (some (Blk.arr ep sz2 (rows2.set row (splice r off ds)))):=by
      rw[wrs_append];exact hp_hset _ _ _
     exact⟨⟨_,_,F',hK,(fun av hav=>by cases hav),(by rw[e];exact g1),(by rw[e];exact s1.trans g2),f1.trans g3⟩⟩
   ·exact hK.elim
  ·exact hk.elim
 ·exact hk.elim
theorem snd_fieldA(h:SRel n φ F s a w){t:TypeId}{x:Operand}{f:Nat}(ho:o.op= .fieldAddr t x f){fields:Array Field}(hu:P.underlying t=some (.struct fields)){fd:Field}(hf:fields[f]? =some fd)
 {k:Nat} (hs:szT P fd.type=some (k+1)) {y:O} (hc:cO x=some y) (hk:op0 (.fieldA fd.offset y) s K):OpRun P o a φ F s w K:=by
 have key:∀b off,a.eval x= .pointer (some ⟨b,off,none⟩)→(execOp a.eval o).run P w= .ok (.value (.pointer (some ⟨b,off+fd.offset,none⟩))) w:=by
  intro b off he
  refine exec_v (x:=Instr.fieldAt t (a.eval x) f) (by simp only[execOp,ho]) ?_
  simp only[Instr.fieldAt,run_bind,run_underlying hu,hf,he,Instr.sureAddr,run_pure,fieldPlace,run_sizeOf hs,Nat.add_one_ne_zero,if_false,addr_add]
 simp only[op0]at hk
 split at hk
 ·rename_i id o' hy
  obtain⟨cells,b,o2,hG,hφ,he⟩:=evC_rep h hc hy
  exact OpRun.pure_ h (key _ _ he) hk ⟨cells,b,o2,hG,hφ,by rw[Nat.add_assoc]⟩
 ·rename_i id ep row o' hy
  obtain⟨e,sz,rows,hG,hle,A,he,hA⟩:=evC_rep h hc hy
  rw[hG]at hk
  simp only[]at hk
  obtain⟨rfl,hk⟩:=hk
  obtain⟨b,o2,hφ,hlt,rfl⟩:=hA rfl
  exact OpRun.pure_ h (key _ _ he) hk ⟨ep,sz,rows,hG,hle,_,rfl,fun _=>⟨b,o2,hφ,hlt,by rw[Nat.add_assoc]⟩⟩
 ·rename_i cells hy
  obtain⟨b,o',hF,he,hk'⟩:=evC_rep h hc hy
  refine OpRun.pure_ h (key _ _ he) hk ⟨b,o'+fd.offset,hF,rfl,fun j d hj=>?_⟩
  rw[List.getElem?_drop]at hj
  obtain⟨u,hu,hd⟩:=hk' _ d hj
  exact⟨u,by rw[Nat.add_assoc];exact hu,hd⟩
 ·exact hk.elim
theorem snd_nilCheck(h:SRel n φ F s a w){x:Operand}(ho:o.op= .nilCheck x){y:O}(hc:cO x=some y)(hk:op0 (.fieldA 0 y) s K):OpRun P o a φ F s w K:=by
 have key:∀b off,a.eval x= .pointer (some ⟨b,off,none⟩)→(execOp a.eval o).run P w= .ok (.value (.pointer (some ⟨b,off+0,none⟩))) w:=by
  intro b off he
  simp only[execOp,ho,he];rfl
 simp only[op0]at hk
 split at hk
 ·rename_i id o' hy
  obtain⟨cells,b,o2,hG,hφ,he⟩:=evC_rep h hc hy
  exact OpRun.pure_ h (key _ _ he) hk ⟨cells,b,o2,hG,hφ,by rw[Nat.add_assoc]⟩
 ·rename_i id ep row o' hy
  obtain⟨e,sz,rows,hG,hle,A,he,hA⟩:=evC_rep h hc hy
  rw[hG]at hk
  simp only[]at hk
  obtain⟨rfl,hk⟩:=hk
  obtain⟨b,o2,hφ,hlt,rfl⟩:=hA rfl
  exact OpRun.pure_ h (key _ _ he) hk ⟨ep,sz,rows,hG,hle,_,rfl,fun _=>⟨b,o2,hφ,hlt,by rw[Nat.add_assoc]⟩⟩
 ·rename_i cells hy
  obtain⟨b,o',hF,he,hk'⟩:=evC_rep h hc hy
  refine OpRun.pure_ h (key _ _ he) hk ⟨b,o'+0,hF,rfl,fun j d hj=>?_⟩
  rw[List.getElem?_drop]at hj
  obtain⟨u,hu,hd⟩:=hk' _ d hj
  exact⟨u,by rw[Nat.add_assoc];exact hu,hd⟩
 ·exact hk.elim
theorem snd_field(h:SRel n φ F s a w){t:TypeId}{x:Operand}{f:Nat}(ho:o.op= .field t x f){fields:Array Field}(hu:P.underlying t=some (.struct fields)){fd:Field}(hf:fields[f]? =some fd)
 {m:Option Nat} (hs:cellsT P fd.type=some m) {y:O} (hc:cO x=some y) (hk:op0 (.field fd.offset m y) s K):OpRun P o a φ F s w K:=by
 simp only[op0]at hk
 split at hk
 ·rename_i cs hy
  obtain⟨vs,he,hcs⟩:=cO_ev h hc hy
  suffices hh:∃av v,(part fd.type vs.toArray fd.offset).run P w= .ok v w∧K ⟨some av,[]⟩∧AVRep φ F (hp s.heap) w av v by
   obtain⟨av,v,hr,hK,hv⟩:=hh
   refine OpRun.pure_ h ?_ hK hv
   refine exec_v (x:=Instr.field t (a.eval x) f) (by simp only[execOp,ho]) ?_
   simp only[Instr.field,run_bind,run_underlying hu,hf,he,asAgg,run_pure]
   exact hr
  have hcs':=hcs.drop fd.offset
  rcases cellsT_some hs with⟨rfl,ha,hsz⟩|⟨k,rfl,ha,hsz⟩
  ·simp only[ldC]at hk
   generalize hcd:cs.drop fd.offset=cs' at hk hcs'
   cases cs' with
   |nil=>exact hk.elim
   |cons c cs'=>
    generalize hvd:vs.drop fd.offset=vs' at hcs'
    cases hcs' with
    |cons hx hr=>
     rename_i v vs''
     refine⟨_,v,?_,hk,hx⟩
     simp only[part,run_bind,run_isAgg ha,Bool.false_eq_true,if_false]
     have:vs.toArray[fd.offset]? =some v:=by
      have:(vs.drop fd.offset)[0]? =some v:=by rw[hvd];rfl
      rw[List.getElem?_drop]at this
      simpa using this
     rw[this];rfl
  ·obtain⟨hle,hk⟩:=hk
   have hlen:=All2.length hcs'
   refine⟨_,.agg ((vs.drop fd.offset).take k).toArray,?_,hk,⟨_,rfl,hcs'.take k⟩⟩
   simp only[part,run_bind,run_isAgg ha,if_true,run_sizeOf hsz,run_pure]
   congr 2
   apply Array.ext'
   simp only[Array.toList_extract,List.extract_eq_take_drop]
   congr 1;omega
 ·exact hk.elim
theorem slT_under{t e:TypeId}(h:slT P t=some e):P.underlying t=some (.slice e):=by
 unfold slT at h;split at h
 ·cases h;assumption
 ·cases h
theorem idx_sound{v:Value}{L:Nat→Prop}(h:idx v L):∃(k:IntKind) (j:Nat),v= .int k j∧L j:=by
 cases v with
 |int k j=>
  obtain⟨h0,h⟩:=h
  exact⟨k,j.toNat,by rw[Int.toNat_of_nonneg h0],h⟩
 |_=>exact h.elim
theorem snd_indexA(h:SRel n φ F s a w){t e:TypeId}{x i:Operand}(ho:o.op= .indexAddr t x i)(he:slT P t=some e){sz:Nat}(hs:szT P e=some sz){x' i':O}(hx:cO x=some x')(hi:cO i=some i')
 (hk:op0 (.indexA sz x' i') s K):OpRun P o a φ F s w K:=by
 have hu:=slT_under he
 simp only[op0]at hk
 split at hk
 ·rename_i v hv
  have hv:=evV_rep h hi hv
  obtain⟨k,j,rfl,hk1⟩:=idx_sound hk
  clear hk
  have hk:=hk1
  clear hk1
  have key:∀b off len cap,a.eval x= .slice (some ⟨b,off,none⟩) len cap→j<len→(execOp a.eval o).run P w= .ok (.value (.pointer (some ⟨b,off+j*sz,none⟩))) w:=by
   intro b off len cap hx' hj
   refine exec_v (x:=Instr.indexAt t (a.eval x) (a.eval i)) (by simp only[execOp,ho]) ?_
   simp only[Instr.indexAt,hv,hx',run_bind,asIntOf,run_pure,run_underlying hu]
   rw[if_pos (by omega)]
   simp only[run_bind,run_sizeOf hs,run_pure,Int.toNat_natCast,addr_add]
  split at hk
  ·rename_i rows hx'
   obtain⟨r,hr,hrl,hk⟩:=hk
   have hd:=evC_rep h hx hx'
   generalize hval:a.eval x=val at hd
   cases hd with
   |nil A cap=>simp at hr
   |sl _ b o' sz' cap u hF hc hsz hcell hrep=>
    have hlt:j<rows.length:=(List.getElem?_eq_some_iff.1 hr).1
    have hss:sz'=sz:=by rw[←hsz r (List.mem_of_getElem? hr),hrl]
    subst hss
    exact OpRun.pure_ h (key b o' _ _ hval hlt) hk ⟨b,_,hF,rfl,fun q d hq=>⟨_,hcell j r hr q d hq,hrep j r hr q d hq⟩⟩
  ·rename_i id ep off len cap hx'
   obtain⟨hlt,hk⟩:=hk
   obtain⟨e1,sz1,rows,hG,hle,A,l,kk,he',hA⟩:=evC_rep h hx hx'
   rw[hG]at hk
   simp only[]at hk
   obtain⟨rfl,rfl,hrl,hk⟩:=hk
   obtain⟨rfl,h1,_,_,h2⟩:=hA rfl
   rcases h2 with h2|⟨b,o',m,hφ,rfl,hm,hle2⟩
   ·omega
   refine OpRun.pure_ h (key b _ _ _ he' hlt) hk ⟨ep,sz1,rows,hG,hle,_,rfl,fun _=>⟨b,o',hφ,hrl,?_⟩⟩
   rw[Nat.add_mul];congr 2;omega
  ·exact hk.elim
 ·exact hk.elim
theorem snd_sidx(h:SRel n φ F s a w){t:TypeId}{x i:Operand}(ho:o.op= .index t x i)(hu:P.underlying t=some .string){x' i':O}(hx:cO x=some x')(hi:cO i=some i')
 (hk:op0 (.sidx x' i') s K):OpRun P o a φ F s w K:=by
 simp only[op0]at hk
 split at hk
 ·rename_i b v hb hv
  have hv:=evV_rep h hi hv
  have hb:=evV_rep h hx hb
  obtain⟨k,j,rfl,c,hc,hk⟩:=idx_sound hk
  refine OpRun.pure_ h ?_ hk (DRep.v _ rfl)
  refine exec_v (x:=Instr.index t (a.eval x) (a.eval i)) (by simp only[execOp,ho]) ?_
  simp only[Instr.index,hv,hb,run_bind,asIntOf,run_pure,run_underlying hu]
  rw[if_pos (by omega)]
  simp only[Int.toNat_natCast,hc,run_pure]
 ·exact hk.elim
end
end Go.Fw
namespace Go.Fw
section
variable {P:Program} {o:Oper} {a:Act} {φ:Phi} {F:Nat→Prop} {s:St} {w:World} {K:Out→Prop} {n:Nat}
def Bd(a:Act)(x:Option Operand)(d j:Nat):Prop:=
 match x with
 |none=>j=d
 |some x=>∃k:IntKind,a.eval x= .int k j
theorem idxO_sound(h:SRel n φ F s a w){x:Option Operand}{y:Option O}(hc:optO x=some y){d:Nat}{L:Nat→Prop}(hl:idxO s y d L):
 ∃j:Nat,L j∧Bd a x d j:=by
 cases x with
 |none=>cases hc;exact⟨d,hl,rfl⟩
 |some x=>
  simp only[optO,Option.map_eq_some_iff]at hc
  obtain⟨z,hz,rfl⟩:=hc
  simp only[idxO]at hl
  split at hl
  ·rename_i v hv
   have hv:=evV_rep h hz hv
   obtain⟨k,j,rfl,hl1⟩:=idx_sound hl
   exact⟨j,hl1,k,hv⟩
  ·exact hl.elim
theorem run_sliceBound{k:IntKind}{j y:Nat}{code:BoundsCode}(hj:j≤y):(Instr.sliceBound (.int k j) y code).run P w= .ok j w:=by
 simp only[Instr.sliceBound,asIntOf,run_bind,run_pure]
 rw[if_pos (by omega)]
 simp[run_pure]
theorem run_sliceBounds{isSlice:Bool}{len cap:Nat}{lo hi mx:Option Operand}{l hh m:Nat}
 (hm:Bd a mx cap m)
 (hhi:Bd a hi len hh)
 (hlo:Bd a lo 0 l)
 (hmx:mx.isSome=true→hi.isSome=true) (h1:l≤hh) (h2:hh≤m) (h3:m≤cap):
 (Instr.sliceBounds isSlice len cap (lo.map a.eval) (hi.map a.eval) (mx.map a.eval)).run P w= .ok (l,hh,m) w:=by
 unfold Bd at hm hhi hlo
 cases mx with
 |none=>
  simp only at hm;subst hm
  cases hi with
  |none=>
   simp only at hhi;subst hhi
   cases lo with
   |none=>simp only at hlo;subst hlo;simp[Instr.sliceBounds,run_pure,run_bind]
   |some x=>obtain⟨k,hk⟩:=hlo;simp[Instr.sliceBounds,run_pure,run_bind,hk,run_sliceBound h1]
  |some y=>
   obtain⟨k',hk'⟩:=hhi
   cases lo with
   |none=>simp only at hlo;subst hlo;simp[Instr.sliceBounds,run_pure,run_bind,hk',run_sliceBound h2]
   |some x=>obtain⟨k,hk⟩:=hlo;simp[Instr.sliceBounds,run_pure,run_bind,hk,hk',run_sliceBound h1,run_sliceBound h2]
 |some z=>
  obtain⟨k2,hk2⟩:=hm
  cases hi with
  |none=>simp at hmx
  |some y=>
   obtain⟨k',hk'⟩:=hhi
   cases lo with
   |none=>simp only at hlo;subst hlo;simp[Instr.sliceBounds,run_pure,run_bind,hk',hk2,run_sliceBound h2,run_sliceBound h3]
   |some x=>obtain⟨k,hk⟩:=hlo;simp[Instr.sliceBounds,run_pure,run_bind,hk,hk',hk2,run_sliceBound h1,run_sliceBound h2,run_sliceBound h3]
theorem run_sliceAt{t e:TypeId}{sz:Nat}(hu:P.underlying t=some (.slice e))(hs:szT P e=some sz){A:Option Addr}{len cap:Nat}{lo hi mx:Option Operand}{l hh m:Nat}
 (hm:Bd a mx cap m)
 (hhi:Bd a hi len hh)
 (hlo:Bd a lo 0 l)
 (hmx:mx.isSome=true→hi.isSome=true) (h1:l≤hh) (h2:hh≤m) (h3:m≤cap):
 (Instr.sliceAt t (.slice A len cap) (lo.map a.eval) (hi.map a.eval) (mx.map a.eval)).run P w=
   .ok (.slice (if m=l then A else A.map (·.add (l*sz))) (hh-l) (m-l)) w:=by
 simp only[Instr.sliceAt,run_bind,run_underlying hu,Instr.slice,run_sliceBounds hm hhi hlo hmx h1 h2 h3,run_sizeOf hs,run_pure]
theorem snd_slice(h:SRel n φ F s a w){t e:TypeId}{x:Operand}{lo hi mx:Option Operand}(ho:o.op= .slice t x lo hi mx)(hu:P.underlying t=some (.slice e)){sz:Nat}(hs:szT P e=some sz)
 {x':O} {lo' hi' mx':Option O} (hx:cO x=some x') (hlo:optO lo=some lo') (hhi:optO hi=some hi') (hmx:optO mx=some mx') (hmh:mx.isSome=true→hi.isSome=true)
 (hk:op0 (.slice sz x' lo' hi' mx') s K):OpRun P o a φ F s w K:=by
 have key:∀{A:Option Addr} {len cap l hh m:Nat},a.eval x= .slice A len cap→Bd a mx cap m→Bd a hi len hh→Bd a lo 0 l→l≤hh→hh≤m→m≤cap→
  (execOp a.eval o).run P w= .ok (.value (.slice (if m=l then A else A.map (·.add (l*sz))) (hh-l) (m-l))) w:=by
  intro A len cap l hh m hx' hm hhi hlo h1 h2 h3
  refine exec_v (x:=Instr.sliceAt t (a.eval x) (lo.map a.eval) (hi.map a.eval) (mx.map a.eval)) (by simp only[execOp,ho]) ?_
  rw[hx']
  exact run_sliceAt hu hs hm hhi hlo hmh h1 h2 h3
 simp only[op0]at hk
 split at hk
 ·rename_i rows hx'
  split at hk
  ·obtain⟨hh,hk,ehi⟩:=idxO_sound h hhi hk
   obtain⟨l,hk,elo⟩:=idxO_sound h hlo hk
   obtain⟨h1,h2,h3,hk⟩:=hk
   have hmx0:mx=none:=by cases mx with|none=>rfl|some z=>simp[optO]at hmx
   subst hmx0
   have hd:=evC_rep h hx hx'
   generalize hval:a.eval x=val at hd
   cases hd with
   |nil A cap=>
    refine OpRun.pure_ h (key (m:=cap) hval rfl (by simpa using ehi) elo h1 (by simp at h2;omega) (Nat.le_refl _)) hk ?_
    have:hh=0:=by simpa using h2
    subst this
    have:l=0:=by omega
    subst this
    exact DRep.nil _ _
   |sl _ b o' sz' cap u hF hc hsz hcell hrep=>
    refine OpRun.pure_ h (key (m:=cap) hval rfl (by simpa using ehi) elo h1 (by omega) (Nat.le_refl _)) hk ?_
    by_cases h0:hh-l=0
    ·have:(rows.take hh).drop l=[]:=by apply List.drop_of_length_le;simp;omega
     rw[this,h0];exact DRep.nil _ _
    ·rw[if_neg (by omega)]
     have hlen:((rows.take hh).drop l).length=hh-l:=by simp;omega
     have key2:∀(i:Nat) row,((rows.take hh).drop l)[i]? =some row→rows[l+i]? =some row:=by
      intro i row hi
      rw[List.getElem?_drop,List.getElem?_take]at hi
      split at hi
      ·exact hi
      ·cases hi
     have hss:sz'=sz:=by
      have hne:rows≠[]:=by intro he;subst he;simp at h2;omega
      obtain⟨r,rr,rfl⟩:=List.exists_cons_of_ne_nil hne
      rw[←hsz r (by simp),h3 r (by simp)]
     subst hss
     have:=DRep.sl (w:=w) (F:=F) ((rows.take hh).drop l) b (o'+l*sz') sz' (cap-l) (fun i j=>u (l+i) j) hF (by omega)
      (fun row hr=>hsz row (List.mem_of_mem_take (List.mem_of_mem_drop hr)))
      (fun i row hi j d hj=>by
        have:=hcell (l+i) row (key2 i row hi) j d hj
        rw[Nat.add_mul]at this
        rw[show o'+l*sz'+i*sz'+j=o'+(l*sz'+i*sz')+j by omega];exact this)
      (fun i row hi j d hj=>hrep (l+i) row (key2 i row hi) j d hj)
     rw[hlen]at this
     simp only[Option.map_some,addr_add]
     exact this
  ·rename_i mo
   obtain⟨m,hk,em⟩:=idxO_sound h hmx hk
   obtain⟨hh,hk,ehi⟩:=idxO_sound h hhi hk
   obtain⟨l,hk,elo⟩:=idxO_sound h hlo hk
   obtain⟨rfl,rfl,h3,hk⟩:=hk
   have hd:=evC_rep h hx hx'
   have fin:∀{A:Option Addr} {k:Nat},a.eval x= .slice A rows.length k→rows.length≤k→OpRun P o a φ F s w K:=by
    intro A k hval hle
    have em':Bd a mx k l:=by
     cases mx with
     |none=>simp[optO]at hmx
     |some z=>exact em
    have hr:=key (m:=l) hval em' ehi elo (Nat.le_refl _) (Nat.le_refl _) (by omega)
    rw[if_pos rfl,Nat.sub_self]at hr
    refine⟨_,_,.inl hr,?_⟩
    refine OpRes.change s.heap.length none (.arr 0 sz []) hk h.rel (Nat.le_refl _) (Io.refl _) (fun _ _ _=>rfl) (fun b o hx=>by cases hx) (by rw[hp_len];trivial) (fun _=> .inl ⟨upd_same _ _ _,rfl⟩) ?_
    intro stp av hav;cases hav
    exact⟨0,sz,[],upd_same _ _ _,Nat.le_refl _,A,0,0,rfl,fun _=>⟨rfl,Nat.le_refl _,fun c hc=>(by cases hc),fun _=>(by simp),.inl rfl⟩⟩
   generalize hval:a.eval x=val at hd
   cases hd with
   |nil A cap=>exact fin hval (Nat.zero_le _)
   |sl _ b o' sz' cap u hF hc hsz hcell hrep=>exact fin hval hc
 ·rename_i hx'
  obtain⟨rfl,hk⟩:=hk
  obtain⟨hh,hk,ehi⟩:=idxO_sound h hhi hk
  obtain⟨l,hk,elo⟩:=idxO_sound h hlo hk
  obtain⟨rfl,rfl,hk2⟩:=hk
  have hmx0:mx=none:=by cases mx with|none=>rfl|some z=>simp[optO]at hmx
  subst hmx0
  have hval:a.eval x= .slice none 0 0:=by
   have hd:=evC_rep h hx hx'
   generalize a.eval x=val at hd
   cases hd;rfl
  have:=key (m:=0) hval rfl ehi elo (Nat.le_refl _) (Nat.le_refl _) (Nat.le_refl _)
  exact OpRun.pure_ h this hk2 (DRep.v _ rfl)
 ·rename_i id ep off len cap hx'
  obtain⟨e1,sz1,rows,hG,hle,A,l0,k0,he',hA⟩:=evC_rep h hx hx'
  rw[hG]at hk
  simp only[]at hk
  obtain⟨rfl,rfl,hk⟩:=hk
  obtain⟨rfl,g1,g2,g3,g4⟩:=hA rfl
  have fin:∀{l hh m:Nat} {copt:Option Nat},l≤hh→hh≤m→m≤k0→(∀c,copt=some c→c=m-l)→(copt=none→off+hh≤rows.length)→
   CRep φ F (hp s.heap) w (.own id ep (off+l) (hh-l) copt) (.slice (if m=l then A else A.map (·.add (l*sz1))) (hh-l) (m-l)):=by
   intro l hh m copt h1 h2 h3 h4 h5
   refine⟨ep,sz1,rows,hG,Nat.le_refl _,_,_,_,rfl,fun _=>⟨rfl,by omega,h4,fun hc=>by have:=h5 hc;omega,?_⟩⟩
   by_cases hml:m=l
   ·exact .inl (by omega)
   ·rw[if_neg hml]
    rcases g4 with g4|⟨b,o2,nn,q1,rfl,q3,q4⟩
    ·omega
    refine .inr ⟨b,o2,nn,q1,?_,q3,?_⟩
    ·simp only[Option.map_some,addr_add,Option.some.injEq,Addr.mk.injEq,and_true,true_and]
     rw[Nat.add_mul];omega
    ·have:(off+l)*sz1+(m-l)*sz1≤off*sz1+k0*sz1:=by
      rw[←Nat.add_mul,←Nat.add_mul];exact Nat.mul_le_mul_right _ (by omega)
     omega
  split at hk
  ·split at hk
   ·have hmx0:mx=none:=by cases mx with|none=>rfl|some z=>simp[optO]at hmx
    subst hmx0
    obtain⟨hh,hk,ehi⟩:=idxO_sound h hhi hk
    obtain⟨l,hk,elo⟩:=idxO_sound h hlo hk
    obtain⟨h1,h2,hk⟩:=hk
    refine OpRun.pure_ h (key (m:=k0) he' rfl ehi elo h1 (by omega) (Nat.le_refl _)) hk (fin h1 (by omega) (Nat.le_refl _) (fun c hc=>by cases hc) (fun _=>?_))
    have:=g3 rfl;omega
   ·rename_i mo
    obtain⟨m,hk,em⟩:=idxO_sound h hmx hk
    obtain⟨hh,hk,ehi⟩:=idxO_sound h hhi hk
    obtain⟨l,hk,elo⟩:=idxO_sound h hlo hk
    obtain⟨h1,h2,h3,hk⟩:=hk
    have em':Bd a mx k0 m:=by
     cases mx with
     |none=>simp[optO]at hmx
     |some z=>exact em
    exact OpRun.pure_ h (key (m:=m) he' em' ehi elo h1 h2 (by omega)) hk (fin h1 h2 (by omega) (fun c hc=>by cases hc;rfl) (fun hc=>by cases hc))
  ·rename_i c
   have:=g2 c rfl
   subst this
   obtain⟨m,hk,em⟩:=idxO_sound h hmx hk
   obtain⟨hh,hk,ehi⟩:=idxO_sound h hhi hk
   obtain⟨l,hk,elo⟩:=idxO_sound h hlo hk
   obtain⟨h1,h2,h3,hk⟩:=hk
   exact OpRun.pure_ h (key (m:=m) he' em ehi elo h1 h2 h3) hk (fin h1 h2 h3 (fun c hc=>by cases hc;rfl) (fun hc=>by cases hc))
 ·exact hk.elim
theorem snd_sslice(h:SRel n φ F s a w){t:TypeId}{x:Operand}{lo hi:Option Operand}(ho:o.op= .slice t x lo hi none)(hu:P.underlying t=some .string)
 {x':O} {lo' hi':Option O} (hx:cO x=some x') (hlo:optO lo=some lo') (hhi:optO hi=some hi')
 (hk:op0 (.sslice x' lo' hi') s K):OpRun P o a φ F s w K:=by
 simp only[op0]at hk
 split at hk
 ·rename_i b hx'
  have hval:=evV_rep h hx hx'
  obtain⟨hh,hk,ehi⟩:=idxO_sound h hhi hk
  obtain⟨l,hk,elo⟩:=idxO_sound h hlo hk
  obtain⟨h1,h2,hk⟩:=hk
  refine OpRun.pure_ h ?_ hk (DRep.v _ rfl)
  refine exec_v (x:=Instr.sliceAt t (a.eval x) (lo.map a.eval) (hi.map a.eval) none) (by simp only[execOp,ho,Option.map_none]) ?_
  simp only[Instr.sliceAt,run_bind,run_underlying hu,Instr.slice,hval]
  have:=run_sliceBounds (P:=P) (w:=w) (a:=a) (isSlice:=false) (len:=b.size) (cap:=b.size) (lo:=lo) (hi:=hi) (mx:=none) (m:=b.size) rfl ehi elo (by simp) h1 h2 (Nat.le_refl _)
  simp only[Option.map_none]at this
  simp[this,run_pure]
 ·exact hk.elim
theorem snd_ext(h:SRel n φ F s a w){x:Operand}{i:Nat}(ho:o.op= .extract x i){x':O}(hx:cO x=some x')(hk:op0 (.ext x' i) s K):OpRun P o a φ F s w K:=by
 simp only[op0]at hk
 split at hk
 ·rename_i l hl
  split at hk
  ·rename_i av hav
   obtain⟨vs,he,hvs⟩:=cO_ev h hx hl
   obtain⟨v,hv,hr⟩:=All2.get hvs hav
   refine OpRun.pure_ h ?_ hk hr
   refine exec_v (x:=Instr.extract (a.eval x) i) (by simp only[execOp,ho]) ?_
   simp[Instr.extract,he,hv,run_pure]
  ·exact hk.elim
 ·exact hk.elim
theorem caps_sound(h:SRel n φ F s a w):∀{xs:List Operand} {os:List O} {L:List (Nat×Nat)→Prop},cOs xs=some os→caps s os L→
 ∃cs,L cs∧(xs.map a.eval).length=cs.length∧∀(j:Nat) c,cs[j]? =some c→∃cells b o,hp s.heap c.1=some (.box cells)∧φ c.1=some (b,o)∧(xs.map a.eval)[j]? =some (.pointer (some ⟨b,o+c.2,none⟩))
 |[],os,L,hc,hl=>by cases hc;exact⟨[],hl,rfl,fun j c hj=>by simp at hj⟩
 |x::r,os,L,hc,hl=>by
  simp only[cOs,Option.bind_eq_some_iff,Option.map_eq_some_iff]at hc
  obtain⟨y,hy,ys,hys,rfl⟩:=hc
  simp only[caps]at hl
  split at hl
  ·rename_i id off hv
   obtain⟨cells,b,o',hG,hφ,he⟩:=evC_rep h hy hv
   obtain⟨cs,hL,h1,h2⟩:=caps_sound h hys hl
   refine⟨(id,off)::cs,hL,by simpa using h1,fun j c hj=>?_⟩
   cases j with
   |zero=>simp only[List.getElem?_cons_zero,Option.some.injEq]at hj;subst hj;exact⟨cells,b,o',hG,hφ,by simp[he]⟩
   |succ j=>simpa using h2 j c (by simpa using hj)
  ·exact hl.elim
theorem snd_fn(h:SRel n φ F s a w){f:FuncId}{first captured:Array Operand}(ho:o.op= .makeFunc (.func f) first captured)(hf:first.isEmpty=true){os:List O}(hos:cOs captured.toList=some os)
 (hk:op0 (.fn f os) s K):OpRun P o a φ F s w K:=by
 simp only[op0]at hk
 obtain⟨cs,hL,h1,h2⟩:=caps_sound h hos hk
 refine OpRun.pure_ (v:= .func (.func f) #[] (captured.toList.map a.eval).toArray) h ?_ hL ⟨_,rfl,h1,h2⟩
 have hf':first= #[]:=by simpa using hf
 refine exec_v (x:=Instr.makeFunc (.func f) (first.map a.eval) (captured.map a.eval)) (by simp only[execOp,ho]) ?_
 subst hf'
 have:captured.map a.eval=(captured.toList.map a.eval).toArray:=by apply Array.ext';simp
 rw[this]
 simp only[Instr.makeFunc,List.map_toArray,List.map_nil]
 rfl
theorem one_arg{α:Type}{xs:Array α}{x:α}(h:xs.toList=[x]):xs= #[x]:=by apply Array.ext';simpa using h
theorem two_args{α:Type}{xs:Array α}{x y:α}(h:xs.toList=[x,y]):xs= #[x,y]:=by apply Array.ext';simpa using h
theorem snd_len(h:SRel n φ F s a w){x:Operand}{t e:TypeId}{args:Array Operand}{ts:Array TypeId}(ho:o.op= .call {callee:= .builtin .len,args,argTypes:=ts})(hargs:args.toList=[x])(hts:ts.toList=[t])
 (hu:P.underlying t=some (.slice e)) {x':O} (hx:cO x=some x') (hk:op0 (.len x') s K):OpRun P o a φ F s w K:=by
 obtain rfl:=one_arg hargs
 obtain rfl:=one_arg hts
 have key:∀A l k,a.eval x= .slice A l k→(execOp a.eval o).run P w= .ok (.value (.int .i64 l)) w:=by
  intro A l k hx'
  simp[execOp,ho,resolve,run_bind,run_pure,invoke,builtin,Builtin.len_,run_underlying hu,hx',goInt]
 simp only[op0]at hk
 split at hk
 ·rename_i rows hx'
  have hd:=evC_rep h hx hx'
  generalize hval:a.eval x=val at hd
  cases hd with
  |nil A cap=>exact OpRun.pure_ h (key _ _ _ hval) hk (DRep.v _ rfl)
  |sl _ b o' sz' cap u hF hc hsz hcell hrep=>exact OpRun.pure_ h (key _ _ _ hval) hk (DRep.v _ rfl)
 ·rename_i A l k hx'
  have hd:=evC_rep h hx hx'
  generalize hval:a.eval x=val at hd
  cases hd
  exact OpRun.pure_ h (key _ _ _ hval) hk (DRep.v _ rfl)
 ·rename_i id ep off len cap hx'
  obtain⟨e1,sz1,rows,hG,hle,A,l0,k0,he',hA⟩:=evC_rep h hx hx'
  rw[hG]at hk
  simp only[]at hk
  obtain⟨rfl,hk⟩:=hk
  obtain⟨rfl,_⟩:=hA rfl
  exact OpRun.pure_ h (key _ _ _ he') hk (DRep.v _ rfl)
 ·exact hk.elim
theorem snd_slen(h:SRel n φ F s a w){x:Operand}{t:TypeId}{args:Array Operand}{ts:Array TypeId}(ho:o.op= .call {callee:= .builtin .len,args,argTypes:=ts})(hargs:args.toList=[x])(hts:ts.toList=[t])
 (hu:P.underlying t=some .string) {x':O} (hx:cO x=some x') (hk:op0 (.slen x') s K):OpRun P o a φ F s w K:=by
 obtain rfl:=one_arg hargs
 obtain rfl:=one_arg hts
 simp only[op0]at hk
 split at hk
 ·rename_i b hx'
  have hval:=evV_rep h hx hx'
  refine OpRun.pure_ (v:= .int .i64 b.size) h ?_ hk (DRep.v _ rfl)
  simp[execOp,ho,resolve,run_bind,run_pure,invoke,builtin,Builtin.len_,run_underlying hu,hval,goInt]
 ·exact hk.elim
theorem snd_cap(h:SRel n φ F s a w){x:Operand}{t e:TypeId}{args:Array Operand}{ts:Array TypeId}(ho:o.op= .call {callee:= .builtin .cap,args,argTypes:=ts})(hargs:args.toList=[x])(hts:ts.toList=[t])
 (hu:P.underlying t=some (.slice e)) {x':O} (hx:cO x=some x') (hk:op0 (.cap x') s K):OpRun P o a φ F s w K:=by
 obtain rfl:=one_arg hargs
 obtain rfl:=one_arg hts
 simp only[op0]at hk
 split at hk
 ·rename_i id ep off len c hx'
  obtain⟨e1,sz1,rows,hG,hle,A,l0,k0,he',hA⟩:=evC_rep h hx hx'
  rw[hG]at hk
  simp only[]at hk
  obtain⟨rfl,hk⟩:=hk
  obtain⟨rfl,_,g2,_⟩:=hA rfl
  have:=g2 c rfl
  subst this
  refine OpRun.pure_ (v:= .int .i64 c) h ?_ hk (DRep.v _ rfl)
  simp[execOp,ho,resolve,run_bind,run_pure,invoke,builtin,Builtin.cap_,run_underlying hu,he',goInt]
 ·exact hk.elim
theorem snd_max(h:SRel n φ F s a w){x y:Operand}{args:Array Operand}{ts:Array TypeId}(ho:o.op= .call {callee:= .builtin .max,args,argTypes:=ts})(hargs:args.toList=[x,y])
 {x' y':O} (hx:cO x=some x') (hy:cO y=some y') (hk:op0 (.max x' y') s K):OpRun P o a φ F s w K:=by
 obtain rfl:=two_args hargs
 simp only[op0]at hk
 split at hk
 ·rename_i k p k' q hx' hy'
  have h1:=evV_rep h hx hx'
  have h2:=evV_rep h hy hy'
  refine OpRun.pure_ h ?_ hk (DRep.v _ rfl)
  simp[execOp,ho,resolve,run_bind,run_pure,invoke,builtin,Builtin.max_,Builtin.max2,h1,h2]
 ·exact hk.elim
theorem snd_min(h:SRel n φ F s a w){x y:Operand}{args:Array Operand}{ts:Array TypeId}(ho:o.op= .call {callee:= .builtin .min,args,argTypes:=ts})(hargs:args.toList=[x,y])
 {x' y':O} (hx:cO x=some x') (hy:cO y=some y') (hk:op0 (.min x' y') s K):OpRun P o a φ F s w K:=by
 obtain rfl:=two_args hargs
 simp only[op0]at hk
 split at hk
 ·rename_i k p k' q hx' hy'
  have h1:=evV_rep h hx hx'
  have h2:=evV_rep h hy hy'
  refine OpRun.pure_ h ?_ hk (DRep.v _ rfl)
  simp[execOp,ho,resolve,run_bind,run_pure,invoke,builtin,Builtin.min_,Builtin.min2,h1,h2]
 ·exact hk.elim
theorem mins_fold{s:St}{a:Act}{w:World}{φ:Phi}{F:Nat→Prop}{K:Out→Prop}{n:Nat}(h:SRel n φ F s a w):∀(xs:List Operand) (os:List O) (k:IntKind) (p:Int),cOs xs=some os→minL s os k p K→
 ∃q:Int,retV K (.int k q)∧((xs.map a.eval).foldlM Builtin.min2 (.int k p)).run P w= .ok (.int k q) w
 |[],os,k,p,hc,hm=>by
  cases hc
  exact⟨p,hm,rfl⟩
 |x::xs,os,k,p,hc,hm=>by
  simp only[cOs,Option.bind_eq_some_iff,Option.map_eq_some_iff]at hc
  obtain⟨y,hy,os',hos,rfl⟩:=hc
  simp only[minL]at hm
  split at hm
  ·rename_i k' b hb
   have h1:=evV_rep h hy hb
   obtain⟨q,hq,hr⟩:=mins_fold h xs os' k _ hos hm
   refine⟨q,hq,?_⟩
   simp only[List.map_cons,List.foldlM_cons,h1,Builtin.min2,run_bind,run_pure]
   exact hr
  ·exact hm.elim
theorem snd_mins(h:SRel n φ F s a w){x:Operand}{r:List Operand}{args:Array Operand}{ts:Array TypeId}(ho:o.op= .call {callee:= .builtin .min,args,argTypes:=ts})(hargs:args.toList=x::r)
 {x':O} {r':List O} (hx:cO x=some x') (hr:cOs r=some r') (hk:op0 (.mins x' r') s K):OpRun P o a φ F s w K:=by
 simp only[op0]at hk
 split at hk
 ·rename_i k p hx'
  have h1:=evV_rep h hx hx'
  obtain⟨q,hq,hf⟩:=mins_fold (P:=P) h r r' k p hr hk
  refine OpRun.pure_ h ?_ hq (DRep.v _ rfl)
  obtain rfl:args=(x::r).toArray:=by rw[←hargs]
  simp only[execOp,ho,resolve,run_bind,run_pure,invoke,builtin,Builtin.min_]
  simp[h1,hf,run_bind,run_pure]
 ·exact hk.elim
theorem snd_not(h:SRel n φ F s a w){t:TypeId}{x:Operand}(ho:o.op= .unOp .not t x){x':O}(hx:cO x=some x')(hk:op0 (.not x') s K):OpRun P o a φ F s w K:=by
 simp only[op0]at hk
 split at hk
 ·rename_i b hx'
  have h1:=evV_rep h hx hx'
  refine OpRun.pure_ h ?_ hk (DRep.v _ rfl)
  simp[execOp,ho,run_bind,run_pure,Op.unary,h1]
 ·exact hk.elim
theorem snd_neg(h:SRel n φ F s a w){t:TypeId}{x:Operand}(ho:o.op= .unOp .neg t x){x':O}(hx:cO x=some x')(hk:op0 (.neg x') s K):OpRun P o a φ F s w K:=by
 simp only[op0]at hk
 split at hk
 ·rename_i k b hx'
  have h1:=evV_rep h hx hx'
  refine OpRun.pure_ h ?_ hk (DRep.v _ rfl)
  refine exec_v (x:=Op.unary .neg (a.eval x)) (by simp only[execOp,ho]) ?_
  rw[h1];rfl
 ·exact hk.elim
theorem snd_conv(h:SRel n φ F s a w){sT dT:TypeId}{x:Operand}(ho:o.op= .convert sT dT x){k0 k:IntKind}(hs:P.underlying sT=some (.int k0))(hd:P.underlying dT=some (.int k)){x':O}(hx:cO x=some x')
 (hk:op0 (.conv k x') s K):OpRun P o a φ F s w K:=by
 simp only[op0]at hk
 split at hk
 ·rename_i k' b hx'
  have h1:=evV_rep h hx hx'
  refine OpRun.pure_ h ?_ hk (DRep.v _ rfl)
  refine exec_v (x:=convert sT dT (a.eval x)) (by simp only[execOp,ho]) ?_
  simp only[convert,run_bind,run_underlying hs,run_underlying hd,h1]
  rfl
 ·exact hk.elim
theorem beq_str(x y:ByteArray):(x.toList==y.toList)=decide (x=y):=by
 rw[ByteArray.toList_eq,ByteArray.toList_eq]
 rw[Bool.eq_iff_iff,beq_iff_eq,decide_eq_true_iff]
 constructor
 ·intro h
  cases x;cases y
  have:=Array.ext' h
  simp only at this;rw[this]
 ·intro h;rw[h]
theorem snd_bin(h:SRel n φ F s a w){op:BinOp}{t t':TypeId}{x y:Operand}(ho:o.op= .binOp op t x y t'){x' y':O}(hx:cO x=some x')(hy:cO y=some y')(hk:op0 (.bin op x' y') s K):OpRun P o a φ F s w K:=by
 simp only[op0]at hk
 split at hk
 ·rename_i p q hx' hy'
  have h1:=evV_rep h hx hx'
  have h2:=evV_rep h hy hy'
  suffices hh:∃v,(binOp op t p q).run P w= .ok v w∧Fw.isCell v=true∧retV K v∧(eqGuard op t x y p q).run P w= .ok () w by
   obtain⟨v,hr,hc,hK,hg⟩:=hh
   refine OpRun.pure_ h ?_ hK (DRep.v _ hc)
   refine exec_v (x:=do eqGuard op t x y (a.eval x) (a.eval y);binOp op t (a.eval x) (a.eval y)) (by simp only[execOp,ho]) ?_
   rw[run_bind,h1,h2,hg]
   exact hr
  unfold binK at hk
  split at hk
  ·rename_i k b k' b'
   obtain⟨rfl,hk⟩:=hk
   cases op<;>first
    |exact hk.elim
    |exact⟨.int k (shrV k b b'),by show(Op.shift .shr k b k b').run P w=_;simp only[Op.shift,if_neg (Int.not_lt.2 hk.1)];rfl,rfl,hk.2,by simp[eqGuard,run_pure]⟩
    |exact⟨.int k (shlV k b b'),by show(Op.shift .shl k b k b').run P w=_;simp only[Op.shift,if_neg (Int.not_lt.2 hk.1)];rfl,rfl,hk.2,by simp[eqGuard,run_pure]⟩
    |exact⟨_,by simp only[binOp,ne_eq,not_true_eq_false,if_false];rfl,rfl,hk,by simp[eqGuard,run_pure]⟩
    |exact⟨_,by simp[binOp,Op.intDiv,hk.1,run_pure],rfl,hk.2,by simp[eqGuard,run_pure]⟩
  ·rename_i b b'
   cases op<;>first
    |exact hk.elim
    |exact⟨.string (b++b'),by
      have:¬((b.size+b'.size:Nat):Int)>IntKind.i64.max:=by have:=hk.1;simp[IntKind.max,IntKind.signed,IntKind.bits];omega
      simp only[binOp,Op.stringOp,if_neg this,run_pure],rfl,hk.2,by simp[eqGuard,run_pure]⟩
    |exact⟨_,by simp only[binOp,Op.stringOp,beq_str,run_pure,nb],rfl,hk,by simp[eqGuard,run_pure]⟩
  ·exact hk.elim
 ·exact hk.elim
theorem run_beq{w:World}{t:TypeId}(hu:P.underlying t=some .bool)(p q:Bool):(Op.equal t (.bool p) (.bool q)).run P w= .ok (p==q) w:=by
 unfold Op.equal Op.maxDepth;unfold Op.equalIn;simp only[run_bind,run_underlying hu,run_pure]
theorem run_eqNil{w:World}{t e:TypeId}(hu:P.underlying t=some (.slice e))(A:Option Addr)(l k:Nat):(Op.equal t (.slice A l k) (.slice none 0 0)).run P w= .ok A.isNone w:=by
 unfold Op.equal Op.maxDepth;unfold Op.equalIn;simp only[run_bind,run_underlying hu]
 cases A<;>rfl
theorem snd_beq(h:SRel n φ F s a w){neg:Bool}{t t':TypeId}{x y:Operand}(ho:o.op= .binOp (if neg then .neq else .eql) t x y t')(hu:P.underlying t=some .bool){x' y':O}(hx:cO x=some x')(hy:cO y=some y')
 (hk:op0 (.beq neg x' y') s K):OpRun P o a φ F s w K:=by
 simp only[op0]at hk
 split at hk
 ·rename_i p q hx' hy'
  have h1:=evV_rep h hx hx'
  have h2:=evV_rep h hy hy'
  refine OpRun.pure_ h ?_ hk (DRep.v _ rfl)
  refine exec_v (x:=do eqGuard (if neg then .neq else .eql) t x y (a.eval x) (a.eval y);binOp (if neg then .neq else .eql) t (a.eval x) (a.eval y)) (by simp only[execOp,ho]) ?_
  rw[h1,h2]
  cases neg<;>cases p<;>cases q<;>simp[eqGuard,run_bind,run_pure,binOp,run_beq hu]
 ·exact hk.elim
theorem snd_eqnil(h:SRel n φ F s a w){neg:Bool}{t t' e:TypeId}{x y:Operand}(ho:o.op= .binOp (if neg then .neq else .eql) t x y t')(hu:P.underlying t=some (.slice e))(hy:nilK y=true){x':O}(hx:cO x=some x')
 (hk:op0 (.eqnil neg x') s K):OpRun P o a φ F s w K:=by
 have hy':a.eval y= .slice none 0 0:=by
  unfold nilK at hy;split at hy
  ·rfl
  ·cases hy
 have key:∀A l k,a.eval x= .slice A l k→(execOp a.eval o).run P w= .ok (.value (.bool (A.isNone !=neg))) w:=by
  intro A l k hx'
  refine exec_v (x:=do eqGuard (if neg then .neq else .eql) t x y (a.eval x) (a.eval y);binOp (if neg then .neq else .eql) t (a.eval x) (a.eval y)) (by simp only[execOp,ho]) ?_
  rw[hx',hy']
  cases neg<;>simp[eqGuard,run_bind,run_pure,binOp,run_eqNil hu]
 simp only[op0]at hk
 split at hk
 ·rename_i hx'
  have hd:=evC_rep h hx hx'
  generalize hval:a.eval x=val at hd
  cases hd
  have:=key _ _ _ hval
  refine OpRun.pure_ h this (av:= .one (.c (.d (.v (.bool (!neg)))))) hk ?_
  cases neg<;>exact DRep.v _ rfl
 ·rename_i rows hx'
  have hd:=evC_rep h hx hx'
  generalize hval:a.eval x=val at hd
  cases hd with
  |nil A cap=>exact OpRun.pure_ h (key _ _ _ hval) (hk A.isNone (by simp)) (DRep.v _ rfl)
  |sl _ b o' sz' cap u hF hc hsz hcell hrep=>exact OpRun.pure_ h (key _ _ _ hval) (hk false (by simp)) (DRep.v _ rfl)
 ·rename_i id ep off len cap hx'
  obtain⟨e1,sz1,rows,hG,hle,A,l0,k0,he',hA⟩:=evC_rep h hx hx'
  rw[hG]at hk
  simp only[]at hk
  obtain⟨rfl,hk⟩:=hk
  obtain⟨rfl,g1,_,_,g4⟩:=hA rfl
  refine OpRun.pure_ h (key _ _ _ he') (hk A.isNone (fun hne=>?_)) (DRep.v _ rfl)
  rcases g4 with g4|⟨b,o2,nn,q1,rfl,q3,q4⟩
  ·omega
  ·rfl
 ·exact hk.elim
theorem run_part{w:World}{t:TypeId}{cs:Array Value}{off:Nat}{v:Value}(ha:aggT P t=some false)(hv:cs[off]? =some v):(part t cs off).run P w= .ok v w:=by
 simp only[part,run_bind,run_isAgg ha,Bool.false_eq_true,if_false,hv,run_pure]
theorem eqCells_sound{F:Nat→Prop}{φ:Phi}{G:Heap}{w:World}{xs ys:List C}{us vs:List Value}(hx:CsRep φ F G w xs us)(hy:CsRep φ F G w ys vs)(d:Nat):
 ∀{fs:List Field} {plan:List (Nat×Nat)} {b:Bool},eqLeaves P fs=some plan→eqCells plan xs ys=some b→(Op.eqFields (d+1) us.toArray vs.toArray fs).run P w= .ok b w
 |[],plan,b,hp,he=>by
  cases hp
  simp only[eqCells,Option.some.injEq]at he
  subst he
  rfl
 |f::fs,plan,b,hp,he=>by
  simp only[eqLeaves]at hp
  split at hp
  ·rename_i p l hl hr
   cases hp
   obtain⟨off,k⟩:=p
   simp only[eqCells]at he
   split at he
   ·rename_i x y hxo hyo
    split at he
    ·rename_i b1 hb1
     split at he
     ·rename_i b2 hb2
      cases he
      obtain⟨u,hu,hxu⟩:=All2.get hx hxo
      obtain⟨v,hv,hyv⟩:=All2.get hy hyo
      have ih:=eqCells_sound hx hy d hr hb2
      unfold eqLeaf at hl
      split at hl
      ·cases hl
      ·rename_i hname
       have hname':f.name≠ "_" :=by simpa using hname
       have main:∀{r:Bool},aggT P f.type=some false→f.offset=off→(Op.equalIn (d+1) f.type u v).run P w= .ok r w→r=b1→(Op.eqFields (d+1) us.toArray vs.toArray (f::fs)).run P w= .ok (b1&&b2) w:=by
        intro r ha ho hr hrb
        subst hrb;subst ho
        simp only[Op.eqFields,if_pos hname',run_bind]
        rw[run_part ha (by simpa using hu)]
        simp only[]
        rw[run_part ha (by simpa using hv)]
        simp only[]
        rw[hr]
        cases r
        ·simp[run_pure]
        ·simpa using ih
       split at hl
       ·rename_i k0 hk
        simp only[Option.some.injEq,Prod.mk.injEq]at hl
        obtain⟨ho,rfl⟩:=hl
        unfold eqCell at hb1
        split at hb1<;>first|contradiction|skip
        split at hb1
        ·rename_i hkk
         subst hkk
         cases hb1
         cases hxu;cases hyv
         refine main (r:=_) (by simp[aggT,hk]) ho (run_equalIn_int w d f.type _ k0 _ _ hk) ?_
         rw[Bool.eq_iff_iff];simp
        ·cases hb1
       ·rename_i hk
        simp only[Option.some.injEq,Prod.mk.injEq]at hl
        obtain⟨ho,rfl⟩:=hl
        unfold eqCell at hb1
        split at hb1<;>first|contradiction|skip
        cases hb1
        cases hxu;cases hyv
        exact main (by simp[aggT,hk]) ho (run_equalIn_bool' w d f.type _ _ hk) rfl
       ·rename_i hk
        simp only[Option.some.injEq,Prod.mk.injEq]at hl
        obtain⟨ho,rfl⟩:=hl
        unfold eqCell at hb1
        split at hb1<;>first|contradiction|skip
        cases hb1
        cases hxu;cases hyv
        exact main (by simp[aggT,hk]) ho (run_equalIn_string w d f.type _ _ hk) (beq_str _ _)
       ·cases hl
     ·cases he
    ·cases he
   ·cases he
  ·cases hp
theorem snd_eqs(h:SRel n φ F s a w){neg:Bool}{t t':TypeId}{x y:Operand}(ho:o.op= .binOp (if neg then .neq else .eql) t x y t'){fs:Array Field}(hu:P.underlying t=some (.struct fs)){plan:List (Nat×Nat)}(hpl:eqPlan P t fs.toList=some plan)
 {x' y':O} (hx:cO x=some x') (hy:cO y=some y') (hk:op0 (.eqs neg plan x' y') s K):OpRun P o a φ F s w K:=by
 simp only[op0]at hk
 split at hk
 ·rename_i xs ys hx' hy'
  split at hk
  ·rename_i b hb
   obtain⟨us,h1,hxs⟩:=cO_ev h hx hx'
   obtain⟨vs,h2,hys⟩:=cO_ev h hy hy'
   unfold eqPlan at hpl
   split at hpl
   ·cases hpl
   ·rename_i hg
    simp only[Bool.or_eq_true,not_or,Bool.not_eq_true]at hg
    have hf:P.fieldsOf t=fs:=by simp[Program.fieldsOf,hu]
    have heq:(Op.equalIn 10000 t (.agg us.toArray) (.agg vs.toArray)).run P w= .ok b w:=by
     rw[show(10000:Nat)=9999+1 from rfl,run_equalIn_struct (P:=P) w 9999 t _ _ (by rw[hf];exact hu) hg.1,hf]
     exact eqCells_sound hxs hys 9998 hpl hb
    refine OpRun.pure_ h ?_ hk (DRep.v _ rfl)
    refine exec_v (x:=do eqGuard (if neg then .neq else .eql) t x y (a.eval x) (a.eval y);binOp (if neg then .neq else .eql) t (a.eval x) (a.eval y)) (by simp only[execOp,ho]) ?_
    rw[run_bind,h1,h2,run_eqGuard_agg w _ t x y _ _ hg.2]
    simp only[]
    cases neg
    ·simp only[Bool.false_eq_true,if_false]
     rw[run_eql_struct,heq];rfl
    ·simp only[if_true]
     rw[run_neq_struct,heq];rfl
  ·exact hk.elim
 ·exact hk.elim
theorem eqItems_fields(d:Nat)(e:TypeId)(c:Nat)(xs ys:Array Value):∀is:List Nat,Op.eqItems d e c xs ys is=Op.eqFields d xs ys (is.map fun i=>{name:= "f",type:=e,offset:=i*c,embedded:=false,tag:= "",pkgPath:=default,byteOffset:=default})
 |[]=>rfl
 |i::is=>by
  simp only[List.map_cons,Op.eqItems,Op.eqFields,eqItems_fields d e c xs ys is]
  rfl
theorem snd_eqsA(h:SRel n φ F s a w){neg:Bool}{t t':TypeId}{x y:Operand}(ho:o.op= .binOp (if neg then .neq else .eql) t x y t'){m:Nat}{e:TypeId}(hu:P.underlying t=some (.array m e))(hie:(P.info? e).isSome=true){plan:List (Nat×Nat)}(hpl:eqPlanA P t m e=some plan)
 {x' y':O} (hx:cO x=some x') (hy:cO y=some y') (hk:op0 (.eqs neg plan x' y') s K):OpRun P o a φ F s w K:=by
 simp only[op0]at hk
 split at hk
 ·rename_i xs ys hx' hy'
  split at hk
  ·rename_i b hb
   obtain⟨us,h1,hxs⟩:=cO_ev h hx hx'
   obtain⟨vs,h2,hys⟩:=cO_ev h hy hy'
   obtain⟨ie,hie⟩:=Option.isSome_iff_exists.1 hie
   unfold eqPlanA at hpl
   split at hpl
   ·cases hpl
   ·rename_i hg
    simp only[Bool.not_eq_true]at hg
    have heq:(Op.equalIn 10000 t (.agg us.toArray) (.agg vs.toArray)).run P w= .ok b w:=by
     rw[show(10000:Nat)=9999+1 from rfl,run_equalIn_array w 9999 _ _ hu hie,eqItems_fields]
     exact eqCells_sound hxs hys 9998 hpl hb
    refine OpRun.pure_ h ?_ hk (DRep.v _ rfl)
    refine exec_v (x:=do eqGuard (if neg then .neq else .eql) t x y (a.eval x) (a.eval y);binOp (if neg then .neq else .eql) t (a.eval x) (a.eval y)) (by simp only[execOp,ho]) ?_
    rw[run_bind,h1,h2,run_eqGuard_agg w _ t x y _ _ hg]
    simp only[]
    cases neg
    ·simp only[Bool.false_eq_true,if_false]
     rw[run_eql_struct,heq];rfl
    ·simp only[if_true]
     rw[run_neq_struct,heq];rfl
  ·exact hk.elim
 ·exact hk.elim
end
end Go.Fw
namespace Go.Fw
open Go.MapKept (IsKey sameNow_of_keys run_getObj_map run_checkKey run_findKey run_setObj_map run_keyThatStays heap_set)
section
variable {P:Program} {n:Nat} {φ:Phi} {F:Nat→Prop} {s:St} {a:Act} {w:World} {o:Oper} {K:Out→Prop}
theorem kdT_key{t:TypeId}{kd:Nat}(h:kdT P t=some kd):∃d,P.underlying t=some d∧∀v,keyK kd v=true→IsKey d v:=by
 unfold kdT at h
 split at h
 ·rename_i hu
  cases h
  refine⟨_,hu,fun v hv=>?_⟩
  cases v<;>simp_all [keyK,IsKey]
  rename_i k x
  cases k<;>simp_all [keyK]
 ·rename_i hu
  cases h
  refine⟨_,hu,fun v hv=>?_⟩
  cases v<;>simp_all [keyK,IsKey]
 ·cases h
theorem keyEq_iff{kd:Nat}{a b:Value}(ha:keyK kd a=true)(hb:keyK kd b=true):keyEq a b=true↔a=b:=by
 unfold keyK at ha hb
 split at ha<;>split at hb<;>simp_all [keyEq]
abbrev EntsRep(φ:Phi)(F:Nat→Prop)(G:Heap)(w:World)(ents:List (Value×A1))(es:List MapEntry):Prop:=
 All2 (fun(e:Value×A1) (m:MapEntry)=>m.key=e.1∧A1Rep φ F G w e.2 m.val) ents es
theorem ents_find{G:Heap}{kd:Nat}{k:Value}(hk:keyK kd k=true){d:TypeDesc}(hd:∀v,keyK kd v=true→IsKey d v):∀{ents:List (Value×A1)} {es:List MapEntry},EntsRep φ F G w ents es→allK kd ents=true→∀(i:Nat),
 (Instr.findNow d k es i=some none∧mfind k ents=none)∨∃(j:Nat) (e:MapEntry) (x:A1),Instr.findNow d k es i=some (some (i+j,e.val))∧es[j]? =some e∧e.key=k∧mfind k ents=some x∧A1Rep φ F G w x e.val
 |[],[],.nil,_,i=> .inl ⟨rfl,rfl⟩
 |en::ents,m::es,.cons h1 h2,ha,i=>by
  simp only[allK,List.all_cons,Bool.and_eq_true]at ha
  have hm:keyK kd m.key=true:=by rw[h1.1];exact ha.1
  obtain⟨r,hr,hiff⟩:=sameNow_of_keys (hd _ hk) (hd _ hm)
  have he:=keyEq_iff hk ha.1
  cases r with
  |true=>
   have hkm:=hiff.1 rfl
   refine .inr ⟨0,m,en.2,by simp[Instr.findNow,hr],rfl,hkm.symm,?_,h1.2⟩
   rw[mfind,if_pos (he.2 (by rw[←h1.1];exact hkm))]
  |false=>
   have hne:¬keyEq k en.1=true:=fun c=>by
    have:=hiff.2 (by rw[h1.1];exact he.1 c)
    cases this
   rcases ents_find hk hd h2 ha.2 (i+1)with⟨q1,q2⟩|⟨j,e,x,q1,q2,q3,q4,q5⟩
   ·exact .inl ⟨by simp[Instr.findNow,hr,q1],by rw[mfind,if_neg hne,q2]⟩
   ·exact .inr ⟨j+1,e,x,by simp[Instr.findNow,hr,q1];omega,by simpa using q2,q3,by rw[mfind,if_neg hne,q4],q5⟩
theorem stamped_push{es:Array MapEntry}{clock:Nat}(h:MapKept.Stamped es clock){k v:Value}(hk:∀x∈es.toList,x.key≠k):MapKept.Stamped (es.push {key:=k,val:=v,born:=clock}) (clock+1):=by
 refine⟨fun x hx=>?_,?_,?_⟩
 ·simp only[Array.toList_push,List.mem_append,List.mem_singleton]at hx
  rcases hx with hx|rfl
  ·have:=h.1 x hx;omega
  ·show clock<clock+1;omega
 ·simp only[Array.toList_push,List.map_append,List.map_cons,List.map_nil]
  refine List.nodup_append.2 ⟨h.2.1,by simp,fun a ha b hb=>?_⟩
  obtain⟨x,hx,rfl⟩:=List.mem_map.1 ha
  have:=h.1 x hx
  simp only[List.mem_singleton]at hb
  omega
 ·simp only[Array.toList_push,List.map_append,List.map_cons,List.map_nil]
  refine List.nodup_append.2 ⟨h.2.2,by simp,fun a ha b hb=>?_⟩
  obtain⟨x,hx,rfl⟩:=List.mem_map.1 ha
  simp only[List.mem_singleton]at hb
  rw[hb];exact hk x hx
theorem map_modify_same{α β:Type}(f:α→β)(g:α→α):∀(l:List α) (j:Nat),(∀e,l[j]? =some e→f (g e)=f e)→(l.modify j g).map f=l.map f
 |[],j,_=>by cases j<;>simp
 |x::l,0,h=>by have:=h x rfl;simp[this]
 |x::l,j+1,h=>by have:=map_modify_same f g l j fun e he=>h e (by simpa using he);simp[this]
theorem stamped_modify{es:Array MapEntry}{clock:Nat}(h:MapKept.Stamped es clock){j:Nat}{e:MapEntry}{k v:Value}(he:es.toList[j]? =some e)(hk:e.key=k):MapKept.Stamped (es.modify j fun e=>{e with key:=k,val:=v}) clock:=by
 have hb:=map_modify_same (fun x:MapEntry=>x.born) (fun e=>{e with key:=k,val:=v}) es.toList j fun e _=>rfl
 have hk2:=map_modify_same (fun x:MapEntry=>x.key) (fun e=>{e with key:=k,val:=v}) es.toList j fun e' he'=>by rw[he]at he';cases he';exact hk.symm
 refine⟨fun x hx=>?_,?_,?_⟩
 ·have:x.born∈((es.modify j fun e=>{e with key:=k,val:=v}).toList.map fun x:MapEntry=>x.born):=List.mem_map.2 ⟨x,hx,rfl⟩
  rw[Array.toList_modify,hb]at this
  obtain⟨y,hy,e'⟩:=List.mem_map.1 this
  rw[←e'];exact h.1 y hy
 ·rw[Array.toList_modify,hb];exact h.2.1
 ·rw[Array.toList_modify,hk2];exact h.2.2
theorem ents_put{G:Heap}{kd:Nat}{k v:Value}{x:A1}(hk:keyK kd k=true){d:TypeDesc}(hd:∀v,keyK kd v=true→IsKey d v)(hv:A1Rep φ F G w x v):∀{ents:List (Value×A1)} {es:List MapEntry},EntsRep φ F G w ents es→allK kd ents=true→∀(i c:Nat),
 (Instr.findNow d k es i=some none∧EntsRep φ F G w (mput k x ents) (es++[{key:=k,val:=v,born:=c}])∧∀x∈es,x.key≠k)∨∃(j:Nat) (e:MapEntry),Instr.findNow d k es i=some (some (i+j,e.val))∧es[j]? =some e∧e.key=k∧EntsRep φ F G w (mput k x ents) (es.modify j fun e=>{e with key:=k,val:=v})
 |[],[],.nil,_,i,c=> .inl ⟨rfl,.cons ⟨rfl,hv⟩ .nil,fun x hx=>by cases hx⟩
 |en::ents,m::es,.cons h1 h2,ha,i,c=>by
  simp only[allK,List.all_cons,Bool.and_eq_true]at ha
  have hm:keyK kd m.key=true:=by rw[h1.1];exact ha.1
  obtain⟨r,hr,hiff⟩:=sameNow_of_keys (hd _ hk) (hd _ hm)
  have he:=keyEq_iff hk ha.1
  cases r with
  |true=>
   have hkm:=hiff.1 rfl
   refine .inr ⟨0,m,by simp[Instr.findNow,hr],rfl,hkm.symm,?_⟩
   rw[mput,if_pos (he.2 (by rw[←h1.1];exact hkm))]
   exact .cons ⟨rfl,hv⟩ h2
  |false=>
   have hne:¬keyEq k en.1=true:=fun c=>by
    have:=hiff.2 (by rw[h1.1];exact he.1 c)
    cases this
   rw[mput,if_neg hne]
   rcases ents_put hk hd hv h2 ha.2 (i+1) c with⟨q1,q2,q5⟩|⟨j,e,q1,q2,q3,q4⟩
   ·exact .inl ⟨by simp[Instr.findNow,hr,q1],.cons h1 q2,fun x hx=>by
     rcases List.mem_cons.1 hx with rfl|hx
     ·exact fun c=>by have:=hiff.2 c.symm;cases this
     ·exact q5 x hx⟩
   ·exact .inr ⟨j+1,e,by simp[Instr.findNow,hr,q1];omega,by simpa using q2,q3,.cons h1 q4⟩
theorem snd_istr(h:SRel n φ F s a w){sT dT:TypeId}{x:Operand}(ho:o.op= .convert sT dT x){k0:IntKind}(hs:P.underlying sT=some (.int k0))(hd:P.underlying dT=some .string){x':O}(hx:cO x=some x')
 (hk:op0 (.istr x') s K):OpRun P o a φ F s w K:=by
 simp only[op0]at hk
 split at hk
 ·rename_i k' b hx'
  have h1:=evV_rep h hx hx'
  refine OpRun.pure_ h ?_ hk (DRep.v _ rfl)
  refine exec_v (x:=convert sT dT (a.eval x)) (by simp only[execOp,ho]) ?_
  simp only[convert,run_bind,run_underlying hs,run_underlying hd,h1]
  rfl
 ·exact hk.elim
theorem snd_mkmap(h:SRel n φ F s a w){t:TypeId}(ho:o.op= .makeMap t none)(hk:op0 .mkmap s K):OpRun P o a φ F s w K:=by
 simp only[op0]at hk
 refine⟨.map (some w.heap.size),{w with heap:=w.heap.push (.map #[] 0)},.inl ?_,?_⟩
 ·refine exec_v (x:=Instr.makeMap t none) (by simp only[execOp,ho,Option.map_none]) ?_
  simp only[Instr.makeMap,run_bind,run_pure,run_newObj]
 ·refine OpRes.change s.heap.length (some (w.heap.size,0)) (.map []) hk h.rel (by simp) ⟨rfl,rfl⟩ ?_ ?_ ?_ ?_ ?_
  ·exact fun b hb _=>heap_push _ _ _ hb
  ·intro b o hx;cases hx;exact .inr (Nat.le_refl _)
  ·rw[hp_len];trivial
  ·intro stp
   exact⟨w.heap.size,#[],0,upd_same _ _ _,heap_push_self _ _,⟨fun x hx=>(by cases hx),.nil,.nil⟩,.nil⟩
  ·intro stp av hav
   cases hav
   exact⟨[],w.heap.size,upd_same _ _ _,upd_same _ _ _,rfl⟩
theorem snd_mget(h:SRel n φ F s a w){t kt et:TypeId}{m k:Operand}{ok:Bool}(ho:o.op= .lookup t m k ok)(hu:P.underlying t=some (.map kt et)){kd:Nat}(hkd:kdT P kt=some kd)
 {z:Value} (hz:(P.info? et).bind (·.zero)=some z) {zc:A1} (hzc:cVal z=some zc) {m' k':O} (hm:cO m=some m') (hkk:cO k=some k')
 (hk:op0 (.mget kd ok zc m' k') s K):OpRun P o a φ F s w K:=by
 simp only[op0]at hk
 split at hk
 ·rename_i id hm'
  obtain⟨ents,b,hG,hφ,he⟩:=evC_rep h hm hm'
  rw[hG]at hk
  simp only[]at hk
  split at hk
  ·rename_i kv hkv
   obtain⟨hk1,hk2,hk⟩:=hk
   have hkv':=evV_rep h hkk hkv
   obtain⟨b',es,clock,h1,h2,h4,h3⟩:=h.rel.blk _ _ hG
   rw[hφ]at h1;simp only[Option.some.injEq,Prod.mk.injEq]at h1
   obtain⟨rfl,_⟩:=h1
   obtain⟨d,hd,hdk⟩:=kdT_key hkd
   have hzr:=cVal_rep hzc φ F (hp s.heap) w
   have key:∃v,A1Rep φ F (hp s.heap) w ((mfind kv ents).getD zc) v∧(Instr.lookup t (a.eval m) (a.eval k) ok).run P w= .ok (if ok then .tuple #[v,.bool (mfind kv ents).isSome]else v) w:=by
    rcases ents_find hk1 hdk h3 hk2 0 with⟨q1,q2⟩|⟨j,e,x,q1,q2,q3,q4,q5⟩
    ·refine⟨z,by rw[q2];exact hzr,?_⟩
     rw[q2]
     simp only[Instr.lookup,he,hkv',run_bind,run_underlying hu,run_pure,run_getObj_map h2,run_checkKey hd (hdk _ hk1),run_findKey hd q1,run_zeroValue hz]
     cases ok<;>rfl
    ·refine⟨e.val,by rw[q4];exact q5,?_⟩
     rw[q4]
     simp only[Instr.lookup,he,hkv',run_bind,run_underlying hu,run_pure,run_getObj_map h2,run_checkKey hd (hdk _ hk1),run_findKey hd q1]
     cases ok<;>rfl
   obtain⟨v,hv,hrun⟩:=key
   have hx:=exec_v (ρ:=a.eval) (o:=o) (x:=Instr.lookup t (a.eval m) (a.eval k) ok) (by simp only[execOp,ho]) hrun
   cases ok with
   |true=>
    refine OpRun.pure_ h hx hk ?_
    exact⟨[v,.bool (mfind kv ents).isSome],rfl,.cons hv (.cons (DRep.v _ rfl) .nil)⟩
   |false=>exact OpRun.pure_ h hx hk hv
  ·exact hk.elim
 ·exact hk.elim
theorem snd_mset(h:SRel n φ F s a w){t kt et:TypeId}{m k v:Operand}(ho:o.op= .mapUpdate t m k v)(hu:P.underlying t=some (.map kt et)){kd:Nat}(hkd:kdT P kt=some kd)
 {m' k' v':O} (hm:cO m=some m') (hkk:cO k=some k') (hvv:cO v=some v')
 (hk:op0 (.mset kd m' k' v') s K):OpRun P o a φ F s w K:=by
 simp only[op0]at hk
 split at hk
 ·rename_i id hm'
  obtain⟨ents,b,hG,hφ,he⟩:=evC_rep h hm hm'
  rw[hG]at hk
  simp only[]at hk
  split at hk
  ·rename_i kv hkv
   split at hk
   ·rename_i x hx
    obtain⟨hk1,hk2,hk3,hk⟩:=hk
    have hkv':=evV_rep h hkk hkv
    have hxr:A1Rep φ F (hp s.heap) w x (a.eval v):=cO_ev h hvv hx
    obtain⟨b',es,clock,h1,h2,h4,h3⟩:=h.rel.blk _ _ hG
    rw[hφ]at h1;simp only[Option.some.injEq,Prod.mk.injEq]at h1
    obtain⟨rfl,_⟩:=h1
    obtain⟨d,hd,hdk⟩:=kdT_key hkd
    have key:∃es' clock',MapKept.Stamped es' clock'∧EntsRep φ F (hp s.heap) w (mput kv x ents) es'.toList∧(Instr.mapUpdate t (a.eval m) (a.eval k) (a.eval v)).run P w= .ok () {w with heap:=w.heap.setIfInBounds b (.map es' clock')}:=by
     rcases ents_put hk1 hdk hxr h3 hk2 0 clock with⟨q1,q2,q5⟩|⟨j,e,q1,q2,q3,q4⟩
     ·refine⟨es.push {key:=kv,val:=a.eval v,born:=clock},clock+1,stamped_push h4 q5,by simpa using q2,?_⟩
      simp only[Instr.mapUpdate,he,hkv',run_bind,run_underlying hu,run_pure,run_getObj_map h2,run_checkKey hd (hdk _ hk1),run_findKey hd q1,run_setObj_map _ h2]
     ·refine⟨es.modify j fun e=>{e with key:=kv,val:=a.eval v},clock,stamped_modify h4 (by simpa using q2) q3,by rw[Array.toList_modify];exact q4,?_⟩
      have hjk:((es[j]?).map (·.key)).getD kv=kv:=by
       have:es[j]? =some e:=by simpa using q2
       rw[this,←q3];rfl
      simp only[Instr.mapUpdate,he,hkv',run_bind,run_underlying hu,run_pure,run_getObj_map h2,run_checkKey hd (hdk _ hk1),run_findKey hd q1,Nat.zero_add,hjk,run_keyThatStays (hdk _ hk1),run_setObj_map _ h2]
    obtain⟨es',clock',hst,hes,hrun⟩:=key
    have hlt:b<w.heap.size:=h.rel.lt hφ
    have hs:=heap_set (o':=Obj.map es' clock') h2
    refine⟨undef,_,.inr ⟨exec_u (x:=Instr.mapUpdate t (a.eval m) (a.eval k) (a.eval v)) (by simp only[execOp,ho]) hrun,rfl⟩,?_⟩
    have hup:upd φ id (some (b,0))=φ:=by funext j;by_cases hj:j=id<;>simp[upd,hj,hφ]
    refine OpRes.change id (some (b,0)) (.map (mput kv x ents)) hk h.rel (by simp) ⟨rfl,rfl⟩ ?_ ?_ ?_ ?_ ?_
    ·intro b2 _ hn;exact hs.2 b2 (fun he=>hn 0 (he▸hφ))
    ·intro b2 o2 hx2;cases hx2;exact .inl ⟨0,hφ⟩
    ·rw[hG];simp only[BStp];rw[hup]
    ·intro stp
     exact⟨b,es',clock',upd_same _ _ _,hs.1,hst,All2.imp (fun _ _ hx=>⟨hx.1,hx.2.mono stp⟩) hes⟩
    ·intro _ av hav;cases hav
   ·exact hk.elim
  ·exact hk.elim
 ·exact hk.elim
theorem map_erase{α β:Type}(f:α→β):∀(l:List α) (j:Nat),(l.eraseIdx j).map f=(l.map f).eraseIdx j
 |[],j=>by simp
 |x::l,0=>by simp
 |x::l,j+1=>by simp[map_erase f l j]
theorem stamped_erase{es:Array MapEntry}{clock:Nat}(h:MapKept.Stamped es clock)(j:Nat):MapKept.Stamped (es.eraseIdxIfInBounds j) clock:=by
 have he:(es.eraseIdxIfInBounds j).toList=es.toList.eraseIdx j:=by
  unfold Array.eraseIdxIfInBounds
  split
  ·simp
  ·rename_i hj;rw[List.eraseIdx_of_length_le (by rw[Array.length_toList];omega)]
 refine⟨fun x hx=>?_,?_,?_⟩
 ·rw[he]at hx;exact h.1 x (List.mem_of_mem_eraseIdx hx)
 ·rw[he,map_erase];exact h.2.1.sublist (List.eraseIdx_sublist _ _)
 ·rw[he,map_erase];exact h.2.2.sublist (List.eraseIdx_sublist _ _)
theorem ents_del{G:Heap}{kd:Nat}{k:Value}(hk:keyK kd k=true){d:TypeDesc}(hd:∀v,keyK kd v=true→IsKey d v):∀{ents:List (Value×A1)} {es:List MapEntry},EntsRep φ F G w ents es→allK kd ents=true→∀(i:Nat),
 (Instr.findNow d k es i=some none∧mdelE k ents=ents)∨∃(j:Nat) (v:Value),Instr.findNow d k es i=some (some (i+j,v))∧EntsRep φ F G w (mdelE k ents) (es.eraseIdx j)
 |[],[],.nil,_,i=> .inl ⟨rfl,rfl⟩
 |en::ents,m::es,.cons h1 h2,ha,i=>by
  simp only[allK,List.all_cons,Bool.and_eq_true]at ha
  have hm:keyK kd m.key=true:=by rw[h1.1];exact ha.1
  obtain⟨r,hr,hiff⟩:=sameNow_of_keys (hd _ hk) (hd _ hm)
  have he:=keyEq_iff hk ha.1
  cases r with
  |true=>
   have hkm:=hiff.1 rfl
   refine .inr ⟨0,m.val,by simp[Instr.findNow,hr],?_⟩
   rw[mdelE,if_pos (he.2 (by rw[←h1.1];exact hkm))]
   exact h2
  |false=>
   have hne:¬keyEq k en.1=true:=fun c=>by
    have:=hiff.2 (by rw[h1.1];exact he.1 c)
    cases this
   rw[mdelE,if_neg hne]
   rcases ents_del hk hd h2 ha.2 (i+1)with⟨q1,q2⟩|⟨j,v,q1,q2⟩
   ·exact .inl ⟨by simp[Instr.findNow,hr,q1],by rw[q2]⟩
   ·exact .inr ⟨j+1,v,by simp[Instr.findNow,hr,q1];omega,.cons h1 q2⟩
theorem snd_mlen(h:SRel n φ F s a w){x:Operand}{t kt et:TypeId}{args:Array Operand}{ts:Array TypeId}(ho:o.op= .call {callee:= .builtin .len,args,argTypes:=ts})(hargs:args.toList=[x])(hts:ts.toList=[t])
 (hu:P.underlying t=some (.map kt et)) {x':O} (hx:cO x=some x') (hk:op0 (.mlen x') s K):OpRun P o a φ F s w K:=by
 obtain rfl:=one_arg hargs
 obtain rfl:=one_arg hts
 simp only[op0]at hk
 split at hk
 ·rename_i id hm'
  obtain⟨ents,b,hG,hφ,he⟩:=evC_rep h hx hm'
  rw[hG]at hk
  simp only[]at hk
  obtain⟨b',es,clock,h1,h2,h4,h3⟩:=h.rel.blk _ _ hG
  rw[hφ]at h1;simp only[Option.some.injEq,Prod.mk.injEq]at h1
  obtain⟨rfl,_⟩:=h1
  have hl:es.size=ents.length:=by rw[All2.length h3];simp
  refine OpRun.pure_ (v:= .int .i64 ents.length) h ?_ hk (DRep.v _ rfl)
  simp[execOp,ho,resolve,run_bind,run_pure,invoke,builtin,Builtin.len_,run_underlying hu,he,run_getObj_map h2,goInt,hl]
 ·exact hk.elim
theorem snd_mdel(h:SRel n φ F s a w){m k:Operand}{t kt et:TypeId}{r:List TypeId}{args:Array Operand}{ts:Array TypeId}(ho:o.op= .call {callee:= .builtin .delete,args,argTypes:=ts})(hargs:args.toList=[m,k])(hts:ts.toList=t::r)
 (hu:P.underlying t=some (.map kt et)) {kd:Nat} (hkd:kdT P kt=some kd)
 {m' k':O} (hm:cO m=some m') (hkk:cO k=some k')
 (hk:op0 (.mdel kd m' k') s K):OpRun P o a φ F s w K:=by
 obtain rfl:=two_args hargs
 obtain rfl:ts=(t::r).toArray:=by rw[←hts]
 simp only[op0]at hk
 split at hk
 ·rename_i id hm'
  obtain⟨ents,b,hG,hφ,he⟩:=evC_rep h hm hm'
  rw[hG]at hk
  simp only[]at hk
  split at hk
  ·rename_i kv hkv
   obtain⟨hk1,hk2,hk⟩:=hk
   have hkv':=evV_rep h hkk hkv
   obtain⟨b',es,clock,h1,h2,h4,h3⟩:=h.rel.blk _ _ hG
   rw[hφ]at h1;simp only[Option.some.injEq,Prod.mk.injEq]at h1
   obtain⟨rfl,_⟩:=h1
   obtain⟨d,hd,hdk⟩:=kdT_key hkd
   have key:∃es',MapKept.Stamped es' clock∧EntsRep φ F (hp s.heap) w (mdelE kv ents) es'.toList∧(Builtin.delete_ (t::r).toArray o.type #[a.eval m,a.eval k]).run P w= .ok (.tuple #[]) {w with heap:=w.heap.setIfInBounds b (.map es' clock)}:=by
    rcases ents_del hk1 hdk h3 hk2 0 with⟨q1,q2⟩|⟨j,v,q1,q2⟩
    ·refine⟨es,h4,by rw[q2];exact h3,?_⟩
     simp[Builtin.delete_,he,hkv',run_bind,run_underlying hu,run_pure,run_getObj_map h2,run_checkKey hd (hdk _ hk1),run_findKey hd q1,run_setObj_map _ h2]
    ·refine⟨es.eraseIdxIfInBounds j,stamped_erase h4 j,?_,?_⟩
     ·have he':(es.eraseIdxIfInBounds j).toList=es.toList.eraseIdx j:=by
       unfold Array.eraseIdxIfInBounds
       split
       ·simp
       ·rename_i hj;rw[List.eraseIdx_of_length_le (by rw[Array.length_toList];omega)]
      rw[he'];exact q2
     ·simp[Builtin.delete_,he,hkv',run_bind,run_underlying hu,run_pure,run_getObj_map h2,run_checkKey hd (hdk _ hk1),run_findKey hd q1,run_setObj_map _ h2]
   obtain⟨es',hst,hes,hrun⟩:=key
   have hlt:b<w.heap.size:=h.rel.lt hφ
   have hs:=heap_set (o':=Obj.map es' clock) h2
   refine⟨.tuple #[],_,.inl (by simp[execOp,ho,resolve,run_bind,run_pure,invoke,builtin,hrun];rfl),?_⟩
   have hup:upd φ id (some (b,0))=φ:=by funext j;by_cases hj:j=id<;>simp[upd,hj,hφ]
   refine OpRes.change id (some (b,0)) (.map (mdelE kv ents)) hk h.rel (by simp) ⟨rfl,rfl⟩ ?_ ?_ ?_ ?_ ?_
   ·intro b2 _ hn;exact hs.2 b2 (fun he=>hn 0 (he▸hφ))
   ·intro b2 o2 hx2;cases hx2;exact .inl ⟨0,hφ⟩
   ·rw[hG];simp only[BStp];rw[hup]
   ·intro stp
    exact⟨b,es',clock,upd_same _ _ _,hs.1,hst,All2.imp (fun _ _ hx=>⟨hx.1,hx.2.mono stp⟩) hes⟩
   ·intro _ av hav;cases hav;exact⟨[],rfl,.nil⟩
  ·exact hk.elim
 ·exact hk.elim
end
end Go.Fw
