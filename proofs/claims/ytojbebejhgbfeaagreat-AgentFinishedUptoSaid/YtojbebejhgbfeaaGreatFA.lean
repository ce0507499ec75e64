/- The abstract machine: values, blocks, and single operations. -/
import Derived.Calls
import Derived.Orders
import Derived.MapKept
import Derived.Laws.Strings
import Derived.Laws.Tables
import Derived.Laws.StructEq
import Derived.ChangeKeysEq
open List renaming getElem?_drop->XC,getElem?_take->XD,getElem?_eq_some_iff->XF,length_take->XG,length_append->XH,length_cons->XI,getElem?_append->XJ,set_eq_take_append_cons_drop->XK,drop_of_length_le->XL,map_cons->XM,mem_of_getElem?->XN,size_toArray->XO,flatMap_cons->XP,take->XQ,getElem?_cons_succ->XR,take_of_length_le->XS,getElem?_toArray->XU,all_cons->XV,mem_singleton->XW,mem_map->XX,append_assoc->XY,take_append->XZ,length_drop->X0,drop_append->X1,nil_append->X2,take_zero->X3,eraseIdx_of_length_le->X4,drop_drop->X5,getElem?_cons_zero->X6,map_nil->X7,eraseIdx_sublist->X8,mem_of_mem_take->X9,mem_of_mem_drop->Ya,take_succ_cons->Yb,drop_succ_cons->Yc,zip_cons_cons->Yd,nodup_append->Ye,getElem?_map->Yf,range'_succ->Yg,cons_append->Yh,map_append->Yi,length_map->Yj,foldl_cons->Yk,mem_cons->Yl,range'->Ym,range->Yn
open Go renaming Operand->Yo,TypeId->Yp,execOp->Yq,World->Yr,Program->Ys,MapEntry->Yt,eqGuard->Yu,IntKind->Yv,binOp->Yw,Field->Yx,loadCellsFrom->Yy,TypeDesc->Yz,FuncId->YA,run_eqGuard_agg->YB,run_build->YC,run_neq_struct->YD,run_eql_struct->YE,TypeInfo->YF,Oper->YG,Addr->YH,sizeOf->YI,BinOp->YJ,storeCells->YK
open Option renaming some->YL,none->YM,map_eq_some_iff->YN,bind_eq_some_iff->YO,map_some->YP,map_none->YQ,isSome_iff_exists->YR
open Go.Instr renaming findNow->YS,sliceBounds->YT,fill->YU,sliceAt->YV,mapUpdate->YW,sureAddr->YX,storeAt->YY,lookup->YZ,sliceBound->Y0,buildSlice->Y1,makeFunc->Y2,makeMap->Y3,indexAt->Y4,fieldAt->Y5,extract->Y6,loadAt->Y7,slice->Y8,index->Y9,field->Za,build->Zb
open Nat renaming le_refl->Zc,add_mul->Zd,le_trans->Ze,add_assoc->Zf,mul_le_mul_right->Zg,add_zero->Zh,lt_of_lt_of_le->Zi,succ_mul->Zj,zero_add->Zk
open Option.some renaming injEq->Zl
open Bool renaming true->Zm,false->Zn,and_eq_true->Zo,false_eq_true->Zp,not_eq_true->Zq,eq_iff_iff->Zr,false_or->Zs
open Array renaming length_toList->Zt,toList_modify->Zu,ext'->Zv,toArray_toList->Zw,toList_push->Zx,eraseIdxIfInBounds->Zy,getElem?_eq_none->Zz,getElem?_modify->ZA
open Prod.mk renaming injEq->ZB
open Go.Sem renaming bind->ZC,run->ZD
open Go.Op renaming eqFields->ZE,equalIn->ZF,bytesLess->ZG,shift->ZH,equal->ZI,stringOp->ZJ,maxDepth->ZK,eqItems->ZL,unary->ZM
open Go.MapKept renaming Stamped->ZN
open Go.Builtin renaming delete_->ZO,min2->ZP,len_->ZQ,min_->ZR,max_->ZS,max2->ZT,cap_->ZU
open BitVec renaming ofInt->ZV
open Go.World renaming setCell->ZW,cell?->ZX
set_option linter.unusedVariables false
set_option linter.unusedSimpArgs false
set_option linter.unusedSectionVars false
namespace Go.Fw
inductive D where
 |v (x:Value)
 |sl (rows:List (List D))
 |w (x:Value)
 deriving Inhabited
inductive C where
 |d (x:D)
 |own (id ep off len:Nat) (cap:Option Nat)
 |pt (id off:Nat)
 |pe (id ep row off:Nat)
 |fp (cells:List D)
 |fn (f:YA) (gV:List (Nat×Nat))
 |mref (id:Nat)
 deriving Inhabited
inductive bX{α β:Type}(R:α→β→Prop):List α→List β→Prop
 |nil:bX R [] []
 |cons {a b l m}:R a b→bX R l m→bX R (a::l) (b::m)
theorem bX.imp{α β:Type}{R S:α→β→Prop}(h:∀a b,R a b→S a b){l:List α}{m:List β}(hl:bX R l m):bX S l m:=by
 induction hl with
 |nil=>exact .nil
 |cons a _ ih=>exact .cons (h _ _ a) ih
theorem bX.length{α β:Type}{R:α→β→Prop}{l:List α}{m:List β}(hl:bX R l m):l.length=m.length:=by
 induction hl with
 |nil=>rfl
 |cons a _ ih=>simp[ih]
theorem bX.get{α β:Type}{R:α→β→Prop}{l:List α}{m:List β}(hl:bX R l m):∀{i:Nat} {a},l[i]? =YL a→∃b,m[i]? =YL b∧R a b:=by
 induction hl with
 |nil=>intro i a h;simp at h
 |cons a _ ih=>
  intro i x h
  cases i with
  |zero=>simp at h;subst h;exact⟨_,rfl,a⟩
  |succ i=>simp only[XR]at h⊢;exact ih h
theorem bX.of{α β:Type}{R:α→β→Prop}:∀{l:List α} {m:List β},l.length=m.length→(∀(i:Nat) a b,l[i]? =YL a→m[i]? =YL b→R a b)→bX R l m
 |[],[],_,_=> .nil
 |a::l,b::m,hl,h=> .cons (h 0 a b rfl rfl) (bX.of (by simpa using hl) fun i x y hx hy=>h (i+1) x y (by simpa using hx) (by simpa using hy))
theorem bX.append{α β:Type}{R:α→β→Prop}{l l':List α}{m m':List β}(h:bX R l m)(h':bX R l' m'):bX R (l++l') (m++m'):=by
 induction h with
 |nil=>exact h'
 |cons a _ ih=>exact .cons a ih
theorem bX.take{α β:Type}{R:α→β→Prop}{l:List α}{m:List β}(h:bX R l m):∀n,bX R (l.take n) (m.take n):=by
 induction h with
 |nil=>intro n;simp;exact .nil
 |cons a _ ih=>intro n;cases n with
  |zero=>exact .nil
  |succ n=>exact .cons a (ih n)
theorem bX.drop{α β:Type}{R:α→β→Prop}{l:List α}{m:List β}(h:bX R l m):∀n,bX R (l.drop n) (m.drop n):=by
 induction h with
 |nil=>intro n;simp;exact .nil
 |cons a t ih=>intro n;cases n with
  |zero=>exact .cons a t
  |succ n=>exact ih n
inductive A1 where
 |c (x:C)
 |agg (cs:List C)
 deriving Inhabited
inductive AV where
 |one (a:A1)
 |tup (l:List A1)
 deriving Inhabited
inductive bw where
 |box (cells:List C)
 |arr (ep sz:Nat) (rows:List (List D))
 |map (ents:List (Value×A1))
 deriving Inhabited
abbrev eg:=Nat→Option bw
abbrev gP:=Nat→Option (Nat×Nat)
def dx:Value→Bool
 | .agg _| .tuple _=>Zn
 |_=>Zm
inductive dh(w:Yr)(F:Nat→Prop):D→Value→Prop
 |v (x:Value):dx x=Zm→dh w F (.v x) x
 |raw (x:Value):dx x=Zm→dh w F (.w x) x
 |nil (A:Option YH) (cap:Nat):dh w F (.sl []) (.slice A 0 cap)
 |sl (rows:List (List D)) (b o sz cap:Nat) (u:Nat→Nat→Value):F b→rows.length≤cap→
   (∀row∈rows,row.length=sz)→
   (∀i row,rows[i]? =YL row→∀j d,row[j]? =YL d→w.cell? ⟨b,o+i*sz+j,YM⟩=YL (u i j))→
   (∀i row,rows[i]? =YL row→∀j d,row[j]? =YL d→dh w F d (u i j))→
   dh w F (.sl rows) (.slice (YL ⟨b,o,YM⟩) rows.length cap)
theorem dh.dx{w F d v}(h:dh w F d v):Fw.dx v=Zm:=by
 cases h<;>simp_all [Fw.dx]
theorem World.cell?_congr{w w':Yr}{a:YH}(h:w'.heap[a.block]? =w.heap[a.block]?):w'.cell? a=w.cell? a:=by
 simp[ZX,h]
theorem dh.mono{w w' F F'}(h:∀b,F b→F' b∧w'.heap[b]? =w.heap[b]?){d v}(hd:dh w F d v):dh w' F' d v:=by
 induction hd with
 |v x hx=>exact .v x hx
 |raw x hx=>exact .raw x hx
 |nil A cap=>exact .nil A cap
 |sl rows b o sz cap u hF hc hs hcell _ ih=>
  refine .sl rows b o sz cap u (h b hF).1 hc hs ?_ ih
  intro i row hi j d hj
  rw[World.cell?_congr (h b hF).2]
  exact hcell i row hi j d hj
def bsize(w:Yr)(b:Nat):Option Nat:=
 match w.heap[b]? with
 |some (.cells c _ _)=>YL c.size
 |_=>YM
def dA(φ:gP)(F:Nat→Prop)(G:eg)(w:Yr):C→Value→Prop
 | .d x,v=>dh w F x v
 | .own id ep off len cap,v=>∃e sz rows,G id=YL (.arr e sz rows)∧ep≤e∧
     ∃A l k,v= .slice A l k∧(ep=e→l=len∧len≤k∧(∀c,cap=YL c→c=k)∧(cap=YM→off+len≤rows.length)∧
      (k=0∨∃b o n,φ id=YL (b,o)∧A=YL ⟨b,o+off*sz,YM⟩∧bsize w b=YL n∧o+off*sz+k*sz≤n))
 | .pt id off,v=>∃cells b o,G id=YL (.box cells)∧φ id=YL (b,o)∧v= .pointer (YL ⟨b,o+off,YM⟩)
 | .pe id ep row off,v=>∃e sz rows,G id=YL (.arr e sz rows)∧ep≤e∧
     ∃A,v= .pointer A∧(ep=e→∃b o,φ id=YL (b,o)∧row<rows.length∧A=YL ⟨b,o+row*sz+off,YM⟩)
 | .fp cells,v=>∃b o,F b∧v= .pointer (YL ⟨b,o,YM⟩)∧
     ∀(j:Nat) d,cells[j]? =YL d→∃u,w.cell? ⟨b,o+j,YM⟩=YL u∧dh w F d u
 | .fn f gV,v=>∃us:List Value,v= .func (.func f) #[] us.toArray∧us.length=gV.length∧
     ∀(j:Nat) c,gV[j]? =YL c→∃cells b o,G c.1=YL (.box cells)∧φ c.1=YL (b,o)∧us[j]? =YL (.pointer (YL ⟨b,o+c.2,YM⟩))
 | .mref id,v=>∃ents b,G id=YL (.map ents)∧φ id=YL (b,0)∧v= .map (YL b)
theorem dA.dx{φ F G w c v}(h:dA φ F G w c v):Fw.dx v=Zm:=by
 cases c with
 |d x=>exact dh.dx h
 |own id ep off len cap=>obtain⟨_,_,_,_,_,_,_,_,rfl,_⟩:=h;rfl
 |pt id off=>obtain⟨_,_,_,_,_,rfl⟩:=h;rfl
 |pe id ep row off=>obtain⟨_,_,_,_,_,_,rfl,_⟩:=h;rfl
 |fp cells=>obtain⟨_,_,_,rfl,_⟩:=h;rfl
 |fn f gV=>obtain⟨_,rfl,_⟩:=h;rfl
 |mref id=>obtain⟨_,_,_,_,rfl⟩:=h;rfl
def eD(φ:gP)(F:Nat→Prop)(G:eg)(w:Yr)(cs:List C)(vs:List Value):Prop:=
 bX (dA φ F G w) cs vs
def cm(φ:gP)(F:Nat→Prop)(G:eg)(w:Yr):A1→Value→Prop
 | .c x,v=>dA φ F G w x v
 | .agg cs,v=>∃vs:List Value,v= .agg vs.toArray∧eD φ F G w cs vs
def ec(φ:gP)(F:Nat→Prop)(G:eg)(w:Yr):AV→Value→Prop
 | .one a,v=>cm φ F G w a v
 | .tup l,v=>∃vs:List Value,v= .tuple vs.toArray∧bX (cm φ F G w) l vs
def kj(φ:gP)(F:Nat→Prop)(G:eg)(w:Yr)(id:Nat):bw→Prop
 | .box cells=>∃b o cs T,φ id=YL (b,o)∧w.heap[b]? =YL (.cells cs T (0,0))∧o+cells.length≤cs.size∧eD φ F G w cells ((cs.toList.drop o).take cells.length)
 | .arr _ sz rows=>(φ id=YM∧rows=[])∨∃b o cs T,φ id=YL (b,o)∧w.heap[b]? =YL (.cells cs T (0,0))∧
     o+rows.length*sz≤cs.size∧(∀row∈rows,row.length=sz)∧
     ∀(i:Nat) row,rows[i]? =YL row→∀(j:Nat) d,row[j]? =YL d→∃u,cs[o+i*sz+j]? =YL u∧dh w F d u
 | .map ents=>∃b es clock,φ id=YL (b,0)∧w.heap[b]? =YL (.map es clock)∧ZN es clock∧
     bX (fun(e:Value×A1) (m:Yt)=>m.key=e.1∧cm φ F G w e.2 m.val) ents es.toList
structure Rel(φ:gP)(F:Nat→Prop)(G:eg)(w:Yr):Prop where
 bZ:∀id bZ,G id=YL bZ→kj φ F G w id bZ
 rT:∀id x,φ id=YL x→(G id).isSome=Zm
 inj:∀i j b o b' o',φ i=YL (b,o)→φ j=YL (b',o')→b=b'→i=j
 fY:∀b,F b→b<w.heap.size∧∀id b' o,φ id=YL (b',o)→b'≠b
theorem Rel.live{φ F G w}(h:Rel φ F G w){id b o}(hi:φ id=YL (b,o)):∃x,w.heap[b]? =YL x:=by
 have hd:=h.rT id _ hi
 cases hg:G id with
 |none=>simp[hg]at hd
 |some bZ=>
  have hb:=h.bZ id bZ hg
  cases bZ with
  |box cells=>
   obtain⟨b',o',cs,T,h1,h2,_⟩:=hb
   rw[hi]at h1;simp only[Zl,ZB]at h1
   exact⟨_,h1.1▸h2⟩
  |arr e sz rows=>
   rcases hb with⟨h1,_⟩|⟨b',o',cs,T,h1,h2,_⟩
   ·rw[hi]at h1;cases h1
   ·rw[hi]at h1;simp only[Zl,ZB]at h1
    exact⟨_,h1.1▸h2⟩
  |map ents=>
   obtain⟨b',es,clock,h1,h2,_⟩:=hb
   rw[hi]at h1;simp only[Zl,ZB]at h1
   exact⟨_,h1.1▸h2⟩
theorem Rel.lt{φ F G w}(h:Rel φ F G w){id b o}(hi:φ id=YL (b,o)):b<w.heap.size:=by
 obtain⟨x,hb⟩:=h.live hi
 by_cases hlt:b<w.heap.size
 ·exact hlt
 ·rw[Zz (by omega)]at hb;cases hb
def nz(w w':Yr)(b o n:Nat):Prop:=bsize w' b=bsize w b∧∀i,(i<o∨o+n≤i)→w'.cell? ⟨b,i,YM⟩=w.cell? ⟨b,i,YM⟩
theorem nz.refl(w:Yr)(b o n:Nat):nz w w b o n:=⟨rfl,fun _ _=>rfl⟩
theorem nz.of{w w':Yr}{b:Nat}(h:w'.heap[b]? =w.heap[b]?)(o n:Nat):nz w w' b o n:=⟨by simp[bsize,h],fun _ _=>World.cell?_congr h⟩
theorem nz.trans{w w' w'':Yr}{b o n:Nat}(h:nz w w' b o n)(h':nz w' w'' b o n):nz w w'' b o n:=⟨h'.1.trans h.1,fun i hi=>(h'.2 i hi).trans (h.2 i hi)⟩
def gX(φ:gP)(w:Yr)(φ':gP)(w':Yr)(id:Nat):Option bw→Option bw→Prop
 |some (.box c),YL (.box c')=>φ' id=φ id∧c'.length=c.length∧∀b o,φ id=YL (b,o)→nz w w' b o c.length
 |some (.map _),YL (.map _)=>φ' id=φ id
 |some (.arr e sz rows),YL (.arr e' sz' rows')=>e≤e'∧(e=e'→sz'=sz∧rows.length≤rows'.length∧φ' id=φ id∧
   ∀b o,φ id=YL (b,o)→bsize w' b=bsize w b)
 |some _,_=>False
 |none,_=>True
structure ix(φ:gP)(F:Nat→Prop)(G:eg)(w:Yr)(φ':gP)(F':Nat→Prop)(G':eg)(w':Yr):Prop where
 fY:∀b,F b→F' b∧w'.heap[b]? =w.heap[b]?
 bZ:∀id,gX φ w φ' w' id (G id) (G' id)
theorem gX.refl(φ:gP)(w:Yr)(id:Nat)(x:Option bw):gX φ w φ w id x x:=by
 cases x with
 |none=>trivial
 |some b=>cases b<;>simp[gX,nz]
theorem gX.trans{φ w φ' w' φ'' w'' id x y z}(h:gX φ w φ' w' id x y)(h':gX φ' w' φ'' w'' id y z):gX φ w φ'' w'' id x z:=by
 cases x with
 |none=>trivial
 |some x=>
  cases y with
  |none=>cases x<;>exact h.elim
  |some y=>
   cases z with
   |none=>cases y<;>exact h'.elim
   |some z=>
    cases x<;>cases y<;>cases z<;>simp only[gX]at h h'⊢
    ·exact⟨h'.1.trans h.1,h'.2.1.trans h.2.1,fun b o hb=>(h.2.2 b o hb).trans (h.2.1▸h'.2.2 b o (h.1.trans hb))⟩
    rotate_left
    ·rw[h',h]
    ·refine⟨Ze h.1 h'.1,fun he=>?_⟩
     have h1:=h.1
     have h2:=h'.1
     obtain⟨a1,a2,a3,a4⟩:=h.2 (by omega)
     obtain⟨b1,b2,b3,b4⟩:=h'.2 (by omega)
     exact⟨b1.trans a1,Ze a2 b2,b3.trans a3,fun b o hb=>(b4 b o (a3▸hb)).trans (a4 b o hb)⟩
theorem ix.refl(φ F G w):ix φ F G w φ F G w:=⟨fun _ h=>⟨h,rfl⟩,fun id=>gX.refl φ w id _⟩
theorem ix.trans{φ F G w φ' F' G' w' φ'' F'' G'' w''}(h:ix φ F G w φ' F' G' w')(h':ix φ' F' G' w' φ'' F'' G'' w''):
 ix φ F G w φ'' F'' G'' w'':=
 ⟨fun b hb=>⟨(h'.fY b (h.fY b hb).1).1,(h'.fY b (h.fY b hb).1).2.trans (h.fY b hb).2⟩,fun id=>(h.bZ id).trans (h'.bZ id)⟩
theorem dA.mono{φ F G w φ' F' G' w'}(h:ix φ F G w φ' F' G' w'){c v}(hc:dA φ F G w c v):dA φ' F' G' w' c v:=by
 cases c with
 |d x=>exact dh.mono h.fY hc
 |own id ep off len cap=>
  obtain⟨e,sz,rows,hg,hle,A,l,k,rfl,hk⟩:=hc
  have hb:=h.bZ id
  rw[hg]at hb
  cases hg':G' id with
  |none=>rw[hg']at hb;exact hb.elim
  |some bZ=>
   rw[hg']at hb
   cases bZ with
   |box cells=>exact hb.elim
   |map ents=>exact hb.elim
   |arr e' sz' rows'=>
    simp only[gX]at hb
    refine⟨e',sz',rows',hg',Ze hle hb.1,A,l,k,rfl,fun he=>?_⟩
    have h1:=hb.1
    obtain⟨b1,b2,b3,b4⟩:=hb.2 (by omega)
    obtain⟨r1,r2,r3,r4,r5⟩:=hk (by omega)
    refine⟨r1,r2,r3,fun hcap=>Ze (r4 hcap) b2,?_⟩
    rcases r5 with r5|⟨b,o,n,s1,s2,s3,s4⟩
    ·exact .inl r5
    ·subst b1
     exact .inr ⟨b,o,n,b3.trans s1,s2,(b4 b o s1).trans s3,s4⟩
 |pt id off=>
  obtain⟨cells,b,o,hg,hp,rfl⟩:=hc
  have hb:=h.bZ id
  rw[hg]at hb
  cases hg':G' id with
  |none=>rw[hg']at hb;exact hb.elim
  |some bZ=>
   rw[hg']at hb
   cases bZ with
   |arr e' sz' rows'=>exact hb.elim
   |map ents=>exact hb.elim
   |box cells'=>exact⟨cells',b,o,hg',Eq.trans (And.left hb) hp,rfl⟩
 |pe id ep row off=>
  obtain⟨e,sz,rows,hg,hle,A,rfl,hk⟩:=hc
  have hb:=h.bZ id
  rw[hg]at hb
  cases hg':G' id with
  |none=>rw[hg']at hb;exact hb.elim
  |some bZ=>
   rw[hg']at hb
   cases bZ with
   |box cells=>exact hb.elim
   |map ents=>exact hb.elim
   |arr e' sz' rows'=>
    simp only[gX]at hb
    refine⟨e',sz',rows',hg',Ze hle hb.1,A,rfl,fun he=>?_⟩
    have h1:=hb.1
    obtain⟨b1,b2,b3,b4⟩:=hb.2 (by omega)
    obtain⟨b,o,s1,s2,s3⟩:=hk (by omega)
    subst b1
    exact⟨b,o,b3.trans s1,Zi s2 b2,s3⟩
 |fp cells=>
  obtain⟨b,o,hF,rfl,hk⟩:=hc
  refine⟨b,o,(h.fY b hF).1,rfl,fun j d hj=>?_⟩
  obtain⟨u,hu,hd⟩:=hk j d hj
  exact⟨u,(World.cell?_congr (h.fY b hF).2).trans hu,hd.mono h.fY⟩
 |fn f gV=>
  obtain⟨us,rfl,hl,hk⟩:=hc
  refine⟨us,rfl,hl,fun j c hj=>?_⟩
  obtain⟨cells,b,o,hg,hp,hu⟩:=hk j c hj
  have hb:=h.bZ c.1
  rw[hg]at hb
  cases hg':G' c.1 with
  |none=>rw[hg']at hb;exact hb.elim
  |some bZ=>
   rw[hg']at hb
   cases bZ with
   |arr e' sz' rows'=>exact hb.elim
   |map ents=>exact hb.elim
   |box cells'=>exact⟨cells',b,o,rfl,Eq.trans (And.left hb) hp,hu⟩
 |mref id=>
  obtain⟨ents,b,hg,hp,rfl⟩:=hc
  have hb:=h.bZ id
  rw[hg]at hb
  cases hg':G' id with
  |none=>rw[hg']at hb;exact hb.elim
  |some bZ=>
   rw[hg']at hb
   cases bZ with
   |arr e' sz' rows'=>exact hb.elim
   |box cells'=>exact hb.elim
   |map ents'=>exact⟨ents',b,hg',Eq.trans hb hp,rfl⟩
theorem eD.mono{φ F G w φ' F' G' w'}(h:ix φ F G w φ' F' G' w'){cs vs}(hc:eD φ F G w cs vs):eD φ' F' G' w' cs vs:=
 bX.imp (fun _ _=>dA.mono h) hc
theorem cm.mono{φ F G w φ' F' G' w'}(h:ix φ F G w φ' F' G' w'){c v}(hc:cm φ F G w c v):cm φ' F' G' w' c v:=by
 cases c with
 |c x=>exact dA.mono h hc
 |agg cs=>obtain⟨vs,rfl,hk⟩:=hc;exact⟨vs,rfl,hk.mono h⟩
theorem ec.mono{φ F G w φ' F' G' w'}(h:ix φ F G w φ' F' G' w'){c v}(hc:ec φ F G w c v):ec φ' F' G' w' c v:=by
 cases c with
 |one x=>exact cm.mono h hc
 |tup cs=>obtain⟨vs,rfl,hk⟩:=hc;exact⟨vs,rfl,bX.imp (fun _ _=>cm.mono h) hk⟩
def Io(w w':Yr):Prop:=w'.os=w.os∧w'.output=w.output
theorem Io.refl(w:Yr):Io w w:=⟨rfl,rfl⟩
theorem Io.push{w w':Yr}{c:Array Value}{T:Yp}(h1:w'.os=w.os)(h2:w'.output=w.output)(_h3:w'.heap=w.heap.push (.cells c T (0,0))):Io w w':=⟨h1,h2⟩
theorem Io.trans{w w' w'':Yr}(h:Io w w')(h':Io w' w''):Io w w'':=⟨h'.1.trans h.1,h'.2.trans h.2⟩
structure Fr(φ:gP)(F:Nat→Prop)(w:Yr)(φ':gP)(F':Nat→Prop)(w':Yr):Prop where
 size:w.heap.size≤w'.heap.size
 rest:∀b,b<w.heap.size→(∀id o,φ id≠YL (b,o))→w'.heap[b]? =w.heap[b]?
 own:∀id b o,φ' id=YL (b,o)→(∃id0 o0,φ id0=YL (b,o0))∨w.heap.size≤b
 fY:∀b,F' b→F b∨(∃id o,φ id=YL (b,o))∨w.heap.size≤b
 io:Io w w'
theorem Fr.refl(φ F w):Fr φ F w φ F w:=⟨Zc _,fun _ _ _=>rfl,fun id b o h=> .inl ⟨id,o,h⟩,fun _ h=> .inl h,Io.refl _⟩
theorem Fr.trans{φ F w φ' F' w' φ'' F'' w''}(h:Fr φ F w φ' F' w')(h':Fr φ' F' w' φ'' F'' w''):Fr φ F w φ'' F'' w'':=by
 refine⟨Ze h.size h'.size,fun b hb hn=>?_,fun id b o hi=>?_,fun b hb=>?_,h.io.trans h'.io⟩
 ·rw[h'.rest b (Zi hb h.size) ?_,h.rest b hb hn]
  intro id o hi
  rcases h.own id b o hi with⟨i0,o0,h0⟩|h0
  ·exact hn i0 o0 h0
  ·omega
 ·rcases h'.own id b o hi with⟨i0,o0,h0⟩|h0
  ·exact h.own i0 b o0 h0
  ·exact .inr (Ze h.size h0)
 ·rcases h'.fY b hb with h0|⟨i0,o0,h0⟩|h0
  ·exact h.fY b h0
  ·exact .inr (h.own i0 b o0 h0)
  ·exact .inr (.inr (Ze h.size h0))
end Go.Fw
namespace Go.Fw
def ed{α:Type}(f:Nat→α)(i:Nat)(x:α):Nat→α:=fun j=>if j=i then x else f j
@[simp] theorem bn{α:Type}(f:Nat→α)(i:Nat)(x:α):ed f i x i=x:=by simp[ed]
theorem cn{α:Type}(f:Nat→α){i j:Nat}(x:α)(h:j≠i):ed f i x j=f j:=by simp[ed,h]
theorem oJ{w w':Yr}{b:Nat}(h:w'.heap[b]? =w.heap[b]?):bsize w' b=bsize w b:=by simp[bsize,h]
theorem gX.same{φ w φ' w' id x}(hφ:φ' id=φ id)(hb:∀b o,φ id=YL (b,o)→w'.heap[b]? =w.heap[b]?):gX φ w φ' w' id x x:=by
 cases x with
 |none=>trivial
 |some b=>cases b with
  |box c=>exact⟨hφ,rfl,fun b o h=>nz.of (hb b o h) o _⟩
  |arr=>exact⟨Zc _,fun _=>⟨rfl,Zc _,hφ,fun b o h=>oJ (hb b o h)⟩⟩
  |map=>exact hφ
theorem kj.mono{φ F G w φ' F' G' w'}(h:ix φ F G w φ' F' G' w'){id bZ}(hφ:φ' id=φ id)
 (hw:∀b o,φ id=YL (b,o)→w'.heap[b]? =w.heap[b]?) (hb:kj φ F G w id bZ):kj φ' F' G' w' id bZ:=by
 cases bZ with
 |box cells=>
  obtain⟨b,o,cs,T,h1,h2,hl,h3⟩:=hb
  exact⟨b,o,cs,T,hφ.trans h1,(hw b o h1).trans h2,hl,h3.mono h⟩
 |arr e sz rows=>
  rcases hb with⟨h1,h2⟩|⟨b,o,cs,T,h1,h2,h3,h4,h5⟩
  ·exact .inl ⟨hφ.trans h1,h2⟩
  ·refine .inr ⟨b,o,cs,T,hφ.trans h1,(hw b o h1).trans h2,h3,h4,fun i row hi j d hj=>?_⟩
   obtain⟨u,hu,hd⟩:=h5 i row hi j d hj
   exact⟨u,hu,hd.mono h.fY⟩
 |map ents=>
  obtain⟨b,es,clock,h1,h2,h4,h3⟩:=hb
  exact⟨b,es,clock,hφ.trans h1,(hw b 0 h1).trans h2,h4,bX.imp (fun _ _ hx=>⟨hx.1,hx.2.mono h⟩) h3⟩
theorem Rel.update{φ F G w}(h:Rel φ F G w)(id:Nat)(x:Option (Nat×Nat))(bZ:bw)(w':Yr)
 (hsz:w.heap.size≤w'.heap.size) (hio:Io w w')
 (hrest:∀b,b<w.heap.size→(∀o,φ id≠YL (b,o))→w'.heap[b]? =w.heap[b]?)
 (hx:∀b o,x=YL (b,o)→((∃o',φ id=YL (b,o'))∨w.heap.size≤b))
 (hst:gX φ w (ed φ id x) w' id (G id) (YL bZ))
 (hb:ix φ F G w (ed φ id x) F (ed G id (YL bZ)) w'→kj (ed φ id x) F (ed G id (YL bZ)) w' id bZ):
 Rel (ed φ id x) F (ed G id (YL bZ)) w'∧ix φ F G w (ed φ id x) F (ed G id (YL bZ)) w'∧Fr φ F w (ed φ id x) F w':=by
 have hother:∀j b o,j≠id→φ j=YL (b,o)→w'.heap[b]? =w.heap[b]? :=by
  intro j b o hj hφ
  refine hrest b (h.lt hφ) fun o' he=>hj (h.inj j id b o b o' hφ he rfl)
 have gl:ix φ F G w (ed φ id x) F (ed G id (YL bZ)) w':=by
  refine⟨fun b hF=>⟨hF,hrest b (h.fY b hF).1 fun o he=>(h.fY b hF).2 id b o he rfl⟩,fun j=>?_⟩
  by_cases hj:j=id
  ·subst hj;rw[bn];exact hst
  ·rw[cn _ _ hj]
   exact gX.same (cn _ _ hj) fun b o hφ=>hother j b o hj hφ
 refine⟨⟨fun j bl hG=>?_,fun j y hy=>?_,fun i j b o b' o' hi hj hbb=>?_,fun b hF=>⟨Zi (h.fY b hF).1 hsz,fun j b' o hj hbb=>?_⟩⟩,gl,hsz,fun b hlt hn=>hrest b hlt fun o=>hn id o,fun j b o hj=>?_,fun b hF=> .inl hF,hio⟩
 ·by_cases hj:j=id
  ·subst hj;rw[bn]at hG;cases hG;exact hb gl
  ·rw[cn _ _ hj]at hG
   exact kj.mono gl (cn _ _ hj) (fun b o hφ=>hother j b o hj hφ) (h.bZ j bl hG)
 ·by_cases hj:j=id
  ·subst hj;simp
  ·rw[cn _ _ hj]at hy⊢;exact h.rT j y hy
 ·subst hbb
  by_cases hii:i=id<;>by_cases hjj:j=id
  ·rw[hii,hjj]
  ·subst hii
   rw[bn]at hi;rw[cn _ _ hjj]at hj
   rcases hx b o hi with⟨o2,h2⟩|h2
   ·exact h.inj i j b o2 b o' h2 hj rfl
   ·have:=h.lt hj;omega
  ·subst hjj
   rw[bn]at hj;rw[cn _ _ hii]at hi
   rcases hx b o' hj with⟨o2,h2⟩|h2
   ·exact h.inj i j b o b o2 hi h2 rfl
   ·have:=h.lt hi;omega
  ·rw[cn _ _ hii]at hi;rw[cn _ _ hjj]at hj
   exact h.inj i j b o b o' hi hj rfl
 ·subst hbb
  by_cases hjj:j=id
  ·subst hjj
   rw[bn]at hj
   rcases hx b' o hj with⟨o2,h2⟩|h2
   ·exact(h.fY b' hF).2 j b' o2 h2 rfl
   ·have:=(h.fY b' hF).1;omega
  ·rw[cn _ _ hjj]at hj
   exact(h.fY b' hF).2 j b' o hj rfl
 ·by_cases hjj:j=id
  ·subst hjj
   rw[bn]at hj
   rcases hx b o hj with⟨o2,h2⟩|h2
   ·exact .inl ⟨j,o2,h2⟩
   ·exact .inr h2
  ·rw[cn _ _ hjj]at hj
   exact .inl ⟨j,o,hj⟩
theorem Rel.freeze{φ F G w}(h:Rel φ F G w){id e sz rows}(sz':Nat)(hG:G id=YL (.arr e sz rows)):
 let F':=fun b=>F b∨∃o,φ id=YL (b,o)
 Rel (ed φ id YM) F' (ed G id (YL (.arr (e+1) sz' []))) w∧
  ix φ F G w (ed φ id YM) F' (ed G id (YL (.arr (e+1) sz' []))) w∧Fr φ F w (ed φ id YM) F' w:=by
 intro F'
 have gl:ix φ F G w (ed φ id YM) F' (ed G id (YL (.arr (e+1) sz' []))) w:=by
  refine⟨fun b hF=>⟨.inl hF,rfl⟩,fun j=>?_⟩
  by_cases hj:j=id
  ·subst hj;rw[bn,hG];exact⟨by omega,fun he=>by omega⟩
  ·rw[cn _ _ hj]
   exact gX.same (cn _ _ hj) fun b o hφ=>rfl
 refine⟨⟨fun j bl hj=>?_,fun j y hy=>?_,fun i j b o b' o' hi hj hbb=>?_,fun b hF=>?_⟩,gl,Zc _,fun _ _ _=>rfl,fun j b o hj=>?_,fun b hF=>?_,Io.refl _⟩
 ·by_cases hj':j=id
  ·subst hj';rw[bn]at hj;cases hj;exact .inl ⟨bn _ _ _,rfl⟩
  ·rw[cn _ _ hj']at hj
   exact kj.mono gl (cn _ _ hj') (fun _ _ _=>rfl) (h.bZ j bl hj)
 ·by_cases hj:j=id
  ·subst hj;simp
  ·rw[cn _ _ hj]at hy⊢;exact h.rT j y hy
 ·by_cases hii:i=id
  ·subst hii;rw[bn]at hi;cases hi
  ·by_cases hjj:j=id
   ·subst hjj;rw[bn]at hj;cases hj
   ·rw[cn _ _ hii]at hi;rw[cn _ _ hjj]at hj
    exact h.inj i j b o b' o' hi hj hbb
 ·rcases hF with hF|⟨o,ho⟩
  ·refine⟨(h.fY b hF).1,fun j b' o hj=>?_⟩
   by_cases hjj:j=id
   ·subst hjj;rw[bn]at hj;cases hj
   ·rw[cn _ _ hjj]at hj;exact(h.fY b hF).2 j b' o hj
  ·refine⟨h.lt ho,fun j b' o' hj hbb=>?_⟩
   by_cases hjj:j=id
   ·subst hjj;rw[bn]at hj;cases hj
   ·rw[cn _ _ hjj]at hj;exact hjj (h.inj j id b' o' b o hj ho hbb)
 ·by_cases hjj:j=id
  ·subst hjj;rw[bn]at hj;cases hj
  ·rw[cn _ _ hjj]at hj;exact .inl ⟨j,o,hj⟩
 ·rcases hF with hF|⟨o,ho⟩
  ·exact .inl hF
  ·exact .inr (.inl ⟨id,o,ho⟩)
theorem cell?_of_heap{w:Yr}{b:Nat}{cs:Array Value}{T:Yp}{fz:Nat×Nat}(h:w.heap[b]? =YL (.cells cs T fz))(i:Nat):
 w.cell? ⟨b,i,YM⟩=cs[i]? :=by simp[ZX,h]
theorem eY{w:Yr}{b:Nat}{cs:Array Value}{T:Yp}{fz:Nat×Nat}(h:w.heap[b]? =YL (.cells cs T fz)):
 bsize w b=YL cs.size:=by simp[bsize,h]
theorem dA.frozen{φ F G w id e off len cap sz rows v}(h:Rel φ F G w)(hG:G id=YL (.arr e sz rows))
 (hc:dA φ F G w (.own id e off len cap) v) (hlen:off+len≤rows.length) {F':Nat→Prop} (hF:∀b,F b→F' b) (hF':∀b o,φ id=YL (b,o)→F' b):
 dh w F' (.sl ((rows.drop off).take len)) v:=by
 obtain⟨e',sz',rows',hg,_,A,l,k,rfl,hk⟩:=hc
 rw[hG]at hg;cases hg
 obtain⟨rfl,hlk,_,_,hor⟩:=hk rfl
 by_cases h0:l=0
 ·subst h0
  have:(rows.drop off).take 0=[]:=rfl
  rw[this];exact .nil A k
 rcases hor with h1|⟨b,o,n,hφ,rfl,hn,hle⟩
 ·omega
 have hb:=h.bZ id _ hG
 rcases hb with⟨h1,_⟩|⟨b',o',cs,T,h1,h2,h3,h4,h5⟩
 ·rw[hφ]at h1;cases h1
 rw[hφ]at h1;simp only[Zl,ZB]at h1
 obtain⟨rfl,rfl⟩:=h1
 have hlen':((rows.drop off).take l).length=l:=by rw[XG,X0];omega
 have key:∀(i:Nat) row,((rows.drop off).take l)[i]? =YL row→rows[off+i]? =YL row:=by
  intro i row hi
  rw[XD]at hi
  split at hi
  ·rw[XC]at hi;exact hi
  ·cases hi
 have hidx:∀i j:Nat,o+off*sz+i*sz+j=o+(off+i)*sz+j:=by intro i j;rw[Zd];omega
 have:=dh.sl (w:=w) (F:=F') ((rows.drop off).take l) b (o+off*sz) sz k (fun i j=>(cs[o+(off+i)*sz+j]?).getD (.bool Zm)) (hF' b o hφ) (by omega)
  (fun row hr=>h4 row (Ya (X9 hr)))
  (fun i row hi j d hj=>by
    obtain⟨u,hu,hd⟩:=h5 (off+i) row (key i row hi) j d hj
    rw[hidx,cell?_of_heap h2,hu];simp[hu])
  (fun i row hi j d hj=>by
    obtain⟨u,hu,hd⟩:=h5 (off+i) row (key i row hi) j d hj
    rw[hu];exact hd.mono (fun b hb=>⟨hF b hb,rfl⟩))
 rw[hlen']at this
 exact this
end Go.Fw
namespace Go.Fw
structure St where
 aO:List (Nat×AV)
 heap:List (Option bw)
 deriving Inhabited
def lk:List (Nat×AV)→Nat→Option AV
 |[],_=>YM
 |(k,v)::r,t=>if k=t then YL v else lk r t
def hp(l:List (Option bw)):eg:=fun i=>(l[i]?).join
def cH:List (Option bw)→Nat→bw→List (Option bw)
 |[],0,b=>[YL b]
 |[],n+1,b=>YM::cH [] n b
 |_::l,0,b=>YL b::l
 |x::l,n+1,b=>x::cH l n b
theorem eQ(b:bw):∀(l:List (Option bw)) (i:Nat),hp (cH l i b)=ed (hp l) i (YL b):=by
 have key:∀(l:List (Option bw)) (i j:Nat),hp (cH l i b) j=ed (hp l) i (YL b) j:=by
  intro l i
  induction i generalizing l with
  |zero=>
   intro j
   cases l<;>cases j<;>simp[cH,hp,ed]
  |succ i ih=>
   intro j
   cases l with
   |nil=>
    cases j with
    |zero=>simp[cH,hp,ed]
    |succ j=>have:=ih [] j;simp only[cH,hp,ed,XR]at this⊢;rw[this];simp
   |cons x l=>
    cases j with
    |zero=>simp[cH,hp,ed]
    |succ j=>have:=ih l j;simp only[cH,hp,ed,XR]at this⊢;rw[this];simp
 exact fun l i=>funext (key l i)
def fE(h:List (Option bw)):List (Nat×bw)→List (Option bw)
 |[]=>h
 |(i,b)::r=>fE (cH h i b) r
theorem jJ(h:List (Option bw))(a b:List (Nat×bw)):fE h (a++b)=fE (fE h a) b:=by
 induction a generalizing h with
 |nil=>rfl
 |cons x a ih=>exact ih _
inductive O where
 |t (n:Nat)
 |k (v:A1)
 |f (id:YA)
 deriving Inhabited
def St.ev(s:St):O→Option AV
 | .t n=>lk s.aO n
 | .k a=>YL (.one a)
 | .f id=>YL (.one (.c (.fn id [])))
def St.e9(s:St)(o:O):Option C:=
 match s.ev o with
 |some (.one (.c x))=>YL x
 |_=>YM
def St.eZ(s:St)(o:O):Option Value:=
 match s.ev o with
 |some (.one (.c (.d (.v x))))=>YL x
 |_=>YM
def A1.cells:A1→List C
 | .c x=>[x]
 | .agg cs=>cs
structure Out where
 val:Option AV
 wr:List (Nat×bw)
def St.apply(s:St)(dst:Option Nat)(o:Out):St:=
 {aO:=match dst with
   |some d=>match o.val with
    |some v=>(d,v)::s.aO
    |none=>s.aO.filter (·.1 !=d)
   |none=>s.aO
  heap:=fE s.heap o.wr}
structure dm(n:Nat)(φ:gP)(F:Nat→Prop)(s:St)(a:Act)(w:Yr):Prop where
 size:a.tmps.size=n
 defers:a.defers=[]
 rel:Rel φ F (hp s.heap) w
 slot:∀t av,lk s.aO t=YL av→ec φ F (hp s.heap) w av (a.tmps.getD t undef)
theorem NT{n φ F s a w}(h:dm n φ F s a w){o:O}{av:AV}{x:Yo}
 (hx:match o with| .t t=>x= .tmp t| .f f=>x= .func f| .k v=>∃u,x= .const u∧cm φ F (hp s.heap) w v u)
 (he:s.ev o=YL av):ec φ F (hp s.heap) w av (a.eval x):=by
 cases o with
 |t t=>subst hx;exact h.slot t av he
 |k v=>obtain⟨u,rfl,hu⟩:=hx;simp only[St.ev,Zl]at he;subst he;exact hu
 |f f=>
  subst hx;simp only[St.ev,Zl]at he;subst he
  exact⟨[],rfl,rfl,fun j c hj=>by simp at hj⟩
def Gl:Value→Option A1
 | .agg cs=>if cs.toList.all dx then YL (.agg (cs.toList.map fun c=> .d (.v c)))else YM
 | .tuple _=>YM
 |v=>YL (.c (.d (.v v)))
theorem oG{v:Value}{x:A1}(h:Gl v=YL x)(φ F G w):cm φ F G w x v:=by
 cases v with
 |agg cs=>
  simp only[Gl]at h
  split at h
  ·rename_i hall
   cases h
   refine⟨cs.toList,by simp,bX.of (by simp) ?_⟩
   intro i a b ha hb
   rw[Yf,hb]at ha
   simp only[YP,Zl]at ha
   subst ha
   exact dh.v _ (List.all_eq_true.1 hall _ (XN hb))
  ·cases h
 |tuple vs=>cases h
 |_=>cases h;exact dh.v _ rfl
def cO:Yo→Option O
 | .tmp t=>YL (.t t)
 | .const v=>(Gl v).map .k
 | .func f=>YL (.f f)
 | .global _=>YM
theorem jF{n φ F s a w}(h:dm n φ F s a w){x:Yo}{o:O}(hc:cO x=YL o){av:AV}(he:s.ev o=YL av):
 ec φ F (hp s.heap) w av (a.eval x):=by
 refine NT h ?_ he
 cases x with
 |tmp t=>cases hc;rfl
 |const v=>
  simp only[cO,YN]at hc
  obtain⟨y,hy,rfl⟩:=hc
  exact⟨v,rfl,oG hy _ _ _ _⟩
 |global g=>cases hc
 |func f=>cases hc;rfl
theorem dk{n φ F s a w}(h:dm n φ F s a w){x:Yo}{o:O}(hc:cO x=YL o){c:C}(he:s.e9 o=YL c):
 dA φ F (hp s.heap) w c (a.eval x):=by
 unfold St.e9 at he
 split at he
 ·rename_i y hy;cases he;exact jF h hc hy
 ·cases he
theorem ee{n φ F s a w}(h:dm n φ F s a w){x:Yo}{o:O}(hc:cO x=YL o){v:Value}(he:s.eZ o=YL v):
 a.eval x=v:=by
 unfold St.eZ at he
 split at he
 ·rename_i y hy;cases he
  have:=jF h hc hy
  cases this;rfl
 ·cases he
def yR:D→D
 | .v (.slice YM 0 _)=> .sl []
 |d=>d
def zh(h:List (Option bw))(wr:List (Nat×bw)):List C→(List D→List (Nat×bw)→Prop)→Prop
 |[],K=>K [] wr
 | .d x::cs,K=>zh h wr cs fun ds wr'=>K (yR x::ds) wr'
 | .own id ep off len _::cs,K=>
   match hp (fE h wr) id with
   |some (.arr e sz rows)=>ep=e∧off+len≤rows.length∧
    zh h (wr++[(id,.arr (e+1) sz [])]) cs fun ds wr'=>K (.sl ((rows.drop off).take len)::ds) wr'
   |_=>False
 |_::_,_=>False
theorem rz{w F d v}(h:dh w F d v):dh w F (yR d) v:=by
 unfold yR
 split
 ·cases h;exact .nil _ _
 ·exact h
theorem mW{h:List (Option bw)}{w:Yr}:∀{cs:List C} {wr:List (Nat×bw)} {K:List D→List (Nat×bw)→Prop},zh h wr cs K→
 ∀{φ F vs},Rel φ F (hp (fE h wr)) w→eD φ F (hp (fE h wr)) w cs vs→
 ∃ds wr' φ' F',K ds wr'∧Rel φ' F' (hp (fE h wr')) w∧ix φ F (hp (fE h wr)) w φ' F' (hp (fE h wr')) w∧Fr φ F w φ' F' w∧bX (dh w F') ds vs∧
  ∀i,hp (fE h wr) i=YM→hp (fE h wr') i=YM
 |[],wr,K,hk,φ,F,vs,hr,hc=>by
  cases hc
  exact⟨[],wr,φ,F,hk,hr,ix.refl _ _ _ _,Fr.refl _ _ _,.nil,fun _ h=>h⟩
 | .d x::cs,wr,K,hk,φ,F,vs,hr,hc=>by
   cases hc with
   |cons hx hc=>
    have hk':zh h wr cs fun ds wr'=>K (yR x::ds) wr':=hk
    obtain⟨ds,wr',φ',F',hK,h1,h2,h3,h4,h5⟩:=mW hk' hr hc
    exact⟨_,wr',φ',F',hK,h1,h2,h3,.cons ((rz hx).mono h2.fY) h4,h5⟩
 | .own id ep off len cap::cs,wr,K,hk,φ,F,vs,hr,hc=>by
   cases hc with
   |cons hx hc=>
    simp only[zh]at hk
    split at hk
    ·rename_i e sz rows hG
     obtain⟨rfl,hlen,hk⟩:=hk
     obtain⟨r1,r2,r3⟩:=hr.freeze sz hG
     have e1:hp (fE h (wr++[(id,bw.arr (ep+1) sz [])]))=ed (hp (fE h wr)) id (YL (bw.arr (ep+1) sz [])):=by
      rw[jJ];exact eQ _ _ _
     rw[←e1]at r1 r2
     obtain⟨ds,wr',φ',F',hK,h1,h2,h3,h4,h5⟩:=mW hk r1 (eD.mono r2 hc)
     refine⟨_,wr',φ',F',hK,h1,r2.trans h2,r3.trans h3,.cons ?_ h4,fun i hi=>h5 i ?_⟩
     ·exact(hx.frozen hr hG hlen (fun b hb=> .inl hb) (fun b o hb=> .inr ⟨o,hb⟩)).mono h2.fY
     ·rw[e1,cn _ _ (fun he=>by subst he;rw[hG]at hi;cases hi)];exact hi
    ·exact hk.elim
 | .pt _ _::_,_,_,hk,_,_,_,_,_=>hk.elim
 | .pe _ _ _ _::_,_,_,hk,_,_,_,_,_=>hk.elim
 | .fp _::_,_,_,hk,_,_,_,_,_=>hk.elim
 | .fn _ _::_,_,_,hk,_,_,_,_,_=>hk.elim
structure gL(φ:gP)(F:Nat→Prop)(s:St)(w:Yr)(K:Out→Prop)(v:Value)(w':Yr):Prop where
 ex:∃out φ' F',K out∧(∀av,out.val=YL av→ec φ' F' (hp (fE s.heap out.wr)) w' av v)∧Rel φ' F' (hp (fE s.heap out.wr)) w'∧
  ix φ F (hp s.heap) w φ' F' (hp (fE s.heap out.wr)) w'∧Fr φ F w φ' F' w'
theorem gL.still{φ F s w K v}{av:AV}(hK:K ⟨YL av,[]⟩)(hr:Rel φ F (hp s.heap) w)(h:ec φ F (hp s.heap) w av v):gL φ F s w K v w:=
 ⟨⟨_,φ,F,hK,fun _ h'=>by cases h';exact h,hr,ix.refl _ _ _ _,Fr.refl _ _ _⟩⟩
theorem gL.change{φ F s w K v w'}{val:Option AV}(id:Nat)(x:Option (Nat×Nat))(bZ:bw)(hK:K ⟨val,[(id,bZ)]⟩)
 (h:Rel φ F (hp s.heap) w)
 (hsz:w.heap.size≤w'.heap.size) (hio:Io w w')
 (hrest:∀b,b<w.heap.size→(∀o,φ id≠YL (b,o))→w'.heap[b]? =w.heap[b]?)
 (hx:∀b o,x=YL (b,o)→((∃o',φ id=YL (b,o'))∨w.heap.size≤b))
 (hst:gX φ w (ed φ id x) w' id (hp s.heap id) (YL bZ))
 (hb:ix φ F (hp s.heap) w (ed φ id x) F (ed (hp s.heap) id (YL bZ)) w'→kj (ed φ id x) F (ed (hp s.heap) id (YL bZ)) w' id bZ)
 (hv:ix φ F (hp s.heap) w (ed φ id x) F (ed (hp s.heap) id (YL bZ)) w'→∀av,val=YL av→ec (ed φ id x) F (ed (hp s.heap) id (YL bZ)) w' av v):gL φ F s w K v w':=by
 obtain⟨h1,h2,h3⟩:=h.update id x bZ w' hsz hio hrest hx hst hb
 have e:hp (fE s.heap [(id,bZ)])=ed (hp s.heap) id (YL bZ):=eQ _ _ _
 refine⟨⟨⟨val,[(id,bZ)]⟩,ed φ id x,F,hK,?_,?_,?_,h3⟩⟩
 ·rw[e];exact hv h2
 ·rw[e];exact h1
 ·rw[e];exact h2
end Go.Fw
namespace Go.Fw
theorem run_bind{α β:Type}(P:Ys)(x:Sem α)(f:α→Sem β)(w:Yr):
 (x>>=f).run P w=match x.run P w with| .ok a w'=>(f a).run P w'| .halt h w'=> .halt h w':=by
 show(ZC x f).run P w=_
 induction x generalizing w with
 |pure a=>rfl
 |load m a k ih=>
  simp only[ZC,ZD]
  cases w.cell? a with
  |some v=>exact ih v w
  |none=>simp only[];split<;>simp only[*]
 |store m a v k ih=>
  cases v<;>simp only[ZC,ZD]<;>(try rfl)<;>
  ·split
   ·split
    ·rfl
    ·exact ih _
   ·split
    ·exact ih _
    ·rfl
 |new o k ih=>simp only[ZC,ZD];exact ih _ _
 |shape r k ih=>simp only[ZC,ZD];exact ih _ _
 |freeze a n k ih=>simp only[ZC,ZD];exact ih _
 |frozen a k ih=>simp only[ZC,ZD];exact ih _ _
 |getObj r k ih=>
  simp only[ZC,ZD]
  split
  ·rfl
  ·exact ih _ _
  ·rfl
 |setObj r o k ih=>
  simp only[ZC,ZD]
  split
  ·rfl
  ·exact ih _
  ·rfl
 |choose q k ih=>simp only[ZC,ZD];split<;>exact ih _ _
 |sys c k ih=>simp only[ZC,ZD];exact ih _ _
 |program k ih=>simp only[ZC,ZD];exact ih _ _
 |mark m k ih=>simp only[ZC,ZD];exact ih _
 |halt h=>rfl
theorem run_pure{α:Type}(P:Ys)(a:α)(w:Yr):(pure a:Sem α).run P w= .ok a w:=rfl
theorem run_program(P:Ys)(w:Yr):program.run P w= .ok P w:=rfl
theorem run_load{P:Ys}{w:Yr}{a:YH}{v:Value}(h:w.cell? a=YL v):(load a).run P w= .ok v w:=by
 simp[load,ZD,h]
theorem run_newObj(P:Ys)(o:Obj)(w:Yr):(newObj o).run P w= .ok w.heap.size {w with heap:=w.heap.push o}:=rfl
theorem run_underlying{P:Ys}{w:Yr}{t:Yp}{d:Yz}(h:P.underlying t=YL d):(underlying t).run P w= .ok d w:=by
 simp only[underlying,run_bind,run_program,h,run_pure]
theorem run_typeInfo{P:Ys}{w:Yr}{t:Yp}{i:YF}(h:P.info? t=YL i):(typeInfo t).run P w= .ok i w:=by
 simp only[typeInfo,run_bind,run_program,h,run_pure]
theorem run_sizeOf{P:Ys}{w:Yr}{t:Yp}{n:Nat}(h:(P.info? t).map (·.size)=YL n):(YI t).run P w= .ok n w:=by
 simp only[YN]at h
 obtain⟨i,hi,rfl⟩:=h
 simp only[YI,run_bind,run_typeInfo hi,run_pure]
theorem fL{P:Ys}{w:Yr}{t:Yp}{v:Value}(h:(P.info? t).bind (·.zero)=YL v):(zeroValue t).run P w= .ok v w:=by
 simp only[YO]at h
 obtain⟨i,hi,hz⟩:=h
 simp only[zeroValue,run_bind,run_typeInfo hi,hz,run_pure]
def wY(P:Ys)(t:Yp):Option Bool:=
 (P.underlying t).map fun| .struct _| .array _ _=>Zm|_=>Zn
theorem l6{P:Ys}{w:Yr}{t:Yp}{b:Bool}(h:wY P t=YL b):(isAgg t).run P w= .ok b w:=by
 simp only[wY,YN]at h
 obtain⟨d,hd,rfl⟩:=h
 simp only[isAgg,run_bind,run_underlying hd]
 split<;>simp_all [run_pure]
def k9(P:Ys)(t:Yp):Option (Option Nat):=
 match wY P t,(P.info? t).map (·.size)with
 |some Zm,YL n=>YL (YL n)
 |some Zn,YL 1=>YL YM
 |_,_=>YM
theorem jc(b o n:Nat):(Addr.mk b o YM).add n=⟨b,o+n,YM⟩:=by
 unfold Addr.add;split
 ·subst_vars;rfl
 ·rfl
theorem run_loadCellsFrom{P:Ys}{w:Yr}{b o:Nat}:∀(n i:Nat) (acc:Array Value) (vs:List Value),vs.length=n→
 (∀(j:Nat) v,vs[j]? =YL v→w.cell? ⟨b,o+i+j,YM⟩=YL v)→(Yy ⟨b,o,YM⟩ i n acc).run P w= .ok (acc++vs.toArray) w
 |0,i,acc,vs,hl,h=>by
  have:vs=[]:=List.length_eq_zero_iff.1 hl
  subst this;simp[Yy,run_pure]
 |n+1,i,acc,v::vs,hl,h=>by
  simp only[Yy,run_bind,jc]
  have h0:=h 0 v rfl
  rw[Zh]at h0
  rw[run_load h0]
  simp only[]
  rw[run_loadCellsFrom n (i+1) (acc.push v) vs (by simpa using hl) (fun j u hj=>by
   have:=h (j+1) u (by simpa using hj)
   rw[show o+(i+1)+j=o+i+(j+1)by omega];exact this)]
  simp
 |n+1,i,acc,[],hl,h=>by simp at hl
theorem run_loadCells{P:Ys}{w:Yr}{b o:Nat}(vs:List Value)
 (h:∀(j:Nat) v,vs[j]? =YL v→w.cell? ⟨b,o+j,YM⟩=YL v):(loadCells ⟨b,o,YM⟩ vs.length).run P w= .ok vs.toArray w:=by
 unfold loadCells
 rw[run_loadCellsFrom vs.length 0 #[] vs rfl (by simpa using h)]
 simp
def cf{α:Type}(cs:List α)(off:Nat)(new:List α):List α:=cs.take off++new++cs.drop (off+new.length)
structure oP(w w':Yr)(b:Nat)(cs:List Value)(T:Yp):Prop where
 size:w'.heap.size=w.heap.size
 rest:∀b',b'≠b→w'.heap[b']? =w.heap[b']?
 bZ:w'.heap[b]? =YL (.cells cs.toArray T (0,0))
 io:Io w w'
theorem Ae{w:Yr}{b i:Nat}{cs:Array Value}{T:Yp}(hb:w.heap[b]? =YL (.cells cs T (0,0)))(v:Value):
 oP w (w.setCell ⟨b,i,YM⟩ v) b (cs.toList.set i v) T:=by
 have hlt:b<w.heap.size:=by
  by_cases h:b<w.heap.size
  ·exact h
  ·rw[Zz (by omega)]at hb;cases hb
 refine⟨by simp[ZW],fun b' hb'=>?_,?_,⟨rfl,rfl⟩⟩
 ·simp only[ZW];rw[ZA];simp[Ne.symm hb']
 ·simp only[ZW];rw[ZA];simp[hb]
  apply Zv;simp
theorem oP.trans{w w' w'':Yr}{b cs cs' T T'}(h:oP w w' b cs T)(h':oP w' w'' b cs' T'):oP w w'' b cs' T':=
 ⟨h'.size.trans h.size,fun b' hb=>(h'.rest b' hb).trans (h.rest b' hb),h'.bZ,h.io.trans h'.io⟩
theorem run_store{P:Ys}{w:Yr}{b i:Nat}{cs:Array Value}{T:Yp}(hb:w.heap[b]? =YL (.cells cs T (0,0)))(hi:i<cs.size){v:Value}(hv:dx v=Zm):
 (store ⟨b,i,YM⟩ v).run P w= .ok () (w.setCell ⟨b,i,YM⟩ v):=by
 have h1:w.cell? ⟨b,i,YM⟩=YL cs[i]:=by rw[cell?_of_heap hb];exact Array.getElem?_eq_getElem hi
 have h2:w.frozen? ⟨b,i,YM⟩=Zn:=by simp[World.frozen?,hb]
 cases v<;>first|(simp[dx]at hv;done)|simp[store,ZD,h1,h2]
theorem iB{P:Ys}{b o:Nat}{T:Yp}:∀(vs:List Value) (i:Nat) (w:Yr) (cs:List Value),w.heap[b]? =YL (.cells cs.toArray T (0,0))→
 o+i+vs.length≤cs.length→vs.all dx=Zm→vs≠[]→∃w',(YK ⟨b,o,YM⟩ vs i).run P w= .ok () w'∧oP w w' b (cf cs (o+i) vs) T
 |[],i,w,cs,hb,hl,ha,hne=>absurd rfl hne
 |v::vs,i,w,cs,hb,hl,ha,hne=>by
  simp only[XI]at hl
  simp only[XV,Zo]at ha
  simp only[YK,run_bind,jc]
  rw[run_store hb (by simp;omega) ha.1]
  have h1:=Ae (i:=o+i) hb v
  cases vs with
  |nil=>
   refine⟨_,rfl,?_⟩
   have:cf cs (o+i) [v]=cs.set (o+i) v:=by
    unfold cf
    rw[XK,if_pos (by omega)]
    simp
   rw[this];simpa using h1
  |cons u us=>
   obtain⟨w',hr,ho⟩:=iB (P:=P) (o:=o) (u::us) (i+1) (w.setCell ⟨b,o+i,YM⟩ v) (cs.set (o+i) v) (by simpa using h1.bZ) (by simp;simp at hl;omega) ha.2 (by simp)
   refine⟨w',hr,?_⟩
   have:cf cs (o+i) (v::u::us)=cf (cs.set (o+i) v) (o+(i+1)) (u::us):=by
    unfold cf
    rw[XK,if_pos (by omega)]
    rw[XZ,X1]
    simp only[XG,XI]
    have e1:min (o+i) cs.length=o+i:=by omega
    rw[e1]
    have e2:o+(i+1)-(o+i)=1:=by omega
    have e3:o+(i+1)+(us.length+1)-(o+i)=us.length+1+1:=by omega
    rw[e2,e3]
    rw[XS (l:=XQ (o+i) cs) (by simp;omega),XL (l:=XQ (o+i) cs) (by simp;omega)]
    simp only[Yb,X3,Yc,X5,X2,XY,Yh]
    congr 4
    congr 1;omega
   rw[this]
   exact h1.trans ho
end Go.Fw
namespace Go.Fw
inductive jS where
 |mv (x:O)
 |pick (c x y:O)
 |box (x:O)
 |zbox (cs:List C)
 |build (zero:List C) (parts:List (Nat×Nat×O))
 |bslice (sz:Nat) (parts:List O)
 |load (n:Option Nat) (x:O)
 |store (n:Nat) (a x:O)
 |fieldA (off:Nat) (x:O)
 |field (off:Nat) (n:Option Nat) (x:O)
 |indexA (sz:Nat) (x i:O)
 |sidx (x i:O)
 |slice (sz:Nat) (x:O) (lo hi mx:Option O)
 |sslice (x:O) (lo hi:Option O)
 |fn (f:YA) (gV:List O)
 |ext (x:O) (i:Nat)
 |len (x:O)
 |slen (x:O)
 |cap (x:O)
 |bin (op:YJ) (x y:O)
 |eqnil (neg:Bool) (x:O)
 |not (x:O)
 |neg (x:O)
 |max (x y:O)
 |min (x y:O)
 |mins (x:O) (r:List O)
 |conv (k:Yv) (x:O)
 |app (sz bytes:Nat) (x y:O)
 |appz (sz bytes:Nat) (zero:List D) (x y:O)
 |copy (sz:Nat) (x y:O)
 |clear (sz:Nat) (zero:List D) (x:O)
 |mk (sz bytes:Nat) (zero:List D) (l c:O)
 |call (f:YA) (args:List O)
 |callv (g:O) (args:List O)
 |eqs (neg:Bool) (plan:List (Nat×Nat)) (x y:O)
 |beq (neg:Bool) (x y:O)
 |istr (x:O)
 |mkmap
 |mget (kd:Nat) (ok:Bool) (zero:A1) (m k:O)
 |mset (kd:Nat) (m k v:O)
 |mdel (kd:Nat) (m k:O)
 |mlen (m:O)
 |opq (k:Nat) (x:O)
 deriving Inhabited
def C.gz:C→Bool
 | .d _=>Zm
 |_=>Zn
def A1.gz:A1→Bool
 | .c x=>x.gz
 | .agg cs=>cs.all C.gz
def kX:Nat→Value→Bool
 |0,.int .i64 _=>Zm
 |1,.string _=>Zm
 |_,_=>Zn
def tQ:Value→Value→Bool
 | .int _ a,.int _ b=>decide (a=b)
 | .string a,.string b=>decide (a=b)
 |_,_=>Zn
def nR(k:Value):List (Value×A1)→Option A1
 |[]=>YM
 |e::r=>if tQ k e.1 then YL e.2 else nR k r
def yV(k:Value)(v:A1):List (Value×A1)→List (Value×A1)
 |[]=>[(k,v)]
 |e::r=>if tQ k e.1 then(k,v)::r else e::yV k v r
def rB(k:Value):List (Value×A1)→List (Value×A1)
 |[]=>[]
 |e::r=>if tQ k e.1 then r else e::rB k r
def uf(kd:Nat)(ents:List (Value×A1)):Bool:=ents.all fun e=>kX kd e.1
def OS(ok:Bool)(zero:A1)(r:Option A1):AV:=if ok then .tup [r.getD zero,.c (.d (.v (.bool r.isSome)))]else .one (r.getD zero)
def s5(n:Option Nat)(cs:List C)(K:Out→Prop):Prop:=
 match n with
 |none=>match cs with
  |c::_=>K ⟨YL (.one (.c c)),[]⟩
  |[]=>False
 |some n=>n≤cs.length∧K ⟨YL (.one (.agg (cs.take n))),[]⟩
def nb(t:Bool):Bool:= !t
def fi(k:Yv)(a b:Int):Int:=a.fdiv (2^(min b.toNat k.bits))
def OD(k:Yv)(a b:Int):Int:=k.wrap (a*2^(min b.toNat k.bits))
def Qz(k:Yv)(a b:Int):Int:=k.wrap (ZV k.bits a&&& ZV k.bits b).toNat
def Q4(k:Yv)(a b:Int):Int:=k.wrap (ZV k.bits a|||ZV k.bits b).toNat
def PI(k:Yv)(a b:Int):Int:=k.wrap (ZV k.bits a^^^ZV k.bits b).toNat
def fA(op:YJ)(x y:Value)(K:Value→Prop):Prop:=
 match x,y with
 | .int k a,.int k' b=>k=k'∧
   (match op with
     | .add=>K (.int k (k.wrap (a+b)))
     | .sub=>K (.int k (k.wrap (a-b)))
     | .mul=>K (.int k (k.wrap (a*b)))
     | .quo=>b≠0∧K (.int k (k.wrap (a.tdiv b)))
     | .rem=>b≠0∧K (.int k (a.tmod b))
     | .eql=>K (.bool (decide (a=b)))
     | .neq=>K (.bool (nb (decide (a=b))))
     | .lss=>K (.bool (decide (a<b)))
     | .leq=>K (.bool (decide (a≤b)))
     | .gtr=>K (.bool (decide (b<a)))
     | .geq=>K (.bool (decide (b≤a)))
     | .shr=>0≤b∧K (.int k (fi k a b))
     | .shl=>0≤b∧K (.int k (OD k a b))
     | .and=>K (.int k (Qz k a b))
     | .or=>K (.int k (Q4 k a b))
     | .xor=>K (.int k (PI k a b))
     |_=>False)
 | .string a,.string b=>
   (match op with
     | .add=>a.size+b.size≤9223372036854775807∧K (.string (a++b))
     | .eql=>K (.bool (decide (a=b)))
     | .neq=>K (.bool (nb (decide (a=b))))
     | .lss=>K (.bool (ZG a.toList b.toList))
     | .leq=>K (.bool (ZG a.toList b.toList||decide (a=b)))
     | .gtr=>K (.bool (nb (ZG a.toList b.toList||decide (a=b))))
     | .geq=>K (.bool (nb (ZG a.toList b.toList)))
     |_=>False)
 |_,_=>False
def lP:Nat→C→C→Option Bool
 |0,.d (.v (.int k a)),.d (.v (.int k' b))=>if k=k' then YL (decide (a=b))else YM
 |1,.d (.v (.bool a)),.d (.v (.bool b))=>YL (a==b)
 |2,.d (.v (.string a)),.d (.v (.string b))=>YL (decide (a=b))
 |_,_,_=>YM
def jw:List (Nat×Nat)→List C→List C→Option Bool
 |[],_,_=>YL Zm
 |(off,k)::r,xs,ys=>match xs[off]?,ys[off]? with
  |some x,YL y=>match lP k x y with
   |some b=>match jw r xs ys with
    |some b'=>YL (b&&b')
    |none=>YM
   |none=>YM
  |_,_=>YM
def wz(k:Nat):C→C
 | .own id ep off len cap=> .own id ep off (min len k) cap
 |c=>c
def O4(neg b:Bool):Bool:=if neg then nb b else b
def idx(v:Value)(K:Nat→Prop):Prop:=
 match v with
 | .int _ j=>0≤j∧K j.toNat
 |_=>False
def ia(s:St)(o:Option O)(d:Nat)(K:Nat→Prop):Prop:=
 match o with
 |none=>K d
 |some o=>match s.eZ o with
  |some v=>idx v K
  |none=>False
def uw(s:St):List O→(List A1→Prop)→Prop
 |[],K=>K []
 |o::r,K=>match s.ev o with
  |some (.one a)=>uw s r fun l=>K (a::l)
  |_=>False
def Gu(s:St):List C→List (Nat×Nat×O)→(List C→Prop)→Prop
 |cs,[],K=>K cs
 |cs,(off,n,x)::r,K=>match s.ev x with
  |some (.one a)=>a.cells.length=n∧off+n≤cs.length∧Gu s (cf cs off a.cells) r K
  |_=>False
def uu(h:List (Option bw))(sz:Nat)(wr:List (Nat×bw)):List A1→(List (List D)→List (Nat×bw)→Prop)→Prop
 |[],K=>K [] wr
 |a::r,K=>a.cells.length=sz∧zh h wr a.cells fun ds wr'=>uu h sz wr' r fun rows wr''=>K (ds::rows) wr''
def gV(s:St):List O→(List (Nat×Nat)→Prop)→Prop
 |[],K=>K []
 |o::r,K=>match s.e9 o with
  |some (.pt id off)=>gV s r fun l=>K ((id,off)::l)
  |_=>False
def ret(K:Out→Prop)(c:C):Prop:=K ⟨YL (.one (.c c)),[]⟩
def ey(K:Out→Prop)(v:Value):Prop:=K ⟨YL (.one (.c (.d (.v v)))),[]⟩
def px(s:St):List O→Yv→Int→(Out→Prop)→Prop
 |[],k,a,K=>ey K (.int k a)
 |y::r,k,a,K=>match s.eZ y with
  |some (.int _ b)=>px s r k (if b<a then b else a) K
  |_=>False
def dp:jS→St→(Out→Prop)→Prop
 | .mv x,s,K=>match s.ev x with
   |some v=>K ⟨YL v,[]⟩
   |none=>False
 | .pick c x y,s,K=>match s.eZ c with
   |some (.bool t)=>(t=Zm→match s.ev x with|some v=>K ⟨YL v,[]⟩|none=>False)∧
     (t=Zn→match s.ev y with|some v=>K ⟨YL v,[]⟩|none=>False)
   |_=>False
 | .box x,s,K=>match s.ev x with
   |some (.one a)=>K ⟨YL (.one (.c (.pt s.heap.length 0))),[(s.heap.length,.box a.cells)]⟩
   |_=>False
 | .zbox cs,s,K=>K ⟨YL (.one (.c (.pt s.heap.length 0))),[(s.heap.length,.box cs)]⟩
 | .build zero parts,s,K=>Gu s zero parts fun cs=>K ⟨YL (.one (.agg cs)),[]⟩
 | .bslice sz parts,s,K=>uw s parts fun as=>uu s.heap sz [] as fun rows wr=>
     K ⟨YL (.one (.c (.own s.heap.length 0 0 rows.length YM))),wr++[(s.heap.length,.arr 0 sz rows)]⟩
 | .load n x,s,K=>match s.e9 x with
   |some (.pt id off)=>match hp s.heap id with
    |some (.box cells)=>s5 n (cells.drop off) K
    |_=>False
   |some (.pe id ep row off)=>match hp s.heap id with
    |some (.arr e _ rows)=>ep=e∧∃r,rows[row]? =YL r∧s5 n ((r.drop off).map .d) K
    |_=>False
   |some (.fp cells)=>s5 n (cells.map .d) K
   |_=>False
 | .store n a x,s,K=>match s.ev x with
   |some (.one v)=>v.cells.length=n∧0<n∧match s.e9 a with
    |some (.pt id off)=>match hp s.heap id with
     |some (.box cells)=>off+n≤cells.length∧K ⟨YM,[(id,.box (cf cells off v.cells))]⟩
     |_=>False
    |some (.pe id ep row off)=>zh s.heap [] v.cells fun ds wr=>match hp (fE s.heap wr) id with
     |some (.arr e sz rows)=>ep=e∧∃r,rows[row]? =YL r∧off+n≤r.length∧K ⟨YM,wr++[(id,.arr e sz (rows.set row (cf r off ds)))]⟩
     |_=>False
    |_=>False
   |_=>False
 | .fieldA off x,s,K=>match s.e9 x with
   |some (.pt id o)=>ret K (.pt id (o+off))
   |some (.pe id ep row o)=>match hp s.heap id with
    |some (.arr e _ _)=>ep=e∧ret K (.pe id ep row (o+off))
    |_=>False
   |some (.fp cells)=>ret K (.fp (cells.drop off))
   |_=>False
 | .field off n x,s,K=>match s.ev x with
   |some (.one (.agg cs))=>s5 n (cs.drop off) K
   |_=>False
 | .indexA sz x i,s,K=>match s.eZ i with
   |some v=>idx v fun j=>match s.e9 x with
    |some (.d (.sl rows))=>∃r,rows[j]? =YL r∧r.length=sz∧ret K (.fp r)
    |some (.own id ep off len _)=>j<len∧match hp s.heap id with
     |some (.arr e sz' rows)=>ep=e∧sz'=sz∧off+j<rows.length∧ret K (.pe id ep (off+j) 0)
     |_=>False
    |_=>False
   |none=>False
 | .sidx x i,s,K=>match s.eZ x,s.eZ i with
   |some (.string b),YL v=>idx v fun j=>∃c,b[j]? =YL c∧ey K (.int .u8 c.toNat)
   |_,_=>False
 | .slice sz x lo hi mx,s,K=>match s.e9 x with
   |some (.d (.sl rows))=>(match mx with
     |none=>ia s hi rows.length fun h=>ia s lo 0 fun l=>l≤h∧h≤rows.length∧(∀r∈rows,r.length=sz)∧
      ret K (.d (.sl ((rows.take h).drop l)))
     |some mx=>ia s (YL mx) 0 fun m=>ia s hi rows.length fun h=>ia s lo 0 fun l=>l=h∧h=m∧m≤rows.length∧
      K ⟨YL (.one (.c (.own s.heap.length 0 0 0 YM))),[(s.heap.length,.arr 0 sz [])]⟩)
   |some (.d (.v (.slice YM 0 0)))=>mx=YM∧ia s hi 0 fun h=>ia s lo 0 fun l=>l=0∧h=0∧ey K (.slice YM 0 0)
   |some (.own id ep off len cap)=>match hp s.heap id with
    |some (.arr e sz' _)=>ep=e∧sz'=sz∧(match cap with
     |none=>match mx with
      |none=>ia s hi len fun h=>ia s lo 0 fun l=>l≤h∧h≤len∧ret K (.own id ep (off+l) (h-l) YM)
      |some mx=>ia s (YL mx) 0 fun m=>ia s hi len fun h=>ia s lo 0 fun l=>l≤h∧h≤m∧m≤len∧ret K (.own id ep (off+l) (h-l) (YL (m-l)))
     |some c=>ia s mx c fun m=>ia s hi len fun h=>ia s lo 0 fun l=>l≤h∧h≤m∧m≤c∧ret K (.own id ep (off+l) (h-l) (YL (m-l))))
    |_=>False
   |_=>False
 | .sslice x lo hi,s,K=>match s.eZ x with
   |some (.string b)=>ia s hi b.size fun h=>ia s lo 0 fun l=>l≤h∧h≤b.size∧ey K (.string (b.extract l h))
   |_=>False
 | .fn f cs,s,K=>gV s cs fun l=>ret K (.fn f l)
 | .ext x i,s,K=>match s.ev x with
   |some (.tup l)=>match l[i]? with
    |some a=>K ⟨YL (.one a),[]⟩
    |none=>False
   |_=>False
 | .len x,s,K=>match s.e9 x with
   |some (.d (.sl rows))=>ey K (.int .i64 rows.length)
   |some (.d (.v (.slice _ m _)))=>ey K (.int .i64 m)
   |some (.own id ep _ len _)=>match hp s.heap id with
    |some (.arr e _ _)=>ep=e∧ey K (.int .i64 len)
    |_=>False
   |_=>False
 | .slen x,s,K=>match s.eZ x with
   |some (.string b)=>ey K (.int .i64 b.size)
   |_=>False
 | .cap x,s,K=>match s.e9 x with
   |some (.own id ep _ _ (YL c))=>match hp s.heap id with
    |some (.arr e _ _)=>ep=e∧ey K (.int .i64 c)
    |_=>False
   |_=>False
 | .bin op x y,s,K=>match s.eZ x,s.eZ y with
   |some a,YL b=>fA op a b (ey K)
   |_,_=>False
 | .eqnil neg x,s,K=>match s.e9 x with
   |some (.d (.v (.slice YM 0 0)))=>ey K (.bool (!neg))
   |some (.d (.sl rows))=>∀b,(rows≠[]→b=Zn)→ey K (.bool (b !=neg))
   |some (.own id ep _ len _)=>match hp s.heap id with
    |some (.arr e _ _)=>ep=e∧∀b,(len≠0→b=Zn)→ey K (.bool (b !=neg))
    |_=>False
   |_=>False
 | .beq neg x y,s,K=>match s.eZ x,s.eZ y with
   |some (.bool a),YL (.bool b)=>ey K (.bool ((a==b)!=neg))
   |_,_=>False
 | .eqs neg plan x y,s,K=>match s.ev x,s.ev y with
   |some (.one (.agg xs)),YL (.one (.agg ys))=>match jw plan xs ys with
    |some b=>ey K (.bool (O4 neg b))
    |none=>False
   |_,_=>False
 | .istr x,s,K=>match s.eZ x with
   |some (.int _ n)=>ey K (.string (Utf8.encode n))
   |_=>False
 | .mkmap,s,K=>K ⟨YL (.one (.c (.mref s.heap.length))),[(s.heap.length,.map [])]⟩
 | .mget kd ok zero m k,s,K=>match s.e9 m with
   |some (.mref id)=>match hp s.heap id with
    |some (.map ents)=>match s.eZ k with
     |some kv=>kX kd kv=Zm∧uf kd ents=Zm∧K ⟨YL (OS ok zero (nR kv ents)),[]⟩
     |none=>False
    |_=>False
   |_=>False
 | .mdel kd m k,s,K=>match s.e9 m with
   |some (.mref id)=>match hp s.heap id with
    |some (.map ents)=>match s.eZ k with
     |some kv=>kX kd kv=Zm∧uf kd ents=Zm∧K ⟨YL (.tup []),[(id,.map (rB kv ents))]⟩
     |none=>False
    |_=>False
   |_=>False
 | .opq ..,_,_=>False
 | .mlen m,s,K=>match s.e9 m with
   |some (.mref id)=>match hp s.heap id with
    |some (.map ents)=>ey K (.int .i64 (ents.length:Nat))
    |_=>False
   |_=>False
 | .mset kd m k v,s,K=>match s.e9 m with
   |some (.mref id)=>match hp s.heap id with
    |some (.map ents)=>match s.eZ k with
     |some kv=>match s.ev v with
      |some (.one a)=>kX kd kv=Zm∧uf kd ents=Zm∧a.gz=Zm∧K ⟨YM,[(id,.map (yV kv a ents))]⟩
      |_=>False
     |none=>False
    |_=>False
   |_=>False
 | .not x,s,K=>match s.eZ x with
   |some (.bool t)=>ey K (.bool (!t))
   |_=>False
 | .neg x,s,K=>match s.eZ x with
   |some (.int k n)=>ey K (.int k (k.wrap (0-n)))
   |_=>False
 | .max x y,s,K=>match s.eZ x,s.eZ y with
   |some (.int k a),YL (.int _ b)=>ey K (.int k (if a<b then b else a))
   |_,_=>False
 | .min x y,s,K=>match s.eZ x,s.eZ y with
   |some (.int k a),YL (.int _ b)=>ey K (.int k (if b<a then b else a))
   |_,_=>False
 | .mins x r,s,K=>match s.eZ x with
   |some (.int k a)=>px s r k a K
   |_=>False
 | .conv k x,s,K=>match s.eZ x with
   |some (.int _ n)=>ey K (.int k (k.wrap n))
   |_=>False
 |_,_,_=>False
end Go.Fw
namespace Go.Fw
def Nf(P:Ys)(t:Yp):Option Yp:=
 match P.underlying t with
 |some (.slice e)=>YL e
 |_=>YM
def MC(P:Ys)(t:Yp):Option Nat:=
 match P.underlying t with
 |some (.int .i64)=>YL 0
 |some .string=>YL 1
 |_=>YM
def sn(P:Ys)(t:Yp):Option Nat:=(P.info? t).map (·.size)
def NC:Yo→Bool
 | .const (.slice YM 0 0)=>Zm
 |_=>Zn
def zS:List Yo→Option (List O)
 |[]=>YL []
 |x::r=>(cO x).bind fun y=>(zS r).map (y::·)
def qu(places:List (Nat×Nat)):List (Nat×Yo)→Option (List (Nat×Nat×O))
 |[]=>YL []
 |(i,x)::r=>(places[i]?).bind fun p=>(cO x).bind fun y=>(qu places r).map ((p.1,p.2,y)::·)
def rM:Nat→List (Nat×Yo)→Bool
 |_,[]=>Zm
 |k,(i,_)::r=>i==k&&rM (k+1) r
def ni(v:Value):Option (List C):=(Gl v).map A1.cells
def nN:Option Yo→Option (Option O)
 |none=>YL YM
 |some x=>(cO x).map YL
def IF(P:Ys)(f:Yx):Option (Nat×Nat):=
 if f.name== "_" then YM else match P.underlying f.type with
  |some (.int _)=>YL (f.offset,0)
  |some .bool=>YL (f.offset,1)
  |some .string=>YL (f.offset,2)
  |_=>YM
def oi(P:Ys):List Yx→Option (List (Nat×Nat))
 |[]=>YL []
 |f::r=>match IF P f,oi P r with
  |some x,YL l=>YL (x::l)
  |_,_=>YM
def Qy(n:Nat)(e:Yp)(c:Nat):List Yx:=(Yn n).map fun i=>{name:= "f",type:=e,offset:=i*c,embedded:=Zn,tag:= "",pkgPath:=default,byteOffset:=default}
def Fa(n c:Nat):List (Nat×Nat):=(Yn n).map fun i=>(i*c,c)
def ux(P:Ys)(t:Yp)(n:Nat)(e:Yp):Option (List (Nat×Nat)):=
 if P.eqGuardType P.depth t then YM else oi P (Qy n e (P.cellsOf e))
def zp(P:Ys)(t:Yp)(fs:List Yx):Option (List (Nat×Nat)):=
 if P.stoodInHeld t||P.eqGuardType P.depth t then YM else oi P fs
def L0(P:Ys)(op:YJ)(t:Yp)(x y:Yo):Option jS:=
 match P.underlying t with
 |some (.int _)|some .string=>(cO x).bind fun a=>(cO y).map fun b=> .bin op a b
 |some .bool=>match op with
  | .eql=>(cO x).bind fun a=>(cO y).map fun b=> .beq Zn a b
  | .neq=>(cO x).bind fun a=>(cO y).map fun b=> .beq Zm a b
  |_=>YM
 |some (.slice _)=>if NC y then match op with
   | .eql=>(cO x).map fun a=> .eqnil Zn a
   | .neq=>(cO x).map fun a=> .eqnil Zm a
   |_=>YM
  else YM
 |some (.struct fs)=>match op with
  | .eql=>(zp P t fs.toList).bind fun p=>(cO x).bind fun a=>(cO y).map fun b=> .eqs Zn p a b
  | .neq=>(zp P t fs.toList).bind fun p=>(cO x).bind fun a=>(cO y).map fun b=> .eqs Zm p a b
  |_=>YM
 |some (.array n e)=>if(P.info? e).isSome then match op with
   | .eql=>(ux P t n e).bind fun p=>(cO x).bind fun a=>(cO y).map fun b=> .eqs Zn p a b
   | .neq=>(ux P t n e).bind fun p=>(cO x).bind fun a=>(cO y).map fun b=> .eqs Zm p a b
   |_=>YM
  else YM
 |_=>YM
def gQ(P:Ys)(op:Op):Option jS:=
 match op with
 | .move x| .assign x=>(cO x).map .mv
 | .pick c a b=>(cO c).bind fun c=>(cO a).bind fun a=>(cO b).map fun b=> .pick c a b
 | .alloc t=>((P.info? t).bind (·.zero)).bind fun z=>(ni z).map .zbox
 | .box _ x=>(cO x).map .box
 | .build t parts=>match P.info? t,P.underlying t with
   |some it,YL (.struct fields)=>match it.zero,fields.toList.mapM (fun f=>(P.info? f.type).map fun i=>(f.offset,i.size))with
    |some z,YL places=>(ni z).bind fun cs=>(qu places parts.toList).map fun ps=> .build cs ps
    |_,_=>YM
   |some it,YL (.array n e)=>match it.zero,P.info? e with
    |some z,YL ie=>(ni z).bind fun cs=>(qu (Fa n ie.size) parts.toList).map fun ps=> .build cs ps
    |_,_=>YM
   |_,_=>YM
 | .buildSlice t len parts=>(Nf P t).bind fun e=>(sn P e).bind fun sz=>(zS (parts.toList.map (·.2))).bind fun os=>
     if rM 0 parts.toList&&parts.size==len&&decide (len*sz≤2^24)&&decide (0<sz)&&((P.info? e).bind (·.zero)).isSome then YL (.bslice sz os)else YM
 | .load t x=>(k9 P t).bind fun n=>(cO x).map fun a=> .load n a
 | .store t x y=>(sn P t).bind fun n=>(cO x).bind fun a=>(cO y).map fun b=> .store n a b
 | .nilCheck x=>(cO x).map (.fieldA 0)
 | .fieldAddr t x f=>match P.underlying t with
   |some (.struct fields)=>match fields[f]? with
    |some fd=>match sn P fd.type with
     |some (_+1)=>(cO x).map fun a=> .fieldA fd.offset a
     |_=>YM
    |none=>YM
   |_=>YM
 | .field t x f=>match P.underlying t with
   |some (.struct fields)=>match fields[f]? with
    |some fd=>(k9 P fd.type).bind fun n=>(cO x).map fun a=> .field fd.offset n a
    |none=>YM
   |_=>YM
 | .indexAddr t x i=>(Nf P t).bind fun e=>(sn P e).bind fun sz=>(cO x).bind fun a=>(cO i).map fun b=> .indexA sz a b
 | .index t x i=>match P.underlying t with
   |some .string=>(cO x).bind fun a=>(cO i).map fun b=> .sidx a b
   |some (.array len e)=>match i with
    | .tmp n=>if k9 P e=YL YM∧len=3 then(cO x).map fun a=> .opq (3+n) a else YM
    |_=>YM
   |_=>YM
 | .slice t x lo hi mx=>match P.underlying t with
   |some .string=>match mx with
    |none=>(cO x).bind fun a=>(nN lo).bind fun l=>(nN hi).map fun h=> .sslice a l h
    |some _=>YM
   |some (.slice e)=>match mx,hi with
    |some _,YM=>YM
    |_,_=>(sn P e).bind fun sz=>(cO x).bind fun a=>(nN lo).bind fun l=>(nN hi).bind fun h=>(nN mx).map fun m=> .slice sz a l h m
   |_=>YM
 | .makeFunc (.func f) first captured=>if first.isEmpty then(zS captured.toList).map fun l=> .fn f l else YM
 | .extract x i=>(cO x).map fun a=> .ext a i
 | .binOp op t x y _=>L0 P op t x y
 | .unOp .not _ x=>(cO x).map .not
 | .unOp .neg _ x=>(cO x).map .neg
 | .convert s d x=>match P.underlying s,P.underlying d with
   |some (.int _),YL (.int k)=>(cO x).map fun a=> .conv k a
   |some (.int _),YL .string=>(cO x).map .istr
   |_,_=>YM
 | .call {callee:= .builtin .len,args,argTypes}=>match args.toList,argTypes.toList with
   |[x],[t]=>match P.underlying t with
    |some (.slice _)=>(cO x).map .len
    |some .string=>(cO x).map .slen
    |some (.map _ _)=>(cO x).map .mlen
    |_=>YM
   |_,_=>YM
 | .call {callee:= .builtin .delete,args,argTypes}=>match args.toList,argTypes.toList with
   |[m,k],t::_=>match P.underlying t with
    |some (.map kt _)=>(MC P kt).bind fun kd=>(cO m).bind fun a=>(cO k).map fun b=> .mdel kd a b
    |_=>YM
   |_,_=>YM
 | .makeMap _ YM=>YL .mkmap
 | .range t x=>match P.underlying t with
   |some (.map _ _)=>(cO x).map (.opq 0)
   |_=>YM
 | .next x Zn=>(cO x).map (.opq 1)
 | .entry x=>(cO x).map (.opq 2)
 | .lookup t m k ok=>match P.underlying t with
   |some (.map kt et)=>(MC P kt).bind fun kd=>((P.info? et).bind (·.zero)).bind fun z=>(Gl z).bind fun zc=>(cO m).bind fun a=>(cO k).map fun b=> .mget kd ok zc a b
   |_=>YM
 | .mapUpdate t m k v=>match P.underlying t with
   |some (.map kt _)=>(MC P kt).bind fun kd=>(cO m).bind fun a=>(cO k).bind fun b=>(cO v).map fun c=> .mset kd a b c
   |_=>YM
 | .call {callee:= .builtin .cap,args,argTypes}=>match args.toList,argTypes.toList with
   |[x],[t]=>match P.underlying t with
    |some (.slice _)=>(cO x).map .cap
    |_=>YM
   |_,_=>YM
 | .call {callee:= .builtin .max,args,..}=>match args.toList with
   |[x,y]=>(cO x).bind fun a=>(cO y).map fun b=> .max a b
   |_=>YM
 | .call {callee:= .builtin .min,args,..}=>match args.toList with
   |[x,y]=>(cO x).bind fun a=>(cO y).map fun b=> .min a b
   |x::y::z::r=>(cO x).bind fun a=>(zS (y::z::r)).map fun l=> .mins a l
   |_=>YM
 |_=>YM
def cc(P:Ys)(o:YG)(a:Act)(φ:gP)(F:Nat→Prop)(s:St)(w:Yr)(K:Out→Prop):Prop:=
 ∃v w',((Yq a.eval o).run P w= .ok (.value v) w'∨((Yq a.eval o).run P w= .ok .skip w'∧v=undef))∧gL φ F s w K v w'
section
variable {P:Ys} {o:YG} {a:Act} {φ:gP} {F:Nat→Prop} {s:St} {w:Yr} {K:Out→Prop} {n:Nat}
theorem cc.eh(h:dm n φ F s a w){v:Value}(hr:(Yq a.eval o).run P w= .ok (.value v) w){av:AV}(hK:K ⟨YL av,[]⟩)
 (hv:ec φ F (hp s.heap) w av v):cc P o a φ F s w K:=⟨v,w,.inl hr,gL.still hK h.rel hv⟩
theorem gj{ρ:Yo→Value}{x:Sem Value}{v:Value}{w':Yr}(ho:Yq ρ o=(do pure (.value (←x))))(hx:x.run P w= .ok v w'):
 (Yq ρ o).run P w= .ok (.value v) w':=by
 rw[ho,run_bind,hx];rfl
theorem zj{ρ:Yo→Value}{x:Sem Unit}{w':Yr}(ho:Yq ρ o=(do x;pure .skip))(hx:x.run P w= .ok () w'):
 (Yq ρ o).run P w= .ok .skip w':=by
 rw[ho,run_bind,hx];rfl
theorem G1(h:dm n φ F s a w){x:Yo}(ho:o.op= .move x∨o.op= .assign x){y:O}(hc:cO x=YL y)(hk:dp (.mv y) s K):cc P o a φ F s w K:=by
 simp only[dp]at hk
 split at hk
 ·rename_i v hv
  refine cc.eh (v:=a.eval x) h ?_ hk (jF h hc hv)
  rcases ho with ho|ho<;>(simp only[Yq,ho];rfl)
 ·exact hk.elim
theorem G0(h:dm n φ F s a w){c x y:Yo}(ho:o.op= .pick c x y){c' x' y':O}(hc:cO c=YL c')(hx:cO x=YL x')(hy:cO y=YL y')
 (hk:dp (.pick c' x' y') s K):cc P o a φ F s w K:=by
 simp only[dp]at hk
 split at hk
 ·rename_i t ht
  have e:=ee h hc ht
  cases t with
  |true=>
   have hk:=hk.1 rfl
   split at hk
   ·rename_i v hv
    exact cc.eh (v:=a.eval x) h (by simp only[Yq,ho,e];rfl) hk (jF h hx hv)
   ·exact hk.elim
  |false=>
   have hk:=hk.2 rfl
   split at hk
   ·rename_i v hv
    exact cc.eh (v:=a.eval y) h (by simp only[Yq,ho,e];rfl) hk (jF h hy hv)
   ·exact hk.elim
 ·exact hk.elim
theorem cm.cells{φ F G w x v}(h:cm φ F G w x v):eD φ F G w x.cells v.cells.toList:=by
 cases x with
 |c x=>
  have hi:=dA.dx h
  cases v<;>first|(simp[dx]at hi;done)|exact .cons h .nil
 |agg cs=>obtain⟨vs,rfl,h⟩:=h;exact h
theorem eD.dx{φ F G w cs vs}(h:eD φ F G w cs vs):vs.all Fw.dx=Zm:=by
 induction h with
 |nil=>rfl
 |cons x _ ih=>simp[dA.dx x,ih]
theorem iY(l:List (Option bw)):hp l l.length=YM:=by simp[hp]
theorem pd(w:Yr)(o:Obj)(b:Nat)(hb:b<w.heap.size):(w.heap.push o)[b]? =w.heap[b]? :=by
 rw[Array.getElem?_push];split
 ·omega
 ·rfl
theorem n5(w:Yr)(o:Obj):(w.heap.push o)[w.heap.size]? =YL o:=by simp
theorem lay{cells:List C}{vs:List Value}(T:Yp)(hr:Rel φ F (hp s.heap) w)(hc:eD φ F (hp s.heap) w cells vs)
 (hK:K ⟨YL (.one (.c (.pt s.heap.length 0))),[(s.heap.length,.box cells)]⟩):
 gL φ F s w K (.pointer (YL ⟨w.heap.size,0,YM⟩)) {w with heap:=w.heap.push (.cells vs.toArray T (0,0))}:=by
 have hnone:φ s.heap.length=YM:=by
  cases hφ:φ s.heap.length with
  |none=>rfl
  |some x=>have:=hr.rT _ _ hφ;simp[iY]at this
 refine gL.change s.heap.length (YL (w.heap.size,0)) (.box cells) hK hr (by simp) (Io.push rfl rfl rfl) ?_ ?_ ?_ ?_ ?_
 ·exact fun b hb _=>pd _ _ _ hb
 ·intro b o hx;cases hx;exact .inr (Zc _)
 ·rw[iY];trivial
 ·intro gl
  have hcl:cells.length=vs.length:=bX.length hc
  refine⟨w.heap.size,0,vs.toArray,T,bn _ _ _,n5 _ _,by simp[hcl],?_⟩
  have e:(vs.toArray.toList.drop 0).take cells.length=vs:=by simp[hcl]
  rw[e];exact hc.mono gl
 ·intro gl av hav
  cases hav
  exact⟨cells,w.heap.size,0,bn _ _ _,bn _ _ _,rfl⟩
theorem Lb(h:dm n φ F s a w){t:Yp}{x:Yo}(ho:o.op= .box t x){y:O}(hc:cO x=YL y)(hk:dp (.box y) s K):cc P o a φ F s w K:=by
 simp only[dp]at hk
 split at hk
 ·rename_i v hv
  have hr:=cm.cells (jF h hc hv)
  refine⟨_,_,.inl ?_,lay t h.rel hr hk⟩
  simp only[Yq,ho,Instr.box,newVar,newRow,run_bind,run_newObj,run_pure,Zw]
 ·exact hk.elim
theorem GX(h:dm n φ F s a w){t:Yp}(ho:o.op= .alloc t){z:Value}{cs:List C}(hz:(P.info? t).bind (·.zero)=YL z)(hc:ni z=YL cs)
 (hk:dp (.zbox cs) s K):cc P o a φ F s w K:=by
 simp only[dp]at hk
 simp only[ni,YN]at hc
 obtain⟨x,hx,rfl⟩:=hc
 have hr:=cm.cells (oG hx φ F (hp s.heap) w)
 refine⟨_,_,.inl ?_,lay t h.rel hr hk⟩
 simp only[Yq,ho,Instr.alloc,run_bind,fL hz,newVar,newRow,run_newObj,run_pure,Zw]
end
end Go.Fw
namespace Go.Fw
theorem dD{α:Type}(cs:List α)(off:Nat)(new:List α)(h:off+new.length≤cs.length):(cf cs off new).length=cs.length:=by
 simp only[cf,XH,XG,X0];omega
theorem oe{α:Type}(off:Nat):∀(vs:List α) (k:Nat) (cells:List α),off+k+vs.length≤cells.length→
 (vs.zipIdx k).foldl (fun cs x=>cs.set (off+x.2) x.1) cells=cf cells (off+k) vs
 |[],k,cells,h=>by simp[cf]
 |v::vs,k,cells,h=>by
  simp only[XI]at h
  simp only[List.zipIdx_cons,Yk]
  rw[oe off vs (k+1) (cells.set (off+k) v) (by simp;omega)]
  unfold cf
  rw[XK,if_pos (by omega),XZ,X1]
  simp only[XG,XI]
  have e1:min (off+k) cells.length=off+k:=by omega
  rw[e1]
  have e2:off+(k+1)-(off+k)=1:=by omega
  have e3:off+(k+1)+vs.length-(off+k)=vs.length+1:=by omega
  rw[e2,e3,XS (l:=XQ (off+k) cells) (by simp;omega),XL (l:=XQ (off+k) cells) (by simp;omega)]
  simp only[Yb,X3,Yc,X5,X2,XY,Yh]
  congr 4
  omega
theorem ns{α:Type}(off:Nat):∀(l:List (α×Nat)) (cells:Array α),
 (l.foldl (fun cs x=>cs.setIfInBounds (off+x.2) x.1) cells).toList=l.foldl (fun cs x=>cs.set (off+x.2) x.1) cells.toList
 |[],cells=>rfl
 |x::l,cells=>by simp only[Yk];rw[ns off l];simp
theorem x7(off:Nat)(v:Array Value)(cells:Array Value)(h:off+v.size≤cells.size):
 (v.zipIdx.foldl (fun cs x=>cs.setIfInBounds (off+x.2) x.1) cells)=(cf cells.toList off v.toList).toArray:=by
 apply Zv
 rw[←Array.foldl_toList,ns,Array.toList_zipIdx]
 have:=oe off v.toList 0 cells.toList (by simpa using h)
 simpa using this
section
variable {P:Ys} {o:YG} {a:Act} {φ:gP} {F:Nat→Prop} {s:St} {w:Yr} {K:Out→Prop} {n:Nat}
theorem eD.cf{G:eg}{cs:List C}{vs:List Value}{ds:List C}{us:List Value}(h:eD φ F G w cs vs)(h':eD φ F G w ds us)(off:Nat):
 eD φ F G w (Fw.cf cs off ds) (Fw.cf vs off us):=by
 have hl:=bX.length h'
 unfold Fw.cf
 rw[hl]
 exact((h.take _).append h').append (h.drop _)
theorem oH{ρ:Yo→Value}(h:dm n φ F s a w)(places:List (Nat×Nat)):∀(parts:List (Nat×Yo)) (ps:List (Nat×Nat×O)) (cs:List C) (vs:List Value) (L:List C→Prop),
 qu places parts=YL ps→eD φ F (hp s.heap) w cs vs→Gu s cs ps L→(∀x,ρ x=a.eval x)→
 ∃cs' vs',L cs'∧eD φ F (hp s.heap) w cs' vs'∧YU (places.toArray[·]?) vs.toArray (parts.map fun x=>(x.1,ρ x.2))=YL vs'.toArray
 |[],ps,cs,vs,L,hp',hc,hb,hρ=>by
  cases hp'
  exact⟨cs,vs,hb,hc,by simp[YU]⟩
 |(i,x)::r,ps,cs,vs,L,hp',hc,hb,hρ=>by
  simp only[qu,YO,YN]at hp'
  obtain⟨p,hpl,y,hy,ps',hps',rfl⟩:=hp'
  simp only[Gu]at hb
  split at hb
  ·rename_i av hav
   obtain⟨hl,hle,hb⟩:=hb
   have hA:=cm.cells (jF h hy hav)
   have hl1:=bX.length hA
   have hl2:=bX.length hc
   obtain⟨cs',vs',hL,hc',hf⟩:=oH (ρ:=ρ) h places r ps' _ _ L hps' (hc.cf hA p.1) hb hρ
   refine⟨cs',vs',hL,hc',?_⟩
   simp only[XM,YU,hρ]
   have hpl':places.toArray[i]? =YL p:=by simpa using hpl
   rw[hpl']
   have e1:(a.eval x).cells.size=p.2:=by
    have:(a.eval x).cells.size=(a.eval x).cells.toList.length:=by simp
    rw[this,←hl1,hl]
   simp only[]
   rw[if_neg (by
    rw[e1];simp only[ne_eq,not_true_eq_false,decide_false,Zs,decide_eq_true_eq,XO];omega)]
   have:=x7 p.1 (a.eval x).cells vs.toArray (by rw[e1];simp;omega)
   simp only at this
   rw[this]
   simp only[hρ]at hf
   exact hf
  ·exact hb.elim
theorem Fz(h:dm n φ F s a w){t:Yp}{parts:Array (Nat×Yo)}(ho:o.op= .build t parts){it:YF}{fields:Array Yx}{z:Value}{places:List (Nat×Nat)}
 (hi:P.info? t=YL it) (hu:P.underlying t=YL (.struct fields)) (hz:it.zero=YL z)
 (hpl:fields.toList.mapM (fun f=>(P.info? f.type).map fun i=>(f.offset,i.size))=YL places) {cs:List C} (hcs:ni z=YL cs)
 {ps:List (Nat×Nat×O)} (hps:qu places parts.toList=YL ps) (hk:dp (.build cs ps) s K):cc P o a φ F s w K:=by
 simp only[dp]at hk
 simp only[ni,YN]at hcs
 obtain⟨x,hx,rfl⟩:=hcs
 have hr:=cm.cells (oG hx φ F (hp s.heap) w)
 obtain⟨cs',vs',hL,hc',hf⟩:=oH (ρ:=a.eval) h places parts.toList ps _ _ _ hps hr hk (fun _=>rfl)
 refine cc.eh (v:= .agg vs'.toArray) h ?_ hL ⟨vs',rfl,hc'⟩
 refine gj (x:=Zb t (parts.map fun(i,x)=>(i,a.eval x))) (by simp only[Yq,ho]) ?_
 refine YC w t _ _ ?_
 simp only[Program.built,hi,hu,hz,hpl]
 simpa using hf
theorem x8{f g:Nat→Option (Nat×Nat)}(h:∀i p,g i=YL p→f i=YL p):∀(parts:List (Nat×Value)) (cells r:Array Value),YU g cells parts=YL r→YU f cells parts=YL r
 |[],cells,r,hr=>hr
 |(i,v)::rest,cells,r,hr=>by
  simp only[YU]at hr⊢
  cases hg:g i with
  |none=>rw[hg]at hr;cases hr
  |some p=>
   rw[hg]at hr
   rw[h i p hg]
   obtain⟨off,size⟩:=p
   simp only at hr⊢
   split at hr
   ·cases hr
   ·rename_i hc
    rw[if_neg hc]
    exact x8 h rest _ _ hr
theorem Ch(h:dm n φ F s a w){t:Yp}{parts:Array (Nat×Yo)}(ho:o.op= .build t parts){it ie:YF}{m:Nat}{e:Yp}{z:Value}
 (hi:P.info? t=YL it) (hu:P.underlying t=YL (.array m e)) (hz:it.zero=YL z)
 (hie:P.info? e=YL ie) {cs:List C} (hcs:ni z=YL cs)
 {ps:List (Nat×Nat×O)} (hps:qu (Fa m ie.size) parts.toList=YL ps) (hk:dp (.build cs ps) s K):cc P o a φ F s w K:=by
 simp only[dp]at hk
 simp only[ni,YN]at hcs
 obtain⟨x,hx,rfl⟩:=hcs
 have hr:=cm.cells (oG hx φ F (hp s.heap) w)
 obtain⟨cs',vs',hL,hc',hf⟩:=oH (ρ:=a.eval) h (Fa m ie.size) parts.toList ps _ _ _ hps hr hk (fun _=>rfl)
 refine cc.eh (v:= .agg vs'.toArray) h ?_ hL ⟨vs',rfl,hc'⟩
 refine gj (x:=Zb t (parts.map fun(i,x)=>(i,a.eval x))) (by simp only[Yq,ho]) ?_
 refine YC w t _ _ ?_
 simp only[Program.built,hi,hu,hz,hie]
 refine x8 (fun i p hp'=>?_) _ _ _ (by simpa using hf)
 simp only[Fa,XU,Yf,YN]at hp'
 obtain⟨j,hj,rfl⟩:=hp'
 rw[List.getElem?_range]at hj
 ·cases hj;rfl
 ·have:=(XF.1 hj).1
  simpa using this
theorem oF{t:Yp}{m:Option Nat}(h:k9 P t=YL m):
 (m=YM∧wY P t=YL Zn∧(P.info? t).map (·.size)=YL 1)∨(∃k,m=YL k∧wY P t=YL Zm∧(P.info? t).map (·.size)=YL k):=by
 unfold k9 at h
 split at h
 ·cases h;rename_i h1 h2;exact .inr ⟨_,rfl,h1,h2⟩
 ·cases h;rename_i h1 h2;exact .inl ⟨rfl,h1,h2⟩
 ·cases h
theorem tJ{t:Yp}{m:Option Nat}(ht:k9 P t=YL m){b off:Nat}{cs:List C}{vs:List Value}{G:eg}(hc:eD φ F G w cs vs)
 (hcell:∀(j:Nat) v,vs[j]? =YL v→w.cell? ⟨b,off+j,YM⟩=YL v) {L:Out→Prop} (hl:s5 m cs L):
 ∃av v,(loadVar t ⟨b,off,YM⟩).run P w= .ok v w∧L ⟨YL av,[]⟩∧ec φ F G w av v:=by
 rcases oF ht with⟨rfl,ha,hs⟩|⟨k,rfl,ha,hs⟩
 ·simp only[s5]at hl
  split at hl
  ·rename_i c cs
   cases hc with
   |cons hx hr=>
    rename_i v vs
    refine⟨_,v,?_,hl,hx⟩
    simp only[loadVar,run_bind,l6 ha]
    have:=hcell 0 v rfl
    rw[Zh]at this
    simpa using run_load this
  ·exact hl.elim
 ·obtain⟨hle,hl⟩:=hl
  have hlen:=bX.length hc
  refine⟨_,.agg (vs.take k).toArray,?_,hl,⟨vs.take k,rfl,hc.take k⟩⟩
  simp only[loadVar,run_bind,l6 ha,if_true,run_sizeOf hs]
  have:=run_loadCells (P:=P) (w:=w) (b:=b) (o:=off) (vs.take k) (fun j v hj=>hcell j v (by
   rw[XD]at hj;split at hj
   ·exact hj
   ·cases hj))
  rw[XG,Nat.min_eq_left (by omega)]at this
  rw[this];rfl
theorem Dg(G:eg){cells:List D}{vs:List Value}(h:bX (dh w F) cells vs):eD φ F G w (cells.map .d) vs:=by
 induction h with
 |nil=>exact .nil
 |cons x _ ih=>exact .cons x ih
theorem Is{cells:List D}{g:Nat→Option Value}(h:∀(j:Nat) d,cells[j]? =YL d→∃u,g j=YL u∧dh w F d u):
 ∃vs,bX (dh w F) cells vs∧∀(j:Nat) v,vs[j]? =YL v→g j=YL v:=by
 induction cells generalizing g with
 |nil=>exact⟨[],.nil,fun j v hj=>by simp at hj⟩
 |cons d cells ih=>
  obtain⟨u,hu,hd⟩:=h 0 d rfl
  obtain⟨vs,h1,h2⟩:=ih (g:=fun j=>g (j+1)) (fun j d hj=>h (j+1) d (by simpa using hj))
  refine⟨u::vs,.cons hd h1,fun j v hj=>?_⟩
  cases j with
  |zero=>simp at hj;subst hj;exact hu
  |succ j=>exact h2 j v (by simpa using hj)
theorem G7(h:dm n φ F s a w){t:Yp}{x:Yo}(ho:o.op= .load t x){m:Option Nat}{y:O}(ht:k9 P t=YL m)(hc:cO x=YL y)
 (hk:dp (.load m y) s K):cc P o a φ F s w K:=by
 suffices hs:∃b off cs vs,a.eval x= .pointer (YL ⟨b,off,YM⟩)∧eD φ F (hp s.heap) w cs vs∧
  (∀(j:Nat) v,vs[j]? =YL v→w.cell? ⟨b,off+j,YM⟩=YL v)∧s5 m cs K by
  obtain⟨b,off,cs,vs,he,hcs,hcell,hl⟩:=hs
  obtain⟨av,v,hr,hL,hv⟩:=tJ (P:=P) ht hcs hcell hl
  refine cc.eh (v:=v) h ?_ hL hv
  refine gj (x:=Y7 t (a.eval x)) (by simp only[Yq,ho]) ?_
  simp only[Y7,he,YX,run_bind,run_pure]
  exact hr
 simp only[dp]at hk
 split at hk
 ·rename_i id off hy
  have hp':=dk h hc hy
  obtain⟨cells,b,o',hG,hφ,he⟩:=hp'
  rw[hG]at hk
  simp only[]at hk
  obtain⟨b',o2,cs,T,h1,h2,hl2,h3⟩:=h.rel.bZ _ _ hG
  rw[hφ]at h1;simp only[Zl,ZB]at h1
  obtain⟨rfl,rfl⟩:=h1
  refine⟨b,o'+off,cells.drop off,((cs.toList.drop o').take cells.length).drop off,he,h3.drop off,fun j v hj=>?_,hk⟩
  rw[cell?_of_heap h2]
  rw[XC,XD]at hj
  split at hj
  ·rw[XC]at hj
   rw[show o'+off+j=o'+(off+j)by omega];simpa using hj
  ·cases hj
 ·rename_i id ep row off hy
  have hp':=dk h hc hy
  obtain⟨e,sz,rows,hG,hle,A,he,hA⟩:=hp'
  rw[hG]at hk
  simp only[]at hk
  obtain⟨rfl,r,hrow,hk⟩:=hk
  obtain⟨b,o',hφ,hlt,rfl⟩:=hA rfl
  rcases h.rel.bZ _ _ hG with⟨h1,rfl⟩|⟨b',o2,cs,T,h1,h2,h3,h4,h5⟩
  ·simp at hlt
  rw[hφ]at h1;simp only[Zl,ZB]at h1
  obtain⟨rfl,rfl⟩:=h1
  obtain⟨vs,hvs,hg⟩:=Is (w:=w) (F:=F) (cells:=r.drop off) (g:=fun j=>w.cell? ⟨b,o'+row*sz+off+j,YM⟩) (fun j d hj=>by
   rw[XC]at hj
   obtain⟨u,hu,hd⟩:=h5 row r hrow (off+j) d hj
   exact⟨u,by rw[cell?_of_heap h2,show o'+row*sz+off+j=o'+row*sz+(off+j)by omega];exact hu,hd⟩)
  exact⟨b,_,_,vs,he,Dg _ hvs,hg,hk⟩
 ·rename_i cells hy
  have hp':=dk h hc hy
  obtain⟨b,o',hF,he,hk'⟩:=hp'
  obtain⟨vs,hvs,hg⟩:=Is (w:=w) (F:=F) (cells:=cells) (g:=fun j=>w.cell? ⟨b,o'+j,YM⟩) hk'
  exact⟨b,_,_,vs,he,Dg _ hvs,hg,hk⟩
 ·exact hk.elim
end
end Go.Fw
namespace Go.Fw
section
variable {P:Ys} {o:YG} {a:Act} {φ:gP} {F:Nat→Prop} {s:St} {w:Yr} {K:Out→Prop} {n:Nat}
theorem mn(h:dm n φ F s a w):∀{xs:List Yo} {os:List O} {L:List A1→Prop},zS xs=YL os→uw s os L→
 ∃as,L as∧bX (cm φ F (hp s.heap) w) as (xs.map a.eval)
 |[],os,L,hc,hl=>by cases hc;exact⟨[],hl,.nil⟩
 |x::r,os,L,hc,hl=>by
  simp only[zS,YO,YN]at hc
  obtain⟨y,hy,ys,hys,rfl⟩:=hc
  simp only[uw]at hl
  split at hl
  ·rename_i v hv
   obtain⟨as,hL,hA⟩:=mn h hys hl
   exact⟨v::as,hL,.cons (jF h hy hv) hA⟩
  ·exact hl.elim
theorem pE{sz:Nat}:∀{as:List A1} {wr:List (Nat×bw)} {L:List (List D)→List (Nat×bw)→Prop},uu s.heap sz wr as L→
 ∀{φ F vs},Rel φ F (hp (fE s.heap wr)) w→bX (cm φ F (hp (fE s.heap wr)) w) as vs→
 ∃rows wr' φ' F',L rows wr'∧Rel φ' F' (hp (fE s.heap wr')) w∧ix φ F (hp (fE s.heap wr)) w φ' F' (hp (fE s.heap wr')) w∧Fr φ F w φ' F' w∧
  rows.length=vs.length∧(∀r∈rows,r.length=sz)∧bX (fun r v=>v.cells.size=sz∧v.cells.toList.all dx=Zm∧bX (dh w F') r v.cells.toList) rows vs∧
  ∀i,hp (fE s.heap wr) i=YM→hp (fE s.heap wr') i=YM
 |[],wr,L,hk,φ,F,vs,hr,hc=>by
  cases hc
  exact⟨[],wr,φ,F,hk,hr,ix.refl _ _ _ _,Fr.refl _ _ _,rfl,by simp,.nil,fun _ h=>h⟩
 |x::as,wr,L,hk,φ,F,vs,hr,hc=>by
  cases hc with
  |cons hx hc=>
   obtain⟨hl,hk⟩:=hk
   have hcells:=cm.cells hx
   obtain⟨ds,ug,φ1,F1,hk1,r1,s1,f1,d1,n1⟩:=mW hk hr hcells
   obtain⟨rows,wr',φ',F',hK,h1,h2,h3,h4,h5,h6,n2⟩:=pE hk1 r1 (hc.imp fun _ _=>cm.mono s1)
   have e:=bX.length hcells
   have e':=bX.length d1
   refine⟨ds::rows,wr',φ',F',hK,h1,s1.trans h2,f1.trans h3,by simp[h4],?_,.cons ⟨?_,eD.dx hcells,d1.imp fun _ _ hd=>hd.mono h2.fY⟩ h6,fun i hi=>n2 i (n1 i hi)⟩
   ·intro r hr
    rcases Yl.1 hr with rfl|hr
    ·rw[e',←e,hl]
    ·exact h5 r hr
   ·have:∀v:Value,v.cells.size=v.cells.toList.length:=fun v=>by simp
    rw[this,←e,hl]
theorem FZ{sz:Nat}:∀(vs:List Value) (k:Nat) (cells:List Value),(∀v∈vs,v.cells.size=sz)→(k+vs.length)*sz≤cells.length→
 YU (fun i=>YL (i*sz,sz)) cells.toArray ((Ym k vs.length).zip vs)=YL (cf cells (k*sz) (vs.flatMap fun v=>v.cells.toList)).toArray:=by
 intro vs
 induction vs with
 |nil=>intro k cells _ h;simp[YU,cf]
 |cons v vs ih=>
  intro k cells hv h
  simp only[XI,Yg,Yd,YU]
  have e1:=hv v (by simp)
  have hle:k*sz+sz+vs.length*sz≤cells.length:=by
   simp only[XI]at h
   have:(k+(vs.length+1))*sz=k*sz+sz+vs.length*sz:=by rw[Zd,Zd];omega
   omega
  rw[if_neg (by rw[e1];simp only[ne_eq,not_true_eq_false,decide_false,Zs,decide_eq_true_eq,XO];omega)]
  have:=x7 (k*sz) v.cells cells.toArray (by rw[e1];simp;omega)
  simp only at this
  rw[this]
  have hlen:v.cells.toList.length=sz:=by simpa using e1
  rw[ih (k+1) _ (fun u hu=>hv u (by simp[hu])) (by
   rw[dD _ _ _ (by rw[hlen];omega)]
   rw[Zd,Zd];omega)]
  congr 2
  simp only[XP]
  unfold cf
  rw[XZ,X1]
  have e2:(XQ (k*sz) cells).length=k*sz:=by simp;omega
  simp only[XH,e2,hlen]
  have e3:(k+1)*sz=k*sz+sz:=by rw[Zd];omega
  rw[e3]
  rw[XS (l:=XQ (k*sz) cells++v.cells.toList) (by simp only[XH,e2,hlen];omega)]
  rw[show k*sz+sz-(k*sz+sz)=0 by omega]
  rw[XL (l:=XQ (k*sz) cells++v.cells.toList) (by simp only[XH,e2,hlen];omega)]
  simp only[X3,List.append_nil,X2,X5,XY]
  congr 4
  omega
theorem Bg{sz:Nat}:∀{rows:List (List D)} {vs:List Value} {F:Nat→Prop},bX (fun r v=>v.cells.size=sz∧v.cells.toList.all dx=Zm∧bX (dh w F) r v.cells.toList) rows vs→
 ∀(i:Nat) r,rows[i]? =YL r→∀(j:Nat) d,r[j]? =YL d→∃u,(vs.flatMap fun v=>v.cells.toList)[i*sz+j]? =YL u∧dh w F d u
 |[],[],F,_,i,r,hi,_,_,_=>by simp at hi
 |r0::rows,v0::vs,F,h,i,r,hi,j,d,hj=>by
  cases h with
  |cons hx hr=>
   obtain⟨e1,_,e2⟩:=hx
   have hl:v0.cells.toList.length=sz:=by simpa using e1
   cases i with
   |zero=>
    simp only[X6,Zl]at hi
    subst hi
    obtain⟨u,hu,hd⟩:=bX.get e2 hj
    refine⟨u,?_,hd⟩
    simp only[XP,Nat.zero_mul,Zk]
    rw[List.getElem?_append_left]
    ·exact hu
    ·exact(XF.1 hu).1
   |succ i=>
    obtain⟨u,hu,hd⟩:=Bg hr i r (by simpa using hi) j d hj
    refine⟨u,?_,hd⟩
    simp only[XP]
    rw[List.getElem?_append_right (by rw[hl,Zd];omega),hl]
    rw[show(i+1)*sz+j-sz=i*sz+j by rw[Zd];omega]
    exact hu
theorem Bf{sz:Nat}:∀{vs:List Value},(∀v∈vs,v.cells.size=sz)→(vs.flatMap fun v=>v.cells.toList).length=vs.length*sz
 |[],_=>by simp
 |v::vs,h=>by
  simp only[XP,XH,XI,Bf (vs:=vs) (fun u hu=>h u (List.mem_cons_of_mem _ hu))]
  have:v.cells.toList.length=sz:=by simpa using h v (by simp)
  rw[this,Zd];omega
theorem NI{wr:List (Nat×bw)}{φ':gP}{F':Nat→Prop}{rows:List (List D)}{sz len cap:Nat}{copt:Option Nat}{cells:List Value}(T:Yp)(hr':Rel φ' F' (hp (fE s.heap wr)) w)
 (hs':ix φ F (hp s.heap) w φ' F' (hp (fE s.heap wr)) w) (hf':Fr φ F w φ' F' w) (hlen:hp (fE s.heap wr) s.heap.length=YM)
 (hrows:∀r∈rows,r.length=sz) (hcells:∀(i:Nat) r,rows[i]? =YL r→∀(j:Nat) d,r[j]? =YL d→∃u,cells[i*sz+j]? =YL u∧dh w F' d u)
 (hle:rows.length*sz≤cells.length) (hl:len≤cap) (hl2:copt=YM→len≤rows.length) (hc:∀c,copt=YL c→c=cap) (hcap:cap*sz≤cells.length)
 {w':Yr} (hw:w'.heap=w.heap.push (.cells cells.toArray T (0,0))) (hio:Io w w')
 (hK:K ⟨YL (.one (.c (.own s.heap.length 0 0 len copt))),wr++[(s.heap.length,.arr 0 sz rows)]⟩):
 gL φ F s w K (.slice (YL ⟨w.heap.size,0,YM⟩) len cap) w':=by
 have hnone:φ' s.heap.length=YM:=by
  cases hφ:φ' s.heap.length with
  |none=>rfl
  |some x=>have:=hr'.rT _ _ hφ;simp[hlen]at this
 have hblk:w'.heap[w.heap.size]? =YL (.cells cells.toArray T (0,0)):=by rw[hw];simp
 obtain⟨h1,h2,h3⟩:=hr'.update s.heap.length (YL (w.heap.size,0)) (.arr 0 sz rows) w' (by rw[hw];simp) hio
  (fun b hb _=>by rw[hw];exact pd _ _ _ hb) (fun b o hx=>by cases hx;exact .inr (Zc _)) (by rw[hlen];trivial)
  (fun gl=> .inr ⟨w.heap.size,0,cells.toArray,T,bn _ _ _,hblk,by simpa using hle,hrows,fun i r hi j d hj=>by
    obtain⟨u,hu,hd⟩:=hcells i r hi j d hj
    exact⟨u,by simpa using hu,hd.mono gl.fY⟩⟩)
 have e:hp (fE s.heap (wr++[(s.heap.length,bw.arr 0 sz rows)]))=ed (hp (fE s.heap wr)) s.heap.length (YL (.arr 0 sz rows)):=by
  rw[jJ];exact eQ _ _ _
 refine⟨⟨_,_,F',hK,?_,by rw[e];exact h1,by rw[e];exact hs'.trans h2,hf'.trans h3⟩⟩
 intro av hav
 cases hav
 rw[e]
 refine⟨0,sz,rows,bn _ _ _,Zc _,_,len,cap,rfl,fun _=>⟨rfl,hl,hc,fun hcn=>by simpa using hl2 hcn,.inr ⟨w.heap.size,0,cells.length,bn _ _ _,by simp,?_,by simpa using hcap⟩⟩⟩
 simpa using eY hblk
theorem qJ{ρ:Yo→Value}:∀(l:List (Nat×Yo)) (k:Nat),rM k l=Zm→
 (l.map fun x=>(x.1,ρ x.2))=(Ym k (l.map fun x=>ρ x.2).length).zip (l.map fun x=>ρ x.2)
 |[],k,_=>rfl
 |(i,x)::l,k,h=>by
  simp only[rM,Zo,beq_iff_eq]at h
  obtain⟨rfl,h⟩:=h
  simp only[XM,XI,Yg,Yd]
  rw[qJ l _ h]
theorem Ci(h:dm n φ F s a w){t e:Yp}{len sz:Nat}{parts:Array (Nat×Yo)}(ho:o.op= .buildSlice t len parts)(he:Nf P t=YL e)(hs:sn P e=YL sz)
 {os:List O} (hos:zS (parts.toList.map (·.2))=YL os) (hin:rM 0 parts.toList=Zm) (hlen:parts.size=len) (hle:len*sz≤2^24) (hz:((P.info? e).bind (·.zero)).isSome=Zm)
 (hk:dp (.bslice sz os) s K):cc P o a φ F s w K:=by
 simp only[dp]at hk
 obtain⟨as,hk,hA⟩:=mn h hos hk
 obtain⟨rows,wr,φ',F',hK,h1,h2,h3,h4,h5,h6,h7⟩:=pE hk h.rel hA
 have hu:P.underlying t=YL (.slice e):=by
  unfold Nf at he;split at he
  ·cases he;assumption
  ·cases he
 obtain⟨z,hz⟩:=YR.1 hz
 have hvs:∀v∈(parts.toList.map (·.2)).map a.eval,v.cells.size=sz:=by
  intro v hv
  obtain⟨i,hi⟩:=List.mem_iff_getElem?.1 hv
  have hl:=bX.length h6
  have:i<rows.length:=by rw[hl];exact(XF.1 hi).1
  obtain⟨u,hu,hd⟩:=bX.get h6 (List.getElem?_eq_getElem this)
  rw[hi]at hu;cases hu
  exact hd.1
 have hvl:((parts.toList.map (·.2)).map a.eval).length=len:=by simp[hlen]
 have hfl:=Bf hvs
 rw[hvl]at hfl
 refine⟨_,_,.inl ?_,NI (cells:=((parts.toList.map (·.2)).map a.eval).flatMap fun v=>v.cells.toList) (w':={w with heap:=w.heap.push (.cells (((parts.toList.map (·.2)).map a.eval).flatMap fun v=>v.cells.toList).toArray e (0,0))}) e h1 h2 h3 (h7 _ (iY _)) h5 ?_ ?_ (Zc _) (fun _=>Zc _) (fun c hc=>by cases hc) ?_ rfl (Io.push rfl rfl rfl) hK⟩
 ·refine gj (x:=Y1 t len (parts.map fun(i,x)=>(i,a.eval x))) (by simp only[Yq,ho]) ?_
  simp only[Y1,run_bind,run_underlying hu,run_sizeOf hs]
  rw[if_neg (by omega)]
  have hfill:∀cells:Array Value,cells.size=len*sz→YU (fun i=>YL (i*sz,sz)) cells (parts.map fun x=>(x.1,a.eval x.2)).toList=
   YL (((parts.toList.map (·.2)).map a.eval).flatMap fun v=>v.cells.toList).toArray:=by
   intro cells hc
   have e0:(parts.map fun x=>(x.1,a.eval x.2)).toList=parts.toList.map fun x=>(x.1,a.eval x.2):=by simp
   have e1:=qJ (ρ:=a.eval) parts.toList 0 hin
   have e2:(parts.toList.map fun x=>a.eval x.2)=(parts.toList.map (·.2)).map a.eval:=by simp
   rw[e0,e1,e2]
   have:=FZ ((parts.toList.map (·.2)).map a.eval) 0 cells.toList hvs (by rw[hvl];simp[hc])
   simp only[Zw]at this
   rw[this]
   congr 2
   unfold cf
   rw[hfl]
   simp[hc]
  by_cases h0:len*sz=0
  ·simp only[h0,if_true,run_bind,run_pure]
   rw[hfill _ (by simp[h0])]
   simp only[newRow,run_bind,run_newObj,run_pure,h4,Yj,Zt,hlen]
  ·simp only[h0,if_false,run_bind,fL hz,run_pure]
   rw[hfill _ (by simp)]
   simp only[newRow,run_bind,run_newObj,run_pure,h4,Yj,Zt,hlen]
 ·exact fun i r hi j d hj=>Bg h6 i r hi j d hj
 ·rw[hfl,h4];simp[hlen]
 ·rw[hfl,h4];simp[hlen]
end
end Go.Fw
namespace Go.Fw
section
variable {P:Ys} {o:YG} {a:Act} {φ:gP} {F:Nat→Prop} {s:St} {w:Yr} {K:Out→Prop} {n:Nat}
theorem oP.set{w w':Yr}{b:Nat}{cs:List Value}{T:Yp}(h:oP w w' b cs T){xP:Array Value}{T0:Yp}
 (hold:w.heap[b]? =YL (.cells xP T0 (0,0))) (hl:cs.length=xP.size):bsize w' b=bsize w b:=by
 simp[bsize,h.bZ,hold,hl]
theorem pR{α:Type}(l:List α)(p:Nat)(ys:List α)(h:p+ys.length≤l.length)(i:Nat):(cf l p ys)[i]? =if i<p then l[i]? else if i<p+ys.length then ys[i-p]? else l[i]? :=by
 have hm:min p l.length=p:=by omega
 simp only[cf,XJ,XH,XG,hm]
 by_cases c1:i<p
 ·rw[if_pos (by omega),if_pos c1,if_pos c1,XD,if_pos c1]
 ·by_cases c2:i<p+ys.length
  ·rw[if_pos c2,if_neg c1,if_neg c1,if_pos c2]
  ·rw[if_neg c2,if_neg c1,if_neg c2,XC]
   congr 1;omega
theorem Cc{α:Type}(l:List α)(o off n:Nat)(ys:List α)(h:off+ys.length≤n)(hn:o+n≤l.length):((cf l (o+off) ys).drop o).take n=cf ((l.drop o).take n) off ys:=by
 apply List.ext_getElem?
 intro i
 rw[pR _ _ _ (by rw[XG,X0];omega),XD,XD,XC,XC,pR _ _ _ (by omega)]
 by_cases c1:i<off
 ·simp only[c1,if_true,show o+i<o+off by omega]
 ·by_cases c2:i<off+ys.length
  ·rw[if_pos (by omega),if_neg (by omega),if_pos (by omega),if_neg c1,if_pos c2]
   congr 1;omega
  ·by_cases c3:i<n
   ·rw[if_pos c3,if_neg (by omega),if_neg (by omega),if_neg c1,if_neg c2,if_pos c3]
   ·rw[if_neg c3,if_neg c1,if_neg c2,if_neg c3]
theorem Fu(h:dm n φ F s a w){t:Yp}{x y:Yo}(ho:o.op= .store t x y){m:Nat}{x' y':O}(ht:sn P t=YL m)(hx:cO x=YL x')(hy:cO y=YL y')
 (hk:dp (.store m x' y') s K):cc P o a φ F s w K:=by
 simp only[dp]at hk
 split at hk
 ·rename_i v hv
  obtain⟨hm,hpos,hk⟩:=hk
  have hcells:=cm.cells (jF h hy hv)
  have hlen:(a.eval y).cells.toList.length=m:=by rw[←bX.length hcells,hm]
  have hall:=eD.dx hcells
  have hne:(a.eval y).cells.toList≠[]:=by intro he;rw[he]at hlen;simp at hlen;omega
  split at hk
  ·rename_i id off hx'
   obtain⟨cells0,b,o',hG,hφ,he⟩:=dk h hx hx'
   rw[hG]at hk
   simp only[]at hk
   obtain⟨hle,hk⟩:=hk
   obtain⟨b',o2,cs,T,h1,h2,hl2,h3⟩:=h.rel.bZ _ _ hG
   rw[hφ]at h1;simp only[Zl,ZB]at h1
   obtain⟨rfl,rfl⟩:=h1
   obtain⟨w',hr,hone⟩:=iB (P:=P) (b:=b) (o:=o'+off) (T:=T) (a.eval y).cells.toList 0 w cs.toList (by simpa using h2) (by rw[hlen];simp;omega) hall hne
   have hsl:(cf cs.toList (o'+off+0) (a.eval y).cells.toList).length=cs.toList.length:=dD _ _ _ (by rw[hlen];simp;omega)
   have hvl:v.cells.length=m:=by rw[bX.length hcells,hlen]
   have hbl:b<w.heap.size:=h.rel.lt hφ
   refine⟨undef,w',.inr ⟨?_,rfl⟩,?_⟩
   ·refine zj (x:=YY t (a.eval x) (a.eval y)) (by simp only[Yq,ho]) ?_
    simp only[YY,he,YX,run_bind,run_pure,storeVar,run_sizeOf ht]
    rw[if_neg (by simp[←hlen])]
    exact hr
   ·have hu:ed φ id (YL (b,o'))=φ:=by funext j;by_cases hj:j=id<;>simp[ed,hj,hφ]
    refine gL.change id (YL (b,o')) (.box (cf cells0 off v.cells)) hk h.rel (by rw[hone.size];exact Zc _) hone.io ?_ ?_ ?_ ?_ ?_
    ·intro b2 _ hn;exact hone.rest b2 (fun he=>hn o' (he▸hφ))
    ·intro b2 o2 hx2;cases hx2;exact .inl ⟨o',hφ⟩
    ·rw[hG];simp only[gX];rw[hu]
     refine⟨rfl,dD _ _ _ (by rw[hvl];exact hle),fun b2 o2 hb2=>?_⟩
     rw[hφ]at hb2;simp only[Zl,ZB]at hb2
     obtain⟨rfl,rfl⟩:=hb2
     refine⟨hone.set h2 (by rw[hsl];simp),fun i hi=>?_⟩
     rw[cell?_of_heap hone.bZ,cell?_of_heap h2,XU,pR _ _ _ (by rw[hlen];simp;omega),hlen]
     rw[Zh]
     rcases hi with hi|hi
     ·rw[if_pos (by omega)];simp
     ·rw[if_neg (by omega),if_neg (by omega)];simp
    ·intro gl
     refine⟨b,o',_,T,bn _ _ _,hone.bZ,?_,?_⟩
     ·rw[dD _ _ _ (by rw[hvl];exact hle)]
      simp only[XO];rw[hsl];simpa using hl2
     ·rw[dD _ _ _ (by rw[hvl];exact hle)]
      simp only[Zh]
      rw[Cc _ _ _ _ _ (by rw[hlen];exact hle) (by simpa using hl2)]
      exact eD.cf (h3.mono gl) (hcells.mono gl) off
    ·intro _ av hav;cases hav
  ·rename_i id ep row off hx'
   obtain⟨e,sz,rows,hG,hle,A,he,hA⟩:=dk h hx hx'
   obtain⟨ds,wr,φ',F',hK,r1,s1,f1,d1,n1⟩:=mW (h:=s.heap) (wr:=[]) hk h.rel hcells
   split at hK
   ·rename_i e2 sz2 rows2 hG2
    obtain⟨rfl,r,hrow,hle2,hK⟩:=hK
    have hb:=s1.bZ id
    rw[show fE s.heap []=s.heap from rfl,hG,hG2]at hb
    obtain⟨hb1,hb2⟩:=hb
    have hee:ep=e:=by omega
    subst hee
    obtain⟨rfl,_,hφ',_⟩:=hb2 rfl
    obtain⟨b,o',hφ,hlt,rfl⟩:=hA rfl
    rw[hφ]at hφ'
    rcases r1.bZ _ _ hG2 with⟨q1,rfl⟩|⟨b',o2,cs,T,q1,q2,q3,q4,q5⟩
    ·simp at hrow
    rw[hφ']at q1;simp only[Zl,ZB]at q1
    obtain⟨rfl,rfl⟩:=q1
    have hbl:b<w.heap.size:=r1.lt hφ'
    have hrl:r.length=sz2:=q4 r (XN hrow)
    have hrowlt:row<rows2.length:=(XF.1 hrow).1
    have hmul:row*sz2+sz2≤rows2.length*sz2:=by
     have:=Zg sz2 hrowlt
     rw[Zj]at this;exact this
    obtain⟨w',hr,hone⟩:=iB (P:=P) (b:=b) (o:=o'+row*sz2+off) (T:=T) (a.eval y).cells.toList 0 w cs.toList (by simpa using q2) (by rw[hlen];simp;omega) hall hne
    refine⟨undef,w',.inr ⟨?_,rfl⟩,?_⟩
    ·refine zj (x:=YY t (a.eval x) (a.eval y)) (by simp only[Yq,ho]) ?_
     simp only[YY,he,YX,run_bind,run_pure,storeVar,run_sizeOf ht]
     rw[if_neg (by simp[←hlen])]
     exact hr
    ·have hu:ed φ' id (YL (b,o'))=φ':=by funext j;by_cases hj:j=id<;>simp[ed,hj,hφ']
     have hdl:ds.length=m:=by rw[bX.length d1,hlen]
     obtain⟨g1,g2,g3⟩:=r1.update id (YL (b,o')) (.arr ep sz2 (rows2.set row (cf r off ds))) w' (by rw[hone.size];exact Zc _) hone.io
      (fun b2 _ hn=>hone.rest b2 (fun he=>hn o' (he▸hφ'))) (fun b2 o2 hx2=>by cases hx2;exact .inl ⟨o',hφ'⟩)
      (by
        rw[hG2,hu]
        refine⟨Zc _,fun _=>⟨rfl,by simp,rfl,fun b2 o2 hb2=>?_⟩⟩
        rw[hφ']at hb2;cases hb2
        refine hone.set q2 ?_
        rw[dD _ _ _ (by rw[hlen];simp;omega)];simp)
      (fun gl=>by
        refine .inr ⟨b,o',_,T,bn _ _ _,hone.bZ,?_,?_,?_⟩
        ·simp only[XO,List.length_set]
         rw[dD _ _ _ (by rw[hlen];simp;omega)];simpa using q3
        ·intro r' hr'
         rcases List.mem_or_eq_of_mem_set hr' with hr'|rfl
         ·exact q4 r' hr'
         ·rw[dD _ _ _ (by rw[hdl];exact hle2)];exact hrl
        ·intro i r' hi j d hj
         have hst:=gl.fY
         rw[List.getElem?_set]at hi
         have hcl:(cf cs.toList (o'+row*sz2+off) (a.eval y).cells.toList).length=cs.size:=by
          rw[dD _ _ _ (by rw[hlen];simp;omega)];simp
         have hsp:∀(p:Nat),(cf cs.toList (o'+row*sz2+off+0) (a.eval y).cells.toList).toArray[p]? =
          if p<o'+row*sz2+off then cs[p]? else if p<o'+row*sz2+off+m then(a.eval y).cells.toList[p-(o'+row*sz2+off)]? else cs[p]? :=by
          intro p
          simp only[Zh,XU,cf]
          rw[XJ,XJ]
          simp only[XH,XG,Zt,hlen]
          have:min (o'+row*sz2+off) cs.size=o'+row*sz2+off:=by omega
          rw[this]
          by_cases c1:p<o'+row*sz2+off
          ·rw[if_pos (by omega),if_pos c1,if_pos c1,XD,if_pos c1];simp
          ·by_cases c2:p<o'+row*sz2+off+m
           ·rw[if_pos c2,if_neg c1,if_neg c1,if_pos c2]
           ·rw[if_neg c2,if_neg c1,if_neg c2,XC]
            simp only[Array.getElem?_toList]
            congr 1;omega
         by_cases hij:row=i
         ·subst hij
          simp only[if_true,hrowlt]at hi
          cases hi
          simp only[cf]at hj
          rw[XJ,XJ]at hj
          simp only[XH,XG,hdl]at hj
          have:min off r.length=off:=by omega
          rw[this]at hj
          rw[hsp]
          by_cases c1:j<off
          ·rw[if_pos (by omega),if_pos c1,XD,if_pos c1]at hj
           rw[if_pos (by omega)]
           obtain⟨u,hu,hd⟩:=q5 row r hrow j d hj
           exact⟨u,hu,hd.mono hst⟩
          ·by_cases c2:j<off+m
           ·rw[if_pos c2,if_neg c1]at hj
            rw[if_neg (by omega),if_pos (by omega)]
            obtain⟨u,hu,hd⟩:=bX.get d1 hj
            exact⟨u,by rw[show o'+row*sz2+j-(o'+row*sz2+off)=j-off by omega];exact hu,hd.mono hst⟩
           ·rw[if_neg c2,XC]at hj
            rw[if_neg (by omega),if_neg (by omega)]
            obtain⟨u,hu,hd⟩:=q5 row r hrow _ d hj
            exact⟨u,by rw[show off+m+(j-(off+m))=j by omega]at hu;exact hu,hd.mono hst⟩
         ·rw[if_neg hij]at hi
          obtain⟨u,hu,hd⟩:=q5 i r' hi j d hj
          refine⟨u,?_,hd.mono hst⟩
          have hjl:j<sz2:=by
           rw[←q4 r' (XN hi)];exact(XF.1 hj).1
          rw[hsp]
          rcases Nat.lt_or_gt_of_ne hij with hlt|hgt
          ·have:row*sz2+sz2≤i*sz2:=by have:=Zg sz2 hlt;rw[Zj]at this;exact this
           rw[if_neg (by omega),if_neg (by omega)];exact hu
          ·have:i*sz2+sz2≤row*sz2:=by have:=Zg sz2 hgt;rw[Zj]at this;exact this
           rw[if_pos (by omega)];exact hu)
     have e:hp (fE s.heap (wr++[(id,bw.arr ep sz2 (rows2.set row (cf r off ds)))]))=ed (hp (fE s.heap wr)) id (YL (bw.arr ep sz2 (rows2.set row (cf r off ds)))):=by
      rw[jJ];exact eQ _ _ _
     exact⟨⟨_,_,F',hK,(fun av hav=>by cases hav),(by rw[e];exact g1),(by rw[e];exact s1.trans g2),f1.trans g3⟩⟩
   ·exact hK.elim
  ·exact hk.elim
 ·exact hk.elim
theorem Cg(h:dm n φ F s a w){t:Yp}{x:Yo}{f:Nat}(ho:o.op= .fieldAddr t x f){fields:Array Yx}(hu:P.underlying t=YL (.struct fields)){fd:Yx}(hf:fields[f]? =YL fd)
 {k:Nat} (hs:sn P fd.type=YL (k+1)) {y:O} (hc:cO x=YL y) (hk:dp (.fieldA fd.offset y) s K):cc P o a φ F s w K:=by
 have key:∀b off,a.eval x= .pointer (YL ⟨b,off,YM⟩)→(Yq a.eval o).run P w= .ok (.value (.pointer (YL ⟨b,off+fd.offset,YM⟩))) w:=by
  intro b off he
  refine gj (x:=Y5 t (a.eval x) f) (by simp only[Yq,ho]) ?_
  simp only[Y5,run_bind,run_underlying hu,hf,he,YX,run_pure,fieldPlace,run_sizeOf hs,Nat.add_one_ne_zero,if_false,jc]
 simp only[dp]at hk
 split at hk
 ·rename_i id o' hy
  obtain⟨cells,b,o2,hG,hφ,he⟩:=dk h hc hy
  exact cc.eh h (key _ _ he) hk ⟨cells,b,o2,hG,hφ,by rw[Zf]⟩
 ·rename_i id ep row o' hy
  obtain⟨e,sz,rows,hG,hle,A,he,hA⟩:=dk h hc hy
  rw[hG]at hk
  simp only[]at hk
  obtain⟨rfl,hk⟩:=hk
  obtain⟨b,o2,hφ,hlt,rfl⟩:=hA rfl
  exact cc.eh h (key _ _ he) hk ⟨ep,sz,rows,hG,hle,_,rfl,fun _=>⟨b,o2,hφ,hlt,by rw[Zf]⟩⟩
 ·rename_i cells hy
  obtain⟨b,o',hF,he,hk'⟩:=dk h hc hy
  refine cc.eh h (key _ _ he) hk ⟨b,o'+fd.offset,hF,rfl,fun j d hj=>?_⟩
  rw[XC]at hj
  obtain⟨u,hu,hd⟩:=hk' _ d hj
  exact⟨u,by rw[Zf];exact hu,hd⟩
 ·exact hk.elim
theorem yq(h:dm n φ F s a w){x:Yo}(ho:o.op= .nilCheck x){y:O}(hc:cO x=YL y)(hk:dp (.fieldA 0 y) s K):cc P o a φ F s w K:=by
 have key:∀b off,a.eval x= .pointer (YL ⟨b,off,YM⟩)→(Yq a.eval o).run P w= .ok (.value (.pointer (YL ⟨b,off+0,YM⟩))) w:=by
  intro b off he
  simp only[Yq,ho,he];rfl
 simp only[dp]at hk
 split at hk
 ·rename_i id o' hy
  obtain⟨cells,b,o2,hG,hφ,he⟩:=dk h hc hy
  exact cc.eh h (key _ _ he) hk ⟨cells,b,o2,hG,hφ,by rw[Zf]⟩
 ·rename_i id ep row o' hy
  obtain⟨e,sz,rows,hG,hle,A,he,hA⟩:=dk h hc hy
  rw[hG]at hk
  simp only[]at hk
  obtain⟨rfl,hk⟩:=hk
  obtain⟨b,o2,hφ,hlt,rfl⟩:=hA rfl
  exact cc.eh h (key _ _ he) hk ⟨ep,sz,rows,hG,hle,_,rfl,fun _=>⟨b,o2,hφ,hlt,by rw[Zf]⟩⟩
 ·rename_i cells hy
  obtain⟨b,o',hF,he,hk'⟩:=dk h hc hy
  refine cc.eh h (key _ _ he) hk ⟨b,o'+0,hF,rfl,fun j d hj=>?_⟩
  rw[XC]at hj
  obtain⟨u,hu,hd⟩:=hk' _ d hj
  exact⟨u,by rw[Zf];exact hu,hd⟩
 ·exact hk.elim
theorem Fy(h:dm n φ F s a w){t:Yp}{x:Yo}{f:Nat}(ho:o.op= .field t x f){fields:Array Yx}(hu:P.underlying t=YL (.struct fields)){fd:Yx}(hf:fields[f]? =YL fd)
 {m:Option Nat} (hs:k9 P fd.type=YL m) {y:O} (hc:cO x=YL y) (hk:dp (.field fd.offset m y) s K):cc P o a φ F s w K:=by
 simp only[dp]at hk
 split at hk
 ·rename_i cs hy
  obtain⟨vs,he,hcs⟩:=jF h hc hy
  suffices hh:∃av v,(part fd.type vs.toArray fd.offset).run P w= .ok v w∧K ⟨YL av,[]⟩∧ec φ F (hp s.heap) w av v by
   obtain⟨av,v,hr,hK,hv⟩:=hh
   refine cc.eh h ?_ hK hv
   refine gj (x:=Za t (a.eval x) f) (by simp only[Yq,ho]) ?_
   simp only[Za,run_bind,run_underlying hu,hf,he,asAgg,run_pure]
   exact hr
  have hcs':=hcs.drop fd.offset
  rcases oF hs with⟨rfl,ha,hsz⟩|⟨k,rfl,ha,hsz⟩
  ·simp only[s5]at hk
   generalize hcd:cs.drop fd.offset=cs' at hk hcs'
   cases cs' with
   |nil=>exact hk.elim
   |cons c cs'=>
    generalize hvd:vs.drop fd.offset=vs' at hcs'
    cases hcs' with
    |cons hx hr=>
     rename_i v vs''
     refine⟨_,v,?_,hk,hx⟩
     simp only[part,run_bind,l6 ha,Zp,if_false]
     have:vs.toArray[fd.offset]? =YL v:=by
      have:(vs.drop fd.offset)[0]? =YL v:=by rw[hvd];rfl
      rw[XC]at this
      simpa using this
     rw[this];rfl
  ·obtain⟨hle,hk⟩:=hk
   have hlen:=bX.length hcs'
   refine⟨_,.agg ((vs.drop fd.offset).take k).toArray,?_,hk,⟨_,rfl,hcs'.take k⟩⟩
   simp only[part,run_bind,l6 ha,if_true,run_sizeOf hsz,run_pure]
   congr 2
   apply Zv
   simp only[Array.toList_extract,List.extract_eq_take_drop]
   congr 1;omega
 ·exact hk.elim
theorem FA{t e:Yp}(h:Nf P t=YL e):P.underlying t=YL (.slice e):=by
 unfold Nf at h;split at h
 ·cases h;assumption
 ·cases h
theorem tc{v:Value}{L:Nat→Prop}(h:idx v L):∃(k:Yv) (j:Nat),v= .int k j∧L j:=by
 cases v with
 |int k j=>
  obtain⟨h0,h⟩:=h
  exact⟨k,j.toNat,by rw[Int.toNat_of_nonneg h0],h⟩
 |_=>exact h.elim
theorem Cf(h:dm n φ F s a w){t e:Yp}{x i:Yo}(ho:o.op= .indexAddr t x i)(he:Nf P t=YL e){sz:Nat}(hs:sn P e=YL sz){x' i':O}(hx:cO x=YL x')(hi:cO i=YL i')
 (hk:dp (.indexA sz x' i') s K):cc P o a φ F s w K:=by
 have hu:=FA he
 simp only[dp]at hk
 split at hk
 ·rename_i v hv
  have hv:=ee h hi hv
  obtain⟨k,j,rfl,hk1⟩:=tc hk
  clear hk
  have hk:=hk1
  clear hk1
  have key:∀b off len cap,a.eval x= .slice (YL ⟨b,off,YM⟩) len cap→j<len→(Yq a.eval o).run P w= .ok (.value (.pointer (YL ⟨b,off+j*sz,YM⟩))) w:=by
   intro b off len cap hx' hj
   refine gj (x:=Y4 t (a.eval x) (a.eval i)) (by simp only[Yq,ho]) ?_
   simp only[Y4,hv,hx',run_bind,asIntOf,run_pure,run_underlying hu]
   rw[if_pos (by omega)]
   simp only[run_bind,run_sizeOf hs,run_pure,Int.toNat_natCast,jc]
  split at hk
  ·rename_i rows hx'
   obtain⟨r,hr,hrl,hk⟩:=hk
   have hd:=dk h hx hx'
   generalize hval:a.eval x=val at hd
   cases hd with
   |nil A cap=>simp at hr
   |sl _ b o' sz' cap u hF hc hsz hcell hrep=>
    have hlt:j<rows.length:=(XF.1 hr).1
    have hss:sz'=sz:=by rw[←hsz r (XN hr),hrl]
    subst hss
    exact cc.eh h (key b o' _ _ hval hlt) hk ⟨b,_,hF,rfl,fun q d hq=>⟨_,hcell j r hr q d hq,hrep j r hr q d hq⟩⟩
  ·rename_i id ep off len cap hx'
   obtain⟨hlt,hk⟩:=hk
   obtain⟨e1,sz1,rows,hG,hle,A,l,kk,he',hA⟩:=dk h hx hx'
   rw[hG]at hk
   simp only[]at hk
   obtain⟨rfl,rfl,hrl,hk⟩:=hk
   obtain⟨rfl,h1,_,_,h2⟩:=hA rfl
   rcases h2 with h2|⟨b,o',m,hφ,rfl,hm,hle2⟩
   ·omega
   refine cc.eh h (key b _ _ _ he' hlt) hk ⟨ep,sz1,rows,hG,hle,_,rfl,fun _=>⟨b,o',hφ,hrl,?_⟩⟩
   rw[Zd];congr 2;omega
  ·exact hk.elim
 ·exact hk.elim
theorem GZ(h:dm n φ F s a w){t:Yp}{x i:Yo}(ho:o.op= .index t x i)(hu:P.underlying t=YL .string){x' i':O}(hx:cO x=YL x')(hi:cO i=YL i')
 (hk:dp (.sidx x' i') s K):cc P o a φ F s w K:=by
 simp only[dp]at hk
 split at hk
 ·rename_i b v hb hv
  have hv:=ee h hi hv
  have hb:=ee h hx hb
  obtain⟨k,j,rfl,c,hc,hk⟩:=tc hk
  refine cc.eh h ?_ hk (dh.v _ rfl)
  refine gj (x:=Y9 t (a.eval x) (a.eval i)) (by simp only[Yq,ho]) ?_
  simp only[Y9,hv,hb,run_bind,asIntOf,run_pure,run_underlying hu]
  rw[if_pos (by omega)]
  simp only[Int.toNat_natCast,hc,run_pure]
 ·exact hk.elim
end
end Go.Fw
namespace Go.Fw
section
variable {P:Ys} {o:YG} {a:Act} {φ:gP} {F:Nat→Prop} {s:St} {w:Yr} {K:Out→Prop} {n:Nat}
def Bd(a:Act)(x:Option Yo)(d j:Nat):Prop:=
 match x with
 |none=>j=d
 |some x=>∃k:Yv,a.eval x= .int k j
theorem eA(h:dm n φ F s a w){x:Option Yo}{y:Option O}(hc:nN x=YL y){d:Nat}{L:Nat→Prop}(hl:ia s y d L):
 ∃j:Nat,L j∧Bd a x d j:=by
 cases x with
 |none=>cases hc;exact⟨d,hl,rfl⟩
 |some x=>
  simp only[nN,YN]at hc
  obtain⟨z,hz,rfl⟩:=hc
  simp only[ia]at hl
  split at hl
  ·rename_i v hv
   have hv:=ee h hz hv
   obtain⟨k,j,rfl,hl1⟩:=tc hl
   exact⟨j,hl1,k,hv⟩
  ·exact hl.elim
theorem run_sliceBound{k:Yv}{j y:Nat}{code:BoundsCode}(hj:j≤y):(Y0 (.int k j) y code).run P w= .ok j w:=by
 simp only[Y0,asIntOf,run_bind,run_pure]
 rw[if_pos (by omega)]
 simp[run_pure]
theorem nm{isSlice:Bool}{len cap:Nat}{lo hi mx:Option Yo}{l hh m:Nat}
 (hm:Bd a mx cap m)
 (hhi:Bd a hi len hh)
 (hlo:Bd a lo 0 l)
 (hmx:mx.isSome=Zm→hi.isSome=Zm) (h1:l≤hh) (h2:hh≤m) (h3:m≤cap):
 (YT isSlice len cap (lo.map a.eval) (hi.map a.eval) (mx.map a.eval)).run P w= .ok (l,hh,m) w:=by
 unfold Bd at hm hhi hlo
 cases mx with
 |none=>
  simp only at hm;subst hm
  cases hi with
  |none=>
   simp only at hhi;subst hhi
   cases lo with
   |none=>simp only at hlo;subst hlo;simp[YT,run_pure,run_bind]
   |some x=>obtain⟨k,hk⟩:=hlo;simp[YT,run_pure,run_bind,hk,run_sliceBound h1]
  |some y=>
   obtain⟨k',hk'⟩:=hhi
   cases lo with
   |none=>simp only at hlo;subst hlo;simp[YT,run_pure,run_bind,hk',run_sliceBound h2]
   |some x=>obtain⟨k,hk⟩:=hlo;simp[YT,run_pure,run_bind,hk,hk',run_sliceBound h1,run_sliceBound h2]
 |some z=>
  obtain⟨k2,hk2⟩:=hm
  cases hi with
  |none=>simp at hmx
  |some y=>
   obtain⟨k',hk'⟩:=hhi
   cases lo with
   |none=>simp only at hlo;subst hlo;simp[YT,run_pure,run_bind,hk',hk2,run_sliceBound h2,run_sliceBound h3]
   |some x=>obtain⟨k,hk⟩:=hlo;simp[YT,run_pure,run_bind,hk,hk',hk2,run_sliceBound h1,run_sliceBound h2,run_sliceBound h3]
theorem An{t e:Yp}{sz:Nat}(hu:P.underlying t=YL (.slice e))(hs:sn P e=YL sz){A:Option YH}{len cap:Nat}{lo hi mx:Option Yo}{l hh m:Nat}
 (hm:Bd a mx cap m)
 (hhi:Bd a hi len hh)
 (hlo:Bd a lo 0 l)
 (hmx:mx.isSome=Zm→hi.isSome=Zm) (h1:l≤hh) (h2:hh≤m) (h3:m≤cap):
 (YV t (.slice A len cap) (lo.map a.eval) (hi.map a.eval) (mx.map a.eval)).run P w=
   .ok (.slice (if m=l then A else A.map (·.add (l*sz))) (hh-l) (m-l)) w:=by
 simp only[YV,run_bind,run_underlying hu,Y8,nm hm hhi hlo hmx h1 h2 h3,run_sizeOf hs,run_pure]
theorem Fv(h:dm n φ F s a w){t e:Yp}{x:Yo}{lo hi mx:Option Yo}(ho:o.op= .slice t x lo hi mx)(hu:P.underlying t=YL (.slice e)){sz:Nat}(hs:sn P e=YL sz)
 {x':O} {lo' hi' mx':Option O} (hx:cO x=YL x') (hlo:nN lo=YL lo') (hhi:nN hi=YL hi') (hmx:nN mx=YL mx') (hmh:mx.isSome=Zm→hi.isSome=Zm)
 (hk:dp (.slice sz x' lo' hi' mx') s K):cc P o a φ F s w K:=by
 have key:∀{A:Option YH} {len cap l hh m:Nat},a.eval x= .slice A len cap→Bd a mx cap m→Bd a hi len hh→Bd a lo 0 l→l≤hh→hh≤m→m≤cap→
  (Yq a.eval o).run P w= .ok (.value (.slice (if m=l then A else A.map (·.add (l*sz))) (hh-l) (m-l))) w:=by
  intro A len cap l hh m hx' hm hhi hlo h1 h2 h3
  refine gj (x:=YV t (a.eval x) (lo.map a.eval) (hi.map a.eval) (mx.map a.eval)) (by simp only[Yq,ho]) ?_
  rw[hx']
  exact An hu hs hm hhi hlo hmh h1 h2 h3
 simp only[dp]at hk
 split at hk
 ·rename_i rows hx'
  split at hk
  ·obtain⟨hh,hk,ehi⟩:=eA h hhi hk
   obtain⟨l,hk,elo⟩:=eA h hlo hk
   obtain⟨h1,h2,h3,hk⟩:=hk
   have hmx0:mx=YM:=by cases mx with|none=>rfl|some z=>simp[nN]at hmx
   subst hmx0
   have hd:=dk h hx hx'
   generalize hval:a.eval x=val at hd
   cases hd with
   |nil A cap=>
    refine cc.eh h (key (m:=cap) hval rfl (by simpa using ehi) elo h1 (by simp at h2;omega) (Zc _)) hk ?_
    have:hh=0:=by simpa using h2
    subst this
    have:l=0:=by omega
    subst this
    exact dh.nil _ _
   |sl _ b o' sz' cap u hF hc hsz hcell hrep=>
    refine cc.eh h (key (m:=cap) hval rfl (by simpa using ehi) elo h1 (by omega) (Zc _)) hk ?_
    by_cases h0:hh-l=0
    ·have:(rows.take hh).drop l=[]:=by apply XL;simp;omega
     rw[this,h0];exact dh.nil _ _
    ·rw[if_neg (by omega)]
     have hlen:((rows.take hh).drop l).length=hh-l:=by simp;omega
     have key2:∀(i:Nat) row,((rows.take hh).drop l)[i]? =YL row→rows[l+i]? =YL row:=by
      intro i row hi
      rw[XC,XD]at hi
      split at hi
      ·exact hi
      ·cases hi
     have hss:sz'=sz:=by
      have hne:rows≠[]:=by intro he;subst he;simp at h2;omega
      obtain⟨r,rr,rfl⟩:=List.exists_cons_of_ne_nil hne
      rw[←hsz r (by simp),h3 r (by simp)]
     subst hss
     have:=dh.sl (w:=w) (F:=F) ((rows.take hh).drop l) b (o'+l*sz') sz' (cap-l) (fun i j=>u (l+i) j) hF (by omega)
      (fun row hr=>hsz row (X9 (Ya hr)))
      (fun i row hi j d hj=>by
        have:=hcell (l+i) row (key2 i row hi) j d hj
        rw[Zd]at this
        rw[show o'+l*sz'+i*sz'+j=o'+(l*sz'+i*sz')+j by omega];exact this)
      (fun i row hi j d hj=>hrep (l+i) row (key2 i row hi) j d hj)
     rw[hlen]at this
     simp only[YP,jc]
     exact this
  ·rename_i mo
   obtain⟨m,hk,em⟩:=eA h hmx hk
   obtain⟨hh,hk,ehi⟩:=eA h hhi hk
   obtain⟨l,hk,elo⟩:=eA h hlo hk
   obtain⟨rfl,rfl,h3,hk⟩:=hk
   have hd:=dk h hx hx'
   have fin:∀{A:Option YH} {k:Nat},a.eval x= .slice A rows.length k→rows.length≤k→cc P o a φ F s w K:=by
    intro A k hval hle
    have em':Bd a mx k l:=by
     cases mx with
     |none=>simp[nN]at hmx
     |some z=>exact em
    have hr:=key (m:=l) hval em' ehi elo (Zc _) (Zc _) (by omega)
    rw[if_pos rfl,Nat.sub_self]at hr
    refine⟨_,_,.inl hr,?_⟩
    refine gL.change s.heap.length YM (.arr 0 sz []) hk h.rel (Zc _) (Io.refl _) (fun _ _ _=>rfl) (fun b o hx=>by cases hx) (by rw[iY];trivial) (fun _=> .inl ⟨bn _ _ _,rfl⟩) ?_
    intro gl av hav;cases hav
    exact⟨0,sz,[],bn _ _ _,Zc _,A,0,0,rfl,fun _=>⟨rfl,Zc _,fun c hc=>(by cases hc),fun _=>(by simp),.inl rfl⟩⟩
   generalize hval:a.eval x=val at hd
   cases hd with
   |nil A cap=>exact fin hval (Nat.zero_le _)
   |sl _ b o' sz' cap u hF hc hsz hcell hrep=>exact fin hval hc
 ·rename_i hx'
  obtain⟨rfl,hk⟩:=hk
  obtain⟨hh,hk,ehi⟩:=eA h hhi hk
  obtain⟨l,hk,elo⟩:=eA h hlo hk
  obtain⟨rfl,rfl,hk2⟩:=hk
  have hmx0:mx=YM:=by cases mx with|none=>rfl|some z=>simp[nN]at hmx
  subst hmx0
  have hval:a.eval x= .slice YM 0 0:=by
   have hd:=dk h hx hx'
   generalize a.eval x=val at hd
   cases hd;rfl
  have:=key (m:=0) hval rfl ehi elo (Zc _) (Zc _) (Zc _)
  exact cc.eh h this hk2 (dh.v _ rfl)
 ·rename_i id ep off len cap hx'
  obtain⟨e1,sz1,rows,hG,hle,A,l0,k0,he',hA⟩:=dk h hx hx'
  rw[hG]at hk
  simp only[]at hk
  obtain⟨rfl,rfl,hk⟩:=hk
  obtain⟨rfl,g1,g2,g3,g4⟩:=hA rfl
  have fin:∀{l hh m:Nat} {copt:Option Nat},l≤hh→hh≤m→m≤k0→(∀c,copt=YL c→c=m-l)→(copt=YM→off+hh≤rows.length)→
   dA φ F (hp s.heap) w (.own id ep (off+l) (hh-l) copt) (.slice (if m=l then A else A.map (·.add (l*sz1))) (hh-l) (m-l)):=by
   intro l hh m copt h1 h2 h3 h4 h5
   refine⟨ep,sz1,rows,hG,Zc _,_,_,_,rfl,fun _=>⟨rfl,by omega,h4,fun hc=>by have:=h5 hc;omega,?_⟩⟩
   by_cases hml:m=l
   ·exact .inl (by omega)
   ·rw[if_neg hml]
    rcases g4 with g4|⟨b,o2,nn,q1,rfl,q3,q4⟩
    ·omega
    refine .inr ⟨b,o2,nn,q1,?_,q3,?_⟩
    ·simp only[YP,jc,Zl,Addr.mk.injEq,and_true,true_and]
     rw[Zd];omega
    ·have:(off+l)*sz1+(m-l)*sz1≤off*sz1+k0*sz1:=by
      rw[←Zd,←Zd];exact Zg _ (by omega)
     omega
  split at hk
  ·split at hk
   ·have hmx0:mx=YM:=by cases mx with|none=>rfl|some z=>simp[nN]at hmx
    subst hmx0
    obtain⟨hh,hk,ehi⟩:=eA h hhi hk
    obtain⟨l,hk,elo⟩:=eA h hlo hk
    obtain⟨h1,h2,hk⟩:=hk
    refine cc.eh h (key (m:=k0) he' rfl ehi elo h1 (by omega) (Zc _)) hk (fin h1 (by omega) (Zc _) (fun c hc=>by cases hc) (fun _=>?_))
    have:=g3 rfl;omega
   ·rename_i mo
    obtain⟨m,hk,em⟩:=eA h hmx hk
    obtain⟨hh,hk,ehi⟩:=eA h hhi hk
    obtain⟨l,hk,elo⟩:=eA h hlo hk
    obtain⟨h1,h2,h3,hk⟩:=hk
    have em':Bd a mx k0 m:=by
     cases mx with
     |none=>simp[nN]at hmx
     |some z=>exact em
    exact cc.eh h (key (m:=m) he' em' ehi elo h1 h2 (by omega)) hk (fin h1 h2 (by omega) (fun c hc=>by cases hc;rfl) (fun hc=>by cases hc))
  ·rename_i c
   have:=g2 c rfl
   subst this
   obtain⟨m,hk,em⟩:=eA h hmx hk
   obtain⟨hh,hk,ehi⟩:=eA h hhi hk
   obtain⟨l,hk,elo⟩:=eA h hlo hk
   obtain⟨h1,h2,h3,hk⟩:=hk
   exact cc.eh h (key (m:=m) he' em ehi elo h1 h2 h3) hk (fin h1 h2 h3 (fun c hc=>by cases hc;rfl) (fun hc=>by cases hc))
 ·exact hk.elim
theorem Ce(h:dm n φ F s a w){t:Yp}{x:Yo}{lo hi:Option Yo}(ho:o.op= .slice t x lo hi YM)(hu:P.underlying t=YL .string)
 {x':O} {lo' hi':Option O} (hx:cO x=YL x') (hlo:nN lo=YL lo') (hhi:nN hi=YL hi')
 (hk:dp (.sslice x' lo' hi') s K):cc P o a φ F s w K:=by
 simp only[dp]at hk
 split at hk
 ·rename_i b hx'
  have hval:=ee h hx hx'
  obtain⟨hh,hk,ehi⟩:=eA h hhi hk
  obtain⟨l,hk,elo⟩:=eA h hlo hk
  obtain⟨h1,h2,hk⟩:=hk
  refine cc.eh h ?_ hk (dh.v _ rfl)
  refine gj (x:=YV t (a.eval x) (lo.map a.eval) (hi.map a.eval) YM) (by simp only[Yq,ho,YQ]) ?_
  simp only[YV,run_bind,run_underlying hu,Y8,hval]
  have:=nm (P:=P) (w:=w) (a:=a) (isSlice:=Zn) (len:=b.size) (cap:=b.size) (lo:=lo) (hi:=hi) (mx:=YM) (m:=b.size) rfl ehi elo (by simp) h1 h2 (Zc _)
  simp only[YQ]at this
  simp[this,run_pure]
 ·exact hk.elim
theorem K9(h:dm n φ F s a w){x:Yo}{i:Nat}(ho:o.op= .extract x i){x':O}(hx:cO x=YL x')(hk:dp (.ext x' i) s K):cc P o a φ F s w K:=by
 simp only[dp]at hk
 split at hk
 ·rename_i l hl
  split at hk
  ·rename_i av hav
   obtain⟨vs,he,hvs⟩:=jF h hx hl
   obtain⟨v,hv,hr⟩:=bX.get hvs hav
   refine cc.eh h ?_ hk hr
   refine gj (x:=Y6 (a.eval x) i) (by simp only[Yq,ho]) ?_
   simp[Y6,he,hv,run_pure]
  ·exact hk.elim
 ·exact hk.elim
theorem wA(h:dm n φ F s a w):∀{xs:List Yo} {os:List O} {L:List (Nat×Nat)→Prop},zS xs=YL os→gV s os L→
 ∃cs,L cs∧(xs.map a.eval).length=cs.length∧∀(j:Nat) c,cs[j]? =YL c→∃cells b o,hp s.heap c.1=YL (.box cells)∧φ c.1=YL (b,o)∧(xs.map a.eval)[j]? =YL (.pointer (YL ⟨b,o+c.2,YM⟩))
 |[],os,L,hc,hl=>by cases hc;exact⟨[],hl,rfl,fun j c hj=>by simp at hj⟩
 |x::r,os,L,hc,hl=>by
  simp only[zS,YO,YN]at hc
  obtain⟨y,hy,ys,hys,rfl⟩:=hc
  simp only[gV]at hl
  split at hl
  ·rename_i id off hv
   obtain⟨cells,b,o',hG,hφ,he⟩:=dk h hy hv
   obtain⟨cs,hL,h1,h2⟩:=wA h hys hl
   refine⟨(id,off)::cs,hL,by simpa using h1,fun j c hj=>?_⟩
   cases j with
   |zero=>simp only[X6,Zl]at hj;subst hj;exact⟨cells,b,o',hG,hφ,by simp[he]⟩
   |succ j=>simpa using h2 j c (by simpa using hj)
  ·exact hl.elim
theorem Nd(h:dm n φ F s a w){f:YA}{first captured:Array Yo}(ho:o.op= .makeFunc (.func f) first captured)(hf:first.isEmpty=Zm){os:List O}(hos:zS captured.toList=YL os)
 (hk:dp (.fn f os) s K):cc P o a φ F s w K:=by
 simp only[dp]at hk
 obtain⟨cs,hL,h1,h2⟩:=wA h hos hk
 refine cc.eh (v:= .func (.func f) #[] (captured.toList.map a.eval).toArray) h ?_ hL ⟨_,rfl,h1,h2⟩
 have hf':first= #[]:=by simpa using hf
 refine gj (x:=Y2 (.func f) (first.map a.eval) (captured.map a.eval)) (by simp only[Yq,ho]) ?_
 subst hf'
 have:captured.map a.eval=(captured.toList.map a.eval).toArray:=by apply Zv;simp
 rw[this]
 simp only[Y2,List.map_toArray,X7]
 rfl
theorem jT{α:Type}{xs:Array α}{x:α}(h:xs.toList=[x]):xs= #[x]:=by apply Zv;simpa using h
theorem kL{α:Type}{xs:Array α}{x y:α}(h:xs.toList=[x,y]):xs= #[x,y]:=by apply Zv;simpa using h
theorem K8(h:dm n φ F s a w){x:Yo}{t e:Yp}{args:Array Yo}{ts:Array Yp}(ho:o.op= .call {callee:= .builtin .len,args,argTypes:=ts})(hargs:args.toList=[x])(hts:ts.toList=[t])
 (hu:P.underlying t=YL (.slice e)) {x':O} (hx:cO x=YL x') (hk:dp (.len x') s K):cc P o a φ F s w K:=by
 obtain rfl:=jT hargs
 obtain rfl:=jT hts
 have key:∀A l k,a.eval x= .slice A l k→(Yq a.eval o).run P w= .ok (.value (.int .i64 l)) w:=by
  intro A l k hx'
  simp[Yq,ho,resolve,run_bind,run_pure,invoke,builtin,ZQ,run_underlying hu,hx',goInt]
 simp only[dp]at hk
 split at hk
 ·rename_i rows hx'
  have hd:=dk h hx hx'
  generalize hval:a.eval x=val at hd
  cases hd with
  |nil A cap=>exact cc.eh h (key _ _ _ hval) hk (dh.v _ rfl)
  |sl _ b o' sz' cap u hF hc hsz hcell hrep=>exact cc.eh h (key _ _ _ hval) hk (dh.v _ rfl)
 ·rename_i A l k hx'
  have hd:=dk h hx hx'
  generalize hval:a.eval x=val at hd
  cases hd
  exact cc.eh h (key _ _ _ hval) hk (dh.v _ rfl)
 ·rename_i id ep off len cap hx'
  obtain⟨e1,sz1,rows,hG,hle,A,l0,k0,he',hA⟩:=dk h hx hx'
  rw[hG]at hk
  simp only[]at hk
  obtain⟨rfl,hk⟩:=hk
  obtain⟨rfl,_⟩:=hA rfl
  exact cc.eh h (key _ _ _ he') hk (dh.v _ rfl)
 ·exact hk.elim
theorem GY(h:dm n φ F s a w){x:Yo}{t:Yp}{args:Array Yo}{ts:Array Yp}(ho:o.op= .call {callee:= .builtin .len,args,argTypes:=ts})(hargs:args.toList=[x])(hts:ts.toList=[t])
 (hu:P.underlying t=YL .string) {x':O} (hx:cO x=YL x') (hk:dp (.slen x') s K):cc P o a φ F s w K:=by
 obtain rfl:=jT hargs
 obtain rfl:=jT hts
 simp only[dp]at hk
 split at hk
 ·rename_i b hx'
  have hval:=ee h hx hx'
  refine cc.eh (v:= .int .i64 b.size) h ?_ hk (dh.v _ rfl)
  simp[Yq,ho,resolve,run_bind,run_pure,invoke,builtin,ZQ,run_underlying hu,hval,goInt]
 ·exact hk.elim
theorem La(h:dm n φ F s a w){x:Yo}{t e:Yp}{args:Array Yo}{ts:Array Yp}(ho:o.op= .call {callee:= .builtin .cap,args,argTypes:=ts})(hargs:args.toList=[x])(hts:ts.toList=[t])
 (hu:P.underlying t=YL (.slice e)) {x':O} (hx:cO x=YL x') (hk:dp (.cap x') s K):cc P o a φ F s w K:=by
 obtain rfl:=jT hargs
 obtain rfl:=jT hts
 simp only[dp]at hk
 split at hk
 ·rename_i id ep off len c hx'
  obtain⟨e1,sz1,rows,hG,hle,A,l0,k0,he',hA⟩:=dk h hx hx'
  rw[hG]at hk
  simp only[]at hk
  obtain⟨rfl,hk⟩:=hk
  obtain⟨rfl,_,g2,_⟩:=hA rfl
  have:=g2 c rfl
  subst this
  refine cc.eh (v:= .int .i64 c) h ?_ hk (dh.v _ rfl)
  simp[Yq,ho,resolve,run_bind,run_pure,invoke,builtin,ZU,run_underlying hu,he',goInt]
 ·exact hk.elim
theorem K7(h:dm n φ F s a w){x y:Yo}{args:Array Yo}{ts:Array Yp}(ho:o.op= .call {callee:= .builtin .max,args,argTypes:=ts})(hargs:args.toList=[x,y])
 {x' y':O} (hx:cO x=YL x') (hy:cO y=YL y') (hk:dp (.max x' y') s K):cc P o a φ F s w K:=by
 obtain rfl:=kL hargs
 simp only[dp]at hk
 split at hk
 ·rename_i k p k' q hx' hy'
  have h1:=ee h hx hx'
  have h2:=ee h hy hy'
  refine cc.eh h ?_ hk (dh.v _ rfl)
  simp[Yq,ho,resolve,run_bind,run_pure,invoke,builtin,ZS,ZT,h1,h2]
 ·exact hk.elim
theorem K6(h:dm n φ F s a w){x y:Yo}{args:Array Yo}{ts:Array Yp}(ho:o.op= .call {callee:= .builtin .min,args,argTypes:=ts})(hargs:args.toList=[x,y])
 {x' y':O} (hx:cO x=YL x') (hy:cO y=YL y') (hk:dp (.min x' y') s K):cc P o a φ F s w K:=by
 obtain rfl:=kL hargs
 simp only[dp]at hk
 split at hk
 ·rename_i k p k' q hx' hy'
  have h1:=ee h hx hx'
  have h2:=ee h hy hy'
  refine cc.eh h ?_ hk (dh.v _ rfl)
  simp[Yq,ho,resolve,run_bind,run_pure,invoke,builtin,ZR,ZP,h1,h2]
 ·exact hk.elim
theorem xR{s:St}{a:Act}{w:Yr}{φ:gP}{F:Nat→Prop}{K:Out→Prop}{n:Nat}(h:dm n φ F s a w):∀(xs:List Yo) (os:List O) (k:Yv) (p:Int),zS xs=YL os→px s os k p K→
 ∃q:Int,ey K (.int k q)∧((xs.map a.eval).foldlM ZP (.int k p)).run P w= .ok (.int k q) w
 |[],os,k,p,hc,hm=>by
  cases hc
  exact⟨p,hm,rfl⟩
 |x::xs,os,k,p,hc,hm=>by
  simp only[zS,YO,YN]at hc
  obtain⟨y,hy,os',hos,rfl⟩:=hc
  simp only[px]at hm
  split at hm
  ·rename_i k' b hb
   have h1:=ee h hy hb
   obtain⟨q,hq,hr⟩:=xR h xs os' k _ hos hm
   refine⟨q,hq,?_⟩
   simp only[XM,List.foldlM_cons,h1,ZP,run_bind,run_pure]
   exact hr
  ·exact hm.elim
theorem G4(h:dm n φ F s a w){x:Yo}{r:List Yo}{args:Array Yo}{ts:Array Yp}(ho:o.op= .call {callee:= .builtin .min,args,argTypes:=ts})(hargs:args.toList=x::r)
 {x':O} {r':List O} (hx:cO x=YL x') (hr:zS r=YL r') (hk:dp (.mins x' r') s K):cc P o a φ F s w K:=by
 simp only[dp]at hk
 split at hk
 ·rename_i k p hx'
  have h1:=ee h hx hx'
  obtain⟨q,hq,hf⟩:=xR (P:=P) h r r' k p hr hk
  refine cc.eh h ?_ hq (dh.v _ rfl)
  obtain rfl:args=(x::r).toArray:=by rw[←hargs]
  simp only[Yq,ho,resolve,run_bind,run_pure,invoke,builtin,ZR]
  simp[h1,hf,run_bind,run_pure]
 ·exact hk.elim
theorem K4(h:dm n φ F s a w){t:Yp}{x:Yo}(ho:o.op= .unOp .not t x){x':O}(hx:cO x=YL x')(hk:dp (.not x') s K):cc P o a φ F s w K:=by
 simp only[dp]at hk
 split at hk
 ·rename_i b hx'
  have h1:=ee h hx hx'
  refine cc.eh h ?_ hk (dh.v _ rfl)
  simp[Yq,ho,run_bind,run_pure,ZM,h1]
 ·exact hk.elim
theorem K5(h:dm n φ F s a w){t:Yp}{x:Yo}(ho:o.op= .unOp .neg t x){x':O}(hx:cO x=YL x')(hk:dp (.neg x') s K):cc P o a φ F s w K:=by
 simp only[dp]at hk
 split at hk
 ·rename_i k b hx'
  have h1:=ee h hx hx'
  refine cc.eh h ?_ hk (dh.v _ rfl)
  refine gj (x:=ZM .neg (a.eval x)) (by simp only[Yq,ho]) ?_
  rw[h1];rfl
 ·exact hk.elim
theorem G9(h:dm n φ F s a w){sT dT:Yp}{x:Yo}(ho:o.op= .convert sT dT x){k0 k:Yv}(hs:P.underlying sT=YL (.int k0))(hd:P.underlying dT=YL (.int k)){x':O}(hx:cO x=YL x')
 (hk:dp (.conv k x') s K):cc P o a φ F s w K:=by
 simp only[dp]at hk
 split at hk
 ·rename_i k' b hx'
  have h1:=ee h hx hx'
  refine cc.eh h ?_ hk (dh.v _ rfl)
  refine gj (x:=convert sT dT (a.eval x)) (by simp only[Yq,ho]) ?_
  simp only[convert,run_bind,run_underlying hs,run_underlying hd,h1]
  rfl
 ·exact hk.elim
theorem zI(x y:ByteArray):(x.toList==y.toList)=decide (x=y):=by
 rw[ByteArray.toList_eq,ByteArray.toList_eq]
 rw[Zr,beq_iff_eq,decide_eq_true_iff]
 constructor
 ·intro h
  cases x;cases y
  have:=Zv h
  simp only at this;rw[this]
 ·intro h;rw[h]
theorem D9(h:dm n φ F s a w){op:YJ}{t t':Yp}{x y:Yo}(ho:o.op= .binOp op t x y t'){x' y':O}(hx:cO x=YL x')(hy:cO y=YL y')(hk:dp (.bin op x' y') s K):cc P o a φ F s w K:=by
 simp only[dp]at hk
 split at hk
 ·rename_i p q hx' hy'
  have h1:=ee h hx hx'
  have h2:=ee h hy hy'
  suffices hh:∃v,(Yw op t p q).run P w= .ok v w∧Fw.dx v=Zm∧ey K v∧(Yu op t x y p q).run P w= .ok () w by
   obtain⟨v,hr,hc,hK,hg⟩:=hh
   refine cc.eh h ?_ hK (dh.v _ hc)
   refine gj (x:=do Yu op t x y (a.eval x) (a.eval y);Yw op t (a.eval x) (a.eval y)) (by simp only[Yq,ho]) ?_
   rw[run_bind,h1,h2,hg]
   exact hr
  unfold fA at hk
  split at hk
  ·rename_i k b k' b'
   obtain⟨rfl,hk⟩:=hk
   cases op<;>first
    |exact hk.elim
    |exact⟨.int k (fi k b b'),by show(ZH .shr k b k b').run P w=_;simp only[ZH,if_neg (Int.not_lt.2 hk.1)];rfl,rfl,hk.2,by simp[Yu,run_pure]⟩
    |exact⟨.int k (OD k b b'),by show(ZH .shl k b k b').run P w=_;simp only[ZH,if_neg (Int.not_lt.2 hk.1)];rfl,rfl,hk.2,by simp[Yu,run_pure]⟩
    |exact⟨_,by simp only[Yw,ne_eq,not_true_eq_false,if_false];rfl,rfl,hk,by simp[Yu,run_pure]⟩
    |exact⟨_,by simp[Yw,Op.intDiv,hk.1,run_pure],rfl,hk.2,by simp[Yu,run_pure]⟩
  ·rename_i b b'
   cases op<;>first
    |exact hk.elim
    |exact⟨.string (b++b'),by
      have:¬((b.size+b'.size:Nat):Int)>IntKind.i64.max:=by have:=hk.1;simp[IntKind.max,IntKind.signed,IntKind.bits];omega
      simp only[Yw,ZJ,if_neg this,run_pure],rfl,hk.2,by simp[Yu,run_pure]⟩
    |exact⟨_,by simp only[Yw,ZJ,zI,run_pure,nb],rfl,hk,by simp[Yu,run_pure]⟩
  ·exact hk.elim
 ·exact hk.elim
theorem Lk{w:Yr}{t:Yp}(hu:P.underlying t=YL .bool)(p q:Bool):(ZI t (.bool p) (.bool q)).run P w= .ok (p==q) w:=by
 unfold ZI ZK;unfold ZF;simp only[run_bind,run_underlying hu,run_pure]
theorem FJ{w:Yr}{t e:Yp}(hu:P.underlying t=YL (.slice e))(A:Option YH)(l k:Nat):(ZI t (.slice A l k) (.slice YM 0 0)).run P w= .ok A.isNone w:=by
 unfold ZI ZK;unfold ZF;simp only[run_bind,run_underlying hu]
 cases A<;>rfl
theorem Ea(h:dm n φ F s a w){neg:Bool}{t t':Yp}{x y:Yo}(ho:o.op= .binOp (if neg then .neq else .eql) t x y t')(hu:P.underlying t=YL .bool){x' y':O}(hx:cO x=YL x')(hy:cO y=YL y')
 (hk:dp (.beq neg x' y') s K):cc P o a φ F s w K:=by
 simp only[dp]at hk
 split at hk
 ·rename_i p q hx' hy'
  have h1:=ee h hx hx'
  have h2:=ee h hy hy'
  refine cc.eh h ?_ hk (dh.v _ rfl)
  refine gj (x:=do Yu (if neg then .neq else .eql) t x y (a.eval x) (a.eval y);Yw (if neg then .neq else .eql) t (a.eval x) (a.eval y)) (by simp only[Yq,ho]) ?_
  rw[h1,h2]
  cases neg<;>cases p<;>cases q<;>simp[Yu,run_bind,run_pure,Yw,Lk hu]
 ·exact hk.elim
theorem xy(h:dm n φ F s a w){neg:Bool}{t t' e:Yp}{x y:Yo}(ho:o.op= .binOp (if neg then .neq else .eql) t x y t')(hu:P.underlying t=YL (.slice e))(hy:NC y=Zm){x':O}(hx:cO x=YL x')
 (hk:dp (.eqnil neg x') s K):cc P o a φ F s w K:=by
 have hy':a.eval y= .slice YM 0 0:=by
  unfold NC at hy;split at hy
  ·rfl
  ·cases hy
 have key:∀A l k,a.eval x= .slice A l k→(Yq a.eval o).run P w= .ok (.value (.bool (A.isNone !=neg))) w:=by
  intro A l k hx'
  refine gj (x:=do Yu (if neg then .neq else .eql) t x y (a.eval x) (a.eval y);Yw (if neg then .neq else .eql) t (a.eval x) (a.eval y)) (by simp only[Yq,ho]) ?_
  rw[hx',hy']
  cases neg<;>simp[Yu,run_bind,run_pure,Yw,FJ hu]
 simp only[dp]at hk
 split at hk
 ·rename_i hx'
  have hd:=dk h hx hx'
  generalize hval:a.eval x=val at hd
  cases hd
  have:=key _ _ _ hval
  refine cc.eh h this (av:= .one (.c (.d (.v (.bool (!neg)))))) hk ?_
  cases neg<;>exact dh.v _ rfl
 ·rename_i rows hx'
  have hd:=dk h hx hx'
  generalize hval:a.eval x=val at hd
  cases hd with
  |nil A cap=>exact cc.eh h (key _ _ _ hval) (hk A.isNone (by simp)) (dh.v _ rfl)
  |sl _ b o' sz' cap u hF hc hsz hcell hrep=>exact cc.eh h (key _ _ _ hval) (hk Zn (by simp)) (dh.v _ rfl)
 ·rename_i id ep off len cap hx'
  obtain⟨e1,sz1,rows,hG,hle,A,l0,k0,he',hA⟩:=dk h hx hx'
  rw[hG]at hk
  simp only[]at hk
  obtain⟨rfl,hk⟩:=hk
  obtain⟨rfl,g1,_,_,g4⟩:=hA rfl
  refine cc.eh h (key _ _ _ he') (hk A.isNone (fun hne=>?_)) (dh.v _ rfl)
  rcases g4 with g4|⟨b,o2,nn,q1,rfl,q3,q4⟩
  ·omega
  ·rfl
 ·exact hk.elim
theorem vd{w:Yr}{t:Yp}{cs:Array Value}{off:Nat}{v:Value}(ha:wY P t=YL Zn)(hv:cs[off]? =YL v):(part t cs off).run P w= .ok v w:=by
 simp only[part,run_bind,l6 ha,Zp,if_false,hv,run_pure]
theorem lO{F:Nat→Prop}{φ:gP}{G:eg}{w:Yr}{xs ys:List C}{us vs:List Value}(hx:eD φ F G w xs us)(hy:eD φ F G w ys vs)(d:Nat):
 ∀{fs:List Yx} {plan:List (Nat×Nat)} {b:Bool},oi P fs=YL plan→jw plan xs ys=YL b→(ZE (d+1) us.toArray vs.toArray fs).run P w= .ok b w
 |[],plan,b,hp,he=>by
  cases hp
  simp only[jw,Zl]at he
  subst he
  rfl
 |f::fs,plan,b,hp,he=>by
  simp only[oi]at hp
  split at hp
  ·rename_i p l hl hr
   cases hp
   obtain⟨off,k⟩:=p
   simp only[jw]at he
   split at he
   ·rename_i x y hxo hyo
    split at he
    ·rename_i b1 hb1
     split at he
     ·rename_i b2 hb2
      cases he
      obtain⟨u,hu,hxu⟩:=bX.get hx hxo
      obtain⟨v,hv,hyv⟩:=bX.get hy hyo
      have ih:=lO hx hy d hr hb2
      unfold IF at hl
      split at hl
      ·cases hl
      ·rename_i hname
       have hname':f.name≠ "_" :=by simpa using hname
       have main:∀{r:Bool},wY P f.type=YL Zn→f.offset=off→(ZF (d+1) f.type u v).run P w= .ok r w→r=b1→(ZE (d+1) us.toArray vs.toArray (f::fs)).run P w= .ok (b1&&b2) w:=by
        intro r ha ho hr hrb
        subst hrb;subst ho
        simp only[ZE,if_pos hname',run_bind]
        rw[vd ha (by simpa using hu)]
        simp only[]
        rw[vd ha (by simpa using hv)]
        simp only[]
        rw[hr]
        cases r
        ·simp[run_pure]
        ·simpa using ih
       split at hl
       ·rename_i k0 hk
        simp only[Zl,ZB]at hl
        obtain⟨ho,rfl⟩:=hl
        unfold lP at hb1
        split at hb1<;>first|contradiction|skip
        split at hb1
        ·rename_i hkk
         subst hkk
         cases hb1
         cases hxu;cases hyv
         refine main (r:=_) (by simp[wY,hk]) ho (run_equalIn_int w d f.type _ k0 _ _ hk) ?_
         rw[Zr];simp
        ·cases hb1
       ·rename_i hk
        simp only[Zl,ZB]at hl
        obtain⟨ho,rfl⟩:=hl
        unfold lP at hb1
        split at hb1<;>first|contradiction|skip
        cases hb1
        cases hxu;cases hyv
        exact main (by simp[wY,hk]) ho (run_equalIn_bool' w d f.type _ _ hk) rfl
       ·rename_i hk
        simp only[Zl,ZB]at hl
        obtain⟨ho,rfl⟩:=hl
        unfold lP at hb1
        split at hb1<;>first|contradiction|skip
        cases hb1
        cases hxu;cases hyv
        exact main (by simp[wY,hk]) ho (run_equalIn_string w d f.type _ _ hk) (zI _ _)
       ·cases hl
     ·cases he
    ·cases he
   ·cases he
  ·cases hp
theorem D8(h:dm n φ F s a w){neg:Bool}{t t':Yp}{x y:Yo}(ho:o.op= .binOp (if neg then .neq else .eql) t x y t'){fs:Array Yx}(hu:P.underlying t=YL (.struct fs)){plan:List (Nat×Nat)}(hpl:zp P t fs.toList=YL plan)
 {x' y':O} (hx:cO x=YL x') (hy:cO y=YL y') (hk:dp (.eqs neg plan x' y') s K):cc P o a φ F s w K:=by
 simp only[dp]at hk
 split at hk
 ·rename_i xs ys hx' hy'
  split at hk
  ·rename_i b hb
   obtain⟨us,h1,hxs⟩:=jF h hx hx'
   obtain⟨vs,h2,hys⟩:=jF h hy hy'
   unfold zp at hpl
   split at hpl
   ·cases hpl
   ·rename_i hg
    simp only[Bool.or_eq_true,not_or,Zq]at hg
    have hf:P.fieldsOf t=fs:=by simp[Program.fieldsOf,hu]
    have heq:(ZF 10000 t (.agg us.toArray) (.agg vs.toArray)).run P w= .ok b w:=by
     rw[show(10000:Nat)=9999+1 from rfl,run_equalIn_struct (P:=P) w 9999 t _ _ (by rw[hf];exact hu) hg.1,hf]
     exact lO hxs hys 9998 hpl hb
    refine cc.eh h ?_ hk (dh.v _ rfl)
    refine gj (x:=do Yu (if neg then .neq else .eql) t x y (a.eval x) (a.eval y);Yw (if neg then .neq else .eql) t (a.eval x) (a.eval y)) (by simp only[Yq,ho]) ?_
    rw[run_bind,h1,h2,YB w _ t x y _ _ hg.2]
    simp only[]
    cases neg
    ·simp only[Zp,if_false]
     rw[YE,heq];rfl
    ·simp only[if_true]
     rw[YD,heq];rfl
  ·exact hk.elim
 ·exact hk.elim
theorem oo(d:Nat)(e:Yp)(c:Nat)(xs ys:Array Value):∀is:List Nat,ZL d e c xs ys is=ZE d xs ys (is.map fun i=>{name:= "f",type:=e,offset:=i*c,embedded:=Zn,tag:= "",pkgPath:=default,byteOffset:=default})
 |[]=>rfl
 |i::is=>by
  simp only[XM,ZL,ZE,oo d e c xs ys is]
  rfl
theorem z8(h:dm n φ F s a w){neg:Bool}{t t':Yp}{x y:Yo}(ho:o.op= .binOp (if neg then .neq else .eql) t x y t'){m:Nat}{e:Yp}(hu:P.underlying t=YL (.array m e))(hie:(P.info? e).isSome=Zm){plan:List (Nat×Nat)}(hpl:ux P t m e=YL plan)
 {x' y':O} (hx:cO x=YL x') (hy:cO y=YL y') (hk:dp (.eqs neg plan x' y') s K):cc P o a φ F s w K:=by
 simp only[dp]at hk
 split at hk
 ·rename_i xs ys hx' hy'
  split at hk
  ·rename_i b hb
   obtain⟨us,h1,hxs⟩:=jF h hx hx'
   obtain⟨vs,h2,hys⟩:=jF h hy hy'
   obtain⟨ie,hie⟩:=YR.1 hie
   unfold ux at hpl
   split at hpl
   ·cases hpl
   ·rename_i hg
    simp only[Zq]at hg
    have heq:(ZF 10000 t (.agg us.toArray) (.agg vs.toArray)).run P w= .ok b w:=by
     rw[show(10000:Nat)=9999+1 from rfl,run_equalIn_array w 9999 _ _ hu hie,oo]
     exact lO hxs hys 9998 hpl hb
    refine cc.eh h ?_ hk (dh.v _ rfl)
    refine gj (x:=do Yu (if neg then .neq else .eql) t x y (a.eval x) (a.eval y);Yw (if neg then .neq else .eql) t (a.eval x) (a.eval y)) (by simp only[Yq,ho]) ?_
    rw[run_bind,h1,h2,YB w _ t x y _ _ hg]
    simp only[]
    cases neg
    ·simp only[Zp,if_false]
     rw[YE,heq];rfl
    ·simp only[if_true]
     rw[YD,heq];rfl
  ·exact hk.elim
 ·exact hk.elim
end
end Go.Fw
namespace Go.Fw
open Go.MapKept (IsKey sameNow_of_keys run_getObj_map run_checkKey run_findKey run_setObj_map run_keyThatStays heap_set)
section
variable {P:Ys} {n:Nat} {φ:gP} {F:Nat→Prop} {s:St} {a:Act} {w:Yr} {o:YG} {K:Out→Prop}
theorem zb{t:Yp}{kd:Nat}(h:MC P t=YL kd):∃d,P.underlying t=YL d∧∀v,kX kd v=Zm→IsKey d v:=by
 unfold MC at h
 split at h
 ·rename_i hu
  cases h
  refine⟨_,hu,fun v hv=>?_⟩
  cases v<;>simp_all [kX,IsKey]
  rename_i k x
  cases k<;>simp_all [kX]
 ·rename_i hu
  cases h
  refine⟨_,hu,fun v hv=>?_⟩
  cases v<;>simp_all [kX,IsKey]
 ·cases h
theorem s6{kd:Nat}{a b:Value}(ha:kX kd a=Zm)(hb:kX kd b=Zm):tQ a b=Zm↔a=b:=by
 unfold kX at ha hb
 split at ha<;>split at hb<;>simp_all [tQ]
abbrev lD(φ:gP)(F:Nat→Prop)(G:eg)(w:Yr)(ents:List (Value×A1))(es:List Yt):Prop:=
 bX (fun(e:Value×A1) (m:Yt)=>m.key=e.1∧cm φ F G w e.2 m.val) ents es
theorem x9{G:eg}{kd:Nat}{k:Value}(hk:kX kd k=Zm){d:Yz}(hd:∀v,kX kd v=Zm→IsKey d v):∀{ents:List (Value×A1)} {es:List Yt},lD φ F G w ents es→uf kd ents=Zm→∀(i:Nat),
 (YS d k es i=YL YM∧nR k ents=YM)∨∃(j:Nat) (e:Yt) (x:A1),YS d k es i=YL (YL (i+j,e.val))∧es[j]? =YL e∧e.key=k∧nR k ents=YL x∧cm φ F G w x e.val
 |[],[],.nil,_,i=> .inl ⟨rfl,rfl⟩
 |en::ents,m::es,.cons h1 h2,ha,i=>by
  simp only[uf,XV,Zo]at ha
  have hm:kX kd m.key=Zm:=by rw[h1.1];exact ha.1
  obtain⟨r,hr,hiff⟩:=sameNow_of_keys (hd _ hk) (hd _ hm)
  have he:=s6 hk ha.1
  cases r with
  |true=>
   have hkm:=hiff.1 rfl
   refine .inr ⟨0,m,en.2,by simp[YS,hr],rfl,hkm.symm,?_,h1.2⟩
   rw[nR,if_pos (he.2 (by rw[←h1.1];exact hkm))]
  |false=>
   have hne:¬tQ k en.1=Zm:=fun c=>by
    have:=hiff.2 (by rw[h1.1];exact he.1 c)
    cases this
   rcases x9 hk hd h2 ha.2 (i+1)with⟨q1,q2⟩|⟨j,e,x,q1,q2,q3,q4,q5⟩
   ·exact .inl ⟨by simp[YS,hr,q1],by rw[nR,if_neg hne,q2]⟩
   ·exact .inr ⟨j+1,e,x,by simp[YS,hr,q1];omega,by simpa using q2,q3,by rw[nR,if_neg hne,q4],q5⟩
theorem stamped_push{es:Array Yt}{clock:Nat}(h:ZN es clock){k v:Value}(hk:∀x∈es.toList,x.key≠k):ZN (es.push {key:=k,val:=v,born:=clock}) (clock+1):=by
 refine⟨fun x hx=>?_,?_,?_⟩
 ·simp only[Zx,List.mem_append,XW]at hx
  rcases hx with hx|rfl
  ·have:=h.1 x hx;omega
  ·show clock<clock+1;omega
 ·simp only[Zx,Yi,XM,X7]
  refine Ye.2 ⟨h.2.1,by simp,fun a ha b hb=>?_⟩
  obtain⟨x,hx,rfl⟩:=XX.1 ha
  have:=h.1 x hx
  simp only[XW]at hb
  omega
 ·simp only[Zx,Yi,XM,X7]
  refine Ye.2 ⟨h.2.2,by simp,fun a ha b hb=>?_⟩
  obtain⟨x,hx,rfl⟩:=XX.1 ha
  simp only[XW]at hb
  rw[hb];exact hk x hx
theorem kl{α β:Type}(f:α→β)(g:α→α):∀(l:List α) (j:Nat),(∀e,l[j]? =YL e→f (g e)=f e)→(l.modify j g).map f=l.map f
 |[],j,_=>by cases j<;>simp
 |x::l,0,h=>by have:=h x rfl;simp[this]
 |x::l,j+1,h=>by have:=kl f g l j fun e he=>h e (by simpa using he);simp[this]
theorem stamped_modify{es:Array Yt}{clock:Nat}(h:ZN es clock){j:Nat}{e:Yt}{k v:Value}(he:es.toList[j]? =YL e)(hk:e.key=k):ZN (es.modify j fun e=>{e with key:=k,val:=v}) clock:=by
 have hb:=kl (fun x:Yt=>x.born) (fun e=>{e with key:=k,val:=v}) es.toList j fun e _=>rfl
 have hk2:=kl (fun x:Yt=>x.key) (fun e=>{e with key:=k,val:=v}) es.toList j fun e' he'=>by rw[he]at he';cases he';exact hk.symm
 refine⟨fun x hx=>?_,?_,?_⟩
 ·have:x.born∈((es.modify j fun e=>{e with key:=k,val:=v}).toList.map fun x:Yt=>x.born):=XX.2 ⟨x,hx,rfl⟩
  rw[Zu,hb]at this
  obtain⟨y,hy,e'⟩:=XX.1 this
  rw[←e'];exact h.1 y hy
 ·rw[Zu,hb];exact h.2.1
 ·rw[Zu,hk2];exact h.2.2
theorem Bk{G:eg}{kd:Nat}{k v:Value}{x:A1}(hk:kX kd k=Zm){d:Yz}(hd:∀v,kX kd v=Zm→IsKey d v)(hv:cm φ F G w x v):∀{ents:List (Value×A1)} {es:List Yt},lD φ F G w ents es→uf kd ents=Zm→∀(i c:Nat),
 (YS d k es i=YL YM∧lD φ F G w (yV k x ents) (es++[{key:=k,val:=v,born:=c}])∧∀x∈es,x.key≠k)∨∃(j:Nat) (e:Yt),YS d k es i=YL (YL (i+j,e.val))∧es[j]? =YL e∧e.key=k∧lD φ F G w (yV k x ents) (es.modify j fun e=>{e with key:=k,val:=v})
 |[],[],.nil,_,i,c=> .inl ⟨rfl,.cons ⟨rfl,hv⟩ .nil,fun x hx=>by cases hx⟩
 |en::ents,m::es,.cons h1 h2,ha,i,c=>by
  simp only[uf,XV,Zo]at ha
  have hm:kX kd m.key=Zm:=by rw[h1.1];exact ha.1
  obtain⟨r,hr,hiff⟩:=sameNow_of_keys (hd _ hk) (hd _ hm)
  have he:=s6 hk ha.1
  cases r with
  |true=>
   have hkm:=hiff.1 rfl
   refine .inr ⟨0,m,by simp[YS,hr],rfl,hkm.symm,?_⟩
   rw[yV,if_pos (he.2 (by rw[←h1.1];exact hkm))]
   exact .cons ⟨rfl,hv⟩ h2
  |false=>
   have hne:¬tQ k en.1=Zm:=fun c=>by
    have:=hiff.2 (by rw[h1.1];exact he.1 c)
    cases this
   rw[yV,if_neg hne]
   rcases Bk hk hd hv h2 ha.2 (i+1) c with⟨q1,q2,q5⟩|⟨j,e,q1,q2,q3,q4⟩
   ·exact .inl ⟨by simp[YS,hr,q1],.cons h1 q2,fun x hx=>by
     rcases Yl.1 hx with rfl|hx
     ·exact fun c=>by have:=hiff.2 c.symm;cases this
     ·exact q5 x hx⟩
   ·exact .inr ⟨j+1,e,by simp[YS,hr,q1];omega,by simpa using q2,q3,.cons h1 q4⟩
theorem G8(h:dm n φ F s a w){sT dT:Yp}{x:Yo}(ho:o.op= .convert sT dT x){k0:Yv}(hs:P.underlying sT=YL (.int k0))(hd:P.underlying dT=YL .string){x':O}(hx:cO x=YL x')
 (hk:dp (.istr x') s K):cc P o a φ F s w K:=by
 simp only[dp]at hk
 split at hk
 ·rename_i k' b hx'
  have h1:=ee h hx hx'
  refine cc.eh h ?_ hk (dh.v _ rfl)
  refine gj (x:=convert sT dT (a.eval x)) (by simp only[Yq,ho]) ?_
  simp only[convert,run_bind,run_underlying hs,run_underlying hd,h1]
  rfl
 ·exact hk.elim
theorem Fx(h:dm n φ F s a w){t:Yp}(ho:o.op= .makeMap t YM)(hk:dp .mkmap s K):cc P o a φ F s w K:=by
 simp only[dp]at hk
 refine⟨.map (YL w.heap.size),{w with heap:=w.heap.push (.map #[] 0)},.inl ?_,?_⟩
 ·refine gj (x:=Y3 t YM) (by simp only[Yq,ho,YQ]) ?_
  simp only[Y3,run_bind,run_pure,run_newObj]
 ·refine gL.change s.heap.length (YL (w.heap.size,0)) (.map []) hk h.rel (by simp) ⟨rfl,rfl⟩ ?_ ?_ ?_ ?_ ?_
  ·exact fun b hb _=>pd _ _ _ hb
  ·intro b o hx;cases hx;exact .inr (Zc _)
  ·rw[iY];trivial
  ·intro gl
   exact⟨w.heap.size,#[],0,bn _ _ _,n5 _ _,⟨fun x hx=>(by cases hx),.nil,.nil⟩,.nil⟩
  ·intro gl av hav
   cases hav
   exact⟨[],w.heap.size,bn _ _ _,bn _ _ _,rfl⟩
theorem G5(h:dm n φ F s a w){t kt et:Yp}{m k:Yo}{ok:Bool}(ho:o.op= .lookup t m k ok)(hu:P.underlying t=YL (.map kt et)){kd:Nat}(hkd:MC P kt=YL kd)
 {z:Value} (hz:(P.info? et).bind (·.zero)=YL z) {zc:A1} (hzc:Gl z=YL zc) {m' k':O} (hm:cO m=YL m') (hkk:cO k=YL k')
 (hk:dp (.mget kd ok zc m' k') s K):cc P o a φ F s w K:=by
 simp only[dp]at hk
 split at hk
 ·rename_i id hm'
  obtain⟨ents,b,hG,hφ,he⟩:=dk h hm hm'
  rw[hG]at hk
  simp only[]at hk
  split at hk
  ·rename_i kv hkv
   obtain⟨hk1,hk2,hk⟩:=hk
   have hkv':=ee h hkk hkv
   obtain⟨b',es,clock,h1,h2,h4,h3⟩:=h.rel.bZ _ _ hG
   rw[hφ]at h1;simp only[Zl,ZB]at h1
   obtain⟨rfl,_⟩:=h1
   obtain⟨d,hd,hdk⟩:=zb hkd
   have hzr:=oG hzc φ F (hp s.heap) w
   have key:∃v,cm φ F (hp s.heap) w ((nR kv ents).getD zc) v∧(YZ t (a.eval m) (a.eval k) ok).run P w= .ok (if ok then .tuple #[v,.bool (nR kv ents).isSome]else v) w:=by
    rcases x9 hk1 hdk h3 hk2 0 with⟨q1,q2⟩|⟨j,e,x,q1,q2,q3,q4,q5⟩
    ·refine⟨z,by rw[q2];exact hzr,?_⟩
     rw[q2]
     simp only[YZ,he,hkv',run_bind,run_underlying hu,run_pure,run_getObj_map h2,run_checkKey hd (hdk _ hk1),run_findKey hd q1,fL hz]
     cases ok<;>rfl
    ·refine⟨e.val,by rw[q4];exact q5,?_⟩
     rw[q4]
     simp only[YZ,he,hkv',run_bind,run_underlying hu,run_pure,run_getObj_map h2,run_checkKey hd (hdk _ hk1),run_findKey hd q1]
     cases ok<;>rfl
   obtain⟨v,hv,hrun⟩:=key
   have hx:=gj (ρ:=a.eval) (o:=o) (x:=YZ t (a.eval m) (a.eval k) ok) (by simp only[Yq,ho]) hrun
   cases ok with
   |true=>
    refine cc.eh h hx hk ?_
    exact⟨[v,.bool (nR kv ents).isSome],rfl,.cons hv (.cons (dh.v _ rfl) .nil)⟩
   |false=>exact cc.eh h hx hk hv
  ·exact hk.elim
 ·exact hk.elim
theorem G2(h:dm n φ F s a w){t kt et:Yp}{m k v:Yo}(ho:o.op= .mapUpdate t m k v)(hu:P.underlying t=YL (.map kt et)){kd:Nat}(hkd:MC P kt=YL kd)
 {m' k' v':O} (hm:cO m=YL m') (hkk:cO k=YL k') (hvv:cO v=YL v')
 (hk:dp (.mset kd m' k' v') s K):cc P o a φ F s w K:=by
 simp only[dp]at hk
 split at hk
 ·rename_i id hm'
  obtain⟨ents,b,hG,hφ,he⟩:=dk h hm hm'
  rw[hG]at hk
  simp only[]at hk
  split at hk
  ·rename_i kv hkv
   split at hk
   ·rename_i x hx
    obtain⟨hk1,hk2,hk3,hk⟩:=hk
    have hkv':=ee h hkk hkv
    have hxr:cm φ F (hp s.heap) w x (a.eval v):=jF h hvv hx
    obtain⟨b',es,clock,h1,h2,h4,h3⟩:=h.rel.bZ _ _ hG
    rw[hφ]at h1;simp only[Zl,ZB]at h1
    obtain⟨rfl,_⟩:=h1
    obtain⟨d,hd,hdk⟩:=zb hkd
    have key:∃es' clock',ZN es' clock'∧lD φ F (hp s.heap) w (yV kv x ents) es'.toList∧(YW t (a.eval m) (a.eval k) (a.eval v)).run P w= .ok () {w with heap:=w.heap.setIfInBounds b (.map es' clock')}:=by
     rcases Bk hk1 hdk hxr h3 hk2 0 clock with⟨q1,q2,q5⟩|⟨j,e,q1,q2,q3,q4⟩
     ·refine⟨es.push {key:=kv,val:=a.eval v,born:=clock},clock+1,stamped_push h4 q5,by simpa using q2,?_⟩
      simp only[YW,he,hkv',run_bind,run_underlying hu,run_pure,run_getObj_map h2,run_checkKey hd (hdk _ hk1),run_findKey hd q1,run_setObj_map _ h2]
     ·refine⟨es.modify j fun e=>{e with key:=kv,val:=a.eval v},clock,stamped_modify h4 (by simpa using q2) q3,by rw[Zu];exact q4,?_⟩
      have hjk:((es[j]?).map (·.key)).getD kv=kv:=by
       have:es[j]? =YL e:=by simpa using q2
       rw[this,←q3];rfl
      simp only[YW,he,hkv',run_bind,run_underlying hu,run_pure,run_getObj_map h2,run_checkKey hd (hdk _ hk1),run_findKey hd q1,Zk,hjk,run_keyThatStays (hdk _ hk1),run_setObj_map _ h2]
    obtain⟨es',clock',hst,hes,hrun⟩:=key
    have hlt:b<w.heap.size:=h.rel.lt hφ
    have hs:=heap_set (o':=Obj.map es' clock') h2
    refine⟨undef,_,.inr ⟨zj (x:=YW t (a.eval m) (a.eval k) (a.eval v)) (by simp only[Yq,ho]) hrun,rfl⟩,?_⟩
    have hup:ed φ id (YL (b,0))=φ:=by funext j;by_cases hj:j=id<;>simp[ed,hj,hφ]
    refine gL.change id (YL (b,0)) (.map (yV kv x ents)) hk h.rel (by simp) ⟨rfl,rfl⟩ ?_ ?_ ?_ ?_ ?_
    ·intro b2 _ hn;exact hs.2 b2 (fun he=>hn 0 (he▸hφ))
    ·intro b2 o2 hx2;cases hx2;exact .inl ⟨0,hφ⟩
    ·rw[hG];simp only[gX];rw[hup]
    ·intro gl
     exact⟨b,es',clock',bn _ _ _,hs.1,hst,bX.imp (fun _ _ hx=>⟨hx.1,hx.2.mono gl⟩) hes⟩
    ·intro _ av hav;cases hav
   ·exact hk.elim
  ·exact hk.elim
 ·exact hk.elim
theorem sW{α β:Type}(f:α→β):∀(l:List α) (j:Nat),(l.eraseIdx j).map f=(l.map f).eraseIdx j
 |[],j=>by simp
 |x::l,0=>by simp
 |x::l,j+1=>by simp[sW f l j]
theorem stamped_erase{es:Array Yt}{clock:Nat}(h:ZN es clock)(j:Nat):ZN (es.eraseIdxIfInBounds j) clock:=by
 have he:(es.eraseIdxIfInBounds j).toList=es.toList.eraseIdx j:=by
  unfold Zy
  split
  ·simp
  ·rename_i hj;rw[X4 (by rw[Zt];omega)]
 refine⟨fun x hx=>?_,?_,?_⟩
 ·rw[he]at hx;exact h.1 x (List.mem_of_mem_eraseIdx hx)
 ·rw[he,sW];exact h.2.1.sublist (X8 _ _)
 ·rw[he,sW];exact h.2.2.sublist (X8 _ _)
theorem Bl{G:eg}{kd:Nat}{k:Value}(hk:kX kd k=Zm){d:Yz}(hd:∀v,kX kd v=Zm→IsKey d v):∀{ents:List (Value×A1)} {es:List Yt},lD φ F G w ents es→uf kd ents=Zm→∀(i:Nat),
 (YS d k es i=YL YM∧rB k ents=ents)∨∃(j:Nat) (v:Value),YS d k es i=YL (YL (i+j,v))∧lD φ F G w (rB k ents) (es.eraseIdx j)
 |[],[],.nil,_,i=> .inl ⟨rfl,rfl⟩
 |en::ents,m::es,.cons h1 h2,ha,i=>by
  simp only[uf,XV,Zo]at ha
  have hm:kX kd m.key=Zm:=by rw[h1.1];exact ha.1
  obtain⟨r,hr,hiff⟩:=sameNow_of_keys (hd _ hk) (hd _ hm)
  have he:=s6 hk ha.1
  cases r with
  |true=>
   have hkm:=hiff.1 rfl
   refine .inr ⟨0,m.val,by simp[YS,hr],?_⟩
   rw[rB,if_pos (he.2 (by rw[←h1.1];exact hkm))]
   exact h2
  |false=>
   have hne:¬tQ k en.1=Zm:=fun c=>by
    have:=hiff.2 (by rw[h1.1];exact he.1 c)
    cases this
   rw[rB,if_neg hne]
   rcases Bl hk hd h2 ha.2 (i+1)with⟨q1,q2⟩|⟨j,v,q1,q2⟩
   ·exact .inl ⟨by simp[YS,hr,q1],by rw[q2]⟩
   ·exact .inr ⟨j+1,v,by simp[YS,hr,q1];omega,.cons h1 q2⟩
theorem G3(h:dm n φ F s a w){x:Yo}{t kt et:Yp}{args:Array Yo}{ts:Array Yp}(ho:o.op= .call {callee:= .builtin .len,args,argTypes:=ts})(hargs:args.toList=[x])(hts:ts.toList=[t])
 (hu:P.underlying t=YL (.map kt et)) {x':O} (hx:cO x=YL x') (hk:dp (.mlen x') s K):cc P o a φ F s w K:=by
 obtain rfl:=jT hargs
 obtain rfl:=jT hts
 simp only[dp]at hk
 split at hk
 ·rename_i id hm'
  obtain⟨ents,b,hG,hφ,he⟩:=dk h hx hm'
  rw[hG]at hk
  simp only[]at hk
  obtain⟨b',es,clock,h1,h2,h4,h3⟩:=h.rel.bZ _ _ hG
  rw[hφ]at h1;simp only[Zl,ZB]at h1
  obtain⟨rfl,_⟩:=h1
  have hl:es.size=ents.length:=by rw[bX.length h3];simp
  refine cc.eh (v:= .int .i64 ents.length) h ?_ hk (dh.v _ rfl)
  simp[Yq,ho,resolve,run_bind,run_pure,invoke,builtin,ZQ,run_underlying hu,he,run_getObj_map h2,goInt,hl]
 ·exact hk.elim
theorem G6(h:dm n φ F s a w){m k:Yo}{t kt et:Yp}{r:List Yp}{args:Array Yo}{ts:Array Yp}(ho:o.op= .call {callee:= .builtin .delete,args,argTypes:=ts})(hargs:args.toList=[m,k])(hts:ts.toList=t::r)
 (hu:P.underlying t=YL (.map kt et)) {kd:Nat} (hkd:MC P kt=YL kd)
 {m' k':O} (hm:cO m=YL m') (hkk:cO k=YL k')
 (hk:dp (.mdel kd m' k') s K):cc P o a φ F s w K:=by
 obtain rfl:=kL hargs
 obtain rfl:ts=(t::r).toArray:=by rw[←hts]
 simp only[dp]at hk
 split at hk
 ·rename_i id hm'
  obtain⟨ents,b,hG,hφ,he⟩:=dk h hm hm'
  rw[hG]at hk
  simp only[]at hk
  split at hk
  ·rename_i kv hkv
   obtain⟨hk1,hk2,hk⟩:=hk
   have hkv':=ee h hkk hkv
   obtain⟨b',es,clock,h1,h2,h4,h3⟩:=h.rel.bZ _ _ hG
   rw[hφ]at h1;simp only[Zl,ZB]at h1
   obtain⟨rfl,_⟩:=h1
   obtain⟨d,hd,hdk⟩:=zb hkd
   have key:∃es',ZN es' clock∧lD φ F (hp s.heap) w (rB kv ents) es'.toList∧(ZO (t::r).toArray o.type #[a.eval m,a.eval k]).run P w= .ok (.tuple #[]) {w with heap:=w.heap.setIfInBounds b (.map es' clock)}:=by
    rcases Bl hk1 hdk h3 hk2 0 with⟨q1,q2⟩|⟨j,v,q1,q2⟩
    ·refine⟨es,h4,by rw[q2];exact h3,?_⟩
     simp[ZO,he,hkv',run_bind,run_underlying hu,run_pure,run_getObj_map h2,run_checkKey hd (hdk _ hk1),run_findKey hd q1,run_setObj_map _ h2]
    ·refine⟨es.eraseIdxIfInBounds j,stamped_erase h4 j,?_,?_⟩
     ·have he':(es.eraseIdxIfInBounds j).toList=es.toList.eraseIdx j:=by
       unfold Zy
       split
       ·simp
       ·rename_i hj;rw[X4 (by rw[Zt];omega)]
      rw[he'];exact q2
     ·simp[ZO,he,hkv',run_bind,run_underlying hu,run_pure,run_getObj_map h2,run_checkKey hd (hdk _ hk1),run_findKey hd q1,run_setObj_map _ h2]
   obtain⟨es',hst,hes,hrun⟩:=key
   have hlt:b<w.heap.size:=h.rel.lt hφ
   have hs:=heap_set (o':=Obj.map es' clock) h2
   refine⟨.tuple #[],_,.inl (by simp[Yq,ho,resolve,run_bind,run_pure,invoke,builtin,hrun];rfl),?_⟩
   have hup:ed φ id (YL (b,0))=φ:=by funext j;by_cases hj:j=id<;>simp[ed,hj,hφ]
   refine gL.change id (YL (b,0)) (.map (rB kv ents)) hk h.rel (by simp) ⟨rfl,rfl⟩ ?_ ?_ ?_ ?_ ?_
   ·intro b2 _ hn;exact hs.2 b2 (fun he=>hn 0 (he▸hφ))
   ·intro b2 o2 hx2;cases hx2;exact .inl ⟨0,hφ⟩
   ·rw[hG];simp only[gX];rw[hup]
   ·intro gl
    exact⟨b,es',clock,bn _ _ _,hs.1,hst,bX.imp (fun _ _ hx=>⟨hx.1,hx.2.mono gl⟩) hes⟩
   ·intro _ av hav;cases hav;exact⟨[],rfl,.nil⟩
  ·exact hk.elim
 ·exact hk.elim
end
end Go.Fw
