/- Contracts of slices.Clone, slices.Insert, slices.Delete, and of the compare of strings. -/
import Derived.Test.YtdejhahgpojnoaaFP
import Derived.Lib.Bytealg
import Derived.Laws.Externs
import Derived.Shelf.Sort.Plain
import Derived.Shelf.Slices.In.SortNone
import Derived.Shelf.Slices.CompactS
import Derived.Lib.RowBridge
import Derived.Maps.RangeRun
set_option linter.unusedVariables false
set_option linter.unusedSimpArgs false
set_option linter.unusedSectionVars false
namespace Go.Fw
set_option maxRecDepth 100000
set_option maxHeartbeats 4000000
theorem w1{n:Nat}(h:n≤4294967290):IntKind.i64.wrap ((n:Int)+1)=((n+1:Nat):Int):=wrapN (by omega)
theorem w2{n i:Nat}(h:n≤4294967290)(hi:i≤n):IntKind.i64.wrap (((n+1:Nat):Int)-i)=((n+1-i:Nat):Int):=by
 rw[wrapI (by omega) (by omega)];omega
section
variable {P:Program} {f g rr:FuncId} {sz bt:Nat} {z:List D}
end
def cloneI{α:Type}(xs:List α):Option (List α):=if xs.length≤4294967290 then some xs else none
section
variable {P:Program} {f g rr:FuncId} {sz bt:Nat} {z:List D} {α:Type} {enc:α→List D}
end
end Go.Fw
namespace Go.Fw
theorem clrL_len{α:Type}{xs:List α}{off len:Nat}{z:α}(h:off+len≤xs.length):(clrL xs off len z).length=xs.length:=by
 simp only[clrL,List.length_append,List.length_take,List.length_replicate,List.length_drop];omega
def scmp(a b:ByteArray):Int:=if lt a b then-1 else if a=b then 0 else 1
def cmpS(a b:ByteArray):Option Int:=some (scmp a b)
theorem cb_eq:∀x y:List UInt8,Lib.compareBytes x y=if Op.bytesLess x y=true then-1 else if Op.bytesLess y x=true then 1 else 0
 |[],[]=>rfl
 |[],_::_=>rfl
 |_::_,[]=>rfl
 |a::x,b::y=>by
  have ih:=cb_eq x y
  simp only[Lib.compareBytes,Op.bytesLess,Bool.or_eq_true,decide_eq_true_eq,Bool.and_eq_true,beq_iff_eq]
  by_cases h1:a<b
  ·rw[if_pos h1,if_pos (.inl h1)]
  ·by_cases h2:b<a
   ·rw[if_neg h1,if_pos h2,if_neg,if_pos (.inl h2)]
    rintro(h|⟨rfl,_⟩)
    ·exact h1 h
    ·exact h1 h2
   ·have hab:a=b:=UInt8.le_antisymm (UInt8.not_lt.1 h2) (UInt8.not_lt.1 h1)
    subst hab
    rw[if_neg h1,if_neg h1,ih]
    simp[h1]
theorem cmp_scmp(a b:ByteArray):Extern.BytealgCompare.cmp a b=scmp a b:=by
 rw[Lib.cmp_eq,cb_eq]
 have e:∀s:ByteArray,s.data.toList=s.toList:=fun s=>(ByteArray.toList_eq s).symm
 rw[e,e]
 unfold scmp
 by_cases h1:Op.bytesLess a.toList b.toList=true
 ·rw[if_pos h1,if_pos (show lt a b from h1)]
 ·rw[if_neg h1,if_neg (show¬lt a b from h1)]
  by_cases h2:Op.bytesLess b.toList a.toList=true
  ·rw[if_pos h2,if_neg]
   rintro rfl;exact h1 h2
  ·rw[if_neg h2,if_pos]
   exact lt_tri h1 h2
theorem L_cmp{P:Program}{f:FuncId}{fn:Func}(hf:P.funcs[f]? =some fn)(hname:(fn.name== "runtime.NumGoroutine")=false)(hb:fn.body.isNone=true)(hn:Extern.findNext fn=none)
 (he:Extern.find fn=some Extern.BytealgCompare.compare) {a b:ByteArray} {r:Int} (h:cmpS a b=some r):CallD P f [.c (.d (.v (.string a))),.c (.d (.v (.string b)))] [] (tupV [.c (.d (.v (.int .i64 r)))]) []:=by
 cases h
 intro φ F w vs hr hA
 cases hA with
 |cons hx hA=>
  cases hA with
  |cons hy hA=>
   cases hA
   cases hx;cases hy
   refine .inr ⟨.int .i64 (scmp a b),w,?_,φ,F,DRep.v _ rfl,hr,Stp.refl _ _ _ _,Fr.refl _ _ _⟩
   rw[run_callFunc_extern hf hname hb hn he]
   have e:(Extern.BytealgCompare.compare #[.string a,.string b]).run P w= .ok (.int .i64 (Extern.BytealgCompare.cmp a b)) w:=rfl
   rw[←cmp_scmp]
   show((Extern.BytealgCompare.compare #[.string a,.string b]).run P w).andThen _=_
   rw[e];rfl
theorem guard_some{α:Type}{o:Option α}{p:α→Prop}[DecidablePred p]{r:α}(h:(o.bind fun r=>if p r then some r else none)=some r):o=some r∧p r:=by
 obtain⟨x,h1,h2⟩:=Option.bind_eq_some_iff.1 h
 split at h2
 ·rename_i hp;cases h2;exact⟨h1,hp⟩
 ·cases h2
end Go.Fw
namespace Go.Fw
open Go.Sort Go.Proofs Go.Shelf
theorem take_mapL{α β:Type}{f:α→β}{l:List α}:List.take l.length (List.map f l)=List.map f l:=by
 rw[←List.length_map f,List.take_length]
def lit{α:Type}(xs:List α):List α:=xs
def bl(b:ByteArray):List UInt8:=b.data.toList
def lb(l:List UInt8):ByteArray:=⟨l.toArray⟩
theorem lb_bl(b:ByteArray):lb (bl b)=b:=by cases b;simp[lb,bl]
theorem bl_lb(l:List UInt8):bl (lb l)=l:=by simp[lb,bl]
def insS(x:List UInt8):List (List UInt8)→List (List UInt8)
 |[]=>[x]
 |y::r=>if Op.bytesLess y x then y::insS x r else x::y::r
def insL:List (List UInt8)→List (List UInt8)
 |[]=>[]
 |x::r=>insS x (insL r)
def sortL(xs:List ByteArray):List ByteArray:=(insL (xs.map bl)).map lb
theorem bless_lt':∀x y:List UInt8,Op.bytesLess x y=decide (x<y)
 |[],[]=>by simp[Op.bytesLess]
 |[],b::y=>by simp[Op.bytesLess]
 |a::x,[]=>by simp[Op.bytesLess]
 |a::x,b::y=>by
  rw[Op.bytesLess,bless_lt' x y,Bool.eq_iff_iff]
  simp only[Bool.or_eq_true,decide_eq_true_eq,Bool.and_eq_true,beq_iff_eq,List.cons_lt_cons_iff]
theorem insS_perm(x:List UInt8):∀l,(insS x l).Perm (x::l)
 |[]=>List.Perm.refl _
 |y::r=>by
  unfold insS;split
  ·exact((insS_perm x r).cons y).trans (List.Perm.swap x y r)
  ·exact List.Perm.refl _
theorem insL_perm:∀l,(insL l).Perm l
 |[]=>List.Perm.refl _
 |x::r=>(insS_perm x _).trans ((insL_perm r).cons x)
theorem insS_pw(x:List UInt8):∀{l:List (List UInt8)},l.Pairwise (·≤·)→(insS x l).Pairwise (·≤·)
 |[],_=>by simp[insS]
 |y::r,h=>by
  have h2:=List.pairwise_cons.1 h
  unfold insS;split
  ·rename_i hl
   rw[bless_lt',decide_eq_true_eq]at hl
   refine List.pairwise_cons.2 ⟨fun z hz=>?_,insS_pw x h2.2⟩
   rcases List.mem_cons.1 ((insS_perm x r).mem_iff.1 hz)with e|hz
   ·subst e;exact List.le_of_lt hl
   ·exact h2.1 z hz
  ·rename_i hl
   rw[bless_lt',decide_eq_true_eq]at hl
   refine List.pairwise_cons.2 ⟨fun z hz=>?_,h⟩
   rcases List.mem_cons.1 hz with e|hz
   ·subst e;exact List.not_lt.1 hl
   ·exact List.le_trans (List.not_lt.1 hl) (h2.1 z hz)
theorem insL_pw:∀l,(insL l).Pairwise (·≤·)
 |[]=>List.Pairwise.nil
 |x::r=>insS_pw x (insL_pw r)
theorem insL_eq(l:List (List UInt8)):insL l=l.mergeSort fun x y=>decide (x≤y):=by
 refine List.Perm.eq_of_pairwise (le:=(·≤·)) (fun a b _ _ h1 h2=>List.le_antisymm h1 h2) (insL_pw l) ?_ ((insL_perm l).trans (List.mergeSort_perm l _).symm)
 refine(List.pairwise_mergeSort (le:=fun x y:List UInt8=>decide (x≤y)) (fun a b c h1 h2=>by simp only[decide_eq_true_eq]at*;exact List.le_trans h1 h2) (fun a b=>by simp only[Bool.or_eq_true,decide_eq_true_eq];exact List.le_total a b) l).imp fun{a b} h=>by simpa using h
theorem sortL_eq(xs:List ByteArray):sortL xs=((xs.map bl).mergeSort fun x y=>decide (x≤y)).map lb:=by rw[sortL,insL_eq]
def compL(xs:List ByteArray):List ByteArray:=(Lib.compact (xs.map bl)).map lb
def sortI(xs:List ByteArray):Option (List ByteArray):=if xs.length≤4294967290 then some (sortL xs)else none
def compI(xs:List ByteArray):Option (List ByteArray):=if xs.length≤4294967290 then some (compL xs)else none
theorem sortL_len(xs:List ByteArray):(sortL xs).length=xs.length:=by simp[sortL_eq]
theorem compL_len(xs:List ByteArray):(compL xs).length≤xs.length:=by
 have:=Lib.compact_length_le (xs.map bl)
 simpa[compL]using this
theorem sortI_len{xs r:List ByteArray}(h:sortI xs=some r):r.length=xs.length:=by
 unfold sortI at h
 split at h
 ·cases h;exact sortL_len xs
 ·cases h
theorem put_rel{φ:Phi}{F:Nat→Prop}{w:World}{e e':Nat}{xs ys:List ByteArray}{b o:Nat}{ds:List (List UInt8)}{n:Nat}{os:Array Obj}
 (hr:Rel φ F (hp [some (.arr e 1 (xs.map eS))]) w) (hφ:φ 0=some (b,o)) (hd:ds.length=xs.length) (hy:ds.map lb=ys∨∃zs,ds.map lb=ys++zs)
 (he:e<e'∨e=e'∧ys.length=xs.length):
 ∃w',w'=grow (putRow encStr (Sort.ahead w n) b o ds.toArray) os∧Rel φ F (hp [some (.arr e' 1 (ys.map eS))]) w'∧Stp φ F (hp [some (.arr e 1 (xs.map eS))]) w φ F (hp [some (.arr e' 1 (ys.map eS))]) w'∧Fr φ F w φ F w'∧bsize w' b=bsize w b:=by
 refine⟨_,rfl,?_⟩
 generalize hw':grow (putRow encStr (Sort.ahead w n) b o ds.toArray) os=w'
 have hB:=hr.blk 0 _ rfl
 rcases hB with⟨h1,_⟩|⟨b0,o0,cs,T,h1,h2,h3,h4,h5⟩
 ·rw[hφ]at h1;cases h1
 rw[hφ]at h1
 simp only[Option.some.injEq,Prod.mk.injEq]at h1
 obtain⟨rfl,rfl⟩:=h1
 have hblt:b<w.heap.size:=hr.lt hφ
 have hrest:∀c,c<w.heap.size→c≠b→w'.heap[c]? =w.heap[c]? :=by
  intro c hc hcb
  rw[←hw']
  simp only[grow,putRow,mapBlock,Sort.ahead]
  rw[Array.getElem?_append_left (by simpa using hc),Array.getElem?_modify,if_neg (Ne.symm hcb)]
 have hsize:w.heap.size≤w'.heap.size:=by rw[←hw'];simp[grow,putRow,mapBlock,Sort.ahead]
 have hblk:w'.heap[b]? =some (.cells (putCells encStr o ds.toArray cs) T (0,0)):=by
  rw[←hw']
  simp only[grow,putRow,mapBlock,Sort.ahead]
  rw[Array.getElem?_append_left (by simpa using hblt),Array.getElem?_modify,if_pos rfl,h2]
  rfl
 have hsz:(putCells encStr o ds.toArray cs).size=cs.size:=by simp[putCells]
 have hlen:ys.length≤xs.length:=by
  rcases hy with hy|⟨zs,hy⟩
  ·have:=congrArg List.length hy;simp at this;omega
  ·have:=congrArg List.length hy;simp at this;omega
 have hget:∀i y,ys[i]? =some y→(putCells encStr o ds.toArray cs)[o+i]? =some (.string y):=by
  intro i y hi
  have hil:=(List.getElem?_eq_some_iff.1 hi).1
  simp only[List.length_map]at h3
  have hdi:(ds.map lb)[i]? =some y:=by
   rcases hy with hy|⟨zs,hy⟩
   ·rw[hy];exact hi
   ·rw[hy,List.getElem?_append_left hil];exact hi
  rw[List.getElem?_map,Option.map_eq_some_iff]at hdi
  obtain⟨l,hl,rfl⟩:=hdi
  have hcs:cs[o+i]? =some cs[o+i]:=Array.getElem?_eq_getElem (by omega)
  simp only[putCells,Array.getElem?_mapIdx,hcs,Option.map_some]
  rw[if_pos (by simp only[List.size_toArray];omega)]
  have e:o+i-o=i:=by omega
  rw[e]
  have:ds.toArray[i]! =l:=by
   rw[getElem!_pos _ i (by simp only[List.size_toArray];omega)]
   have:=(List.getElem?_eq_some_iff.1 hl)
   simpa using this.2
  rw[this];rfl
 have hbs:bsize w' b=bsize w b:=by simp only[bsize,hblk,h2,hsz]
 have upd0:upd φ 0 (φ 0)=φ:=by funext j;by_cases hj:j=0
                               ·subst hj;simp
                               ·rw[upd_ne _ _ hj]
 have updG:upd (hp [some (.arr e 1 (xs.map eS))]) 0 (some (.arr e' 1 (ys.map eS)))=hp [some (.arr e' 1 (ys.map eS))]:=by
  funext j
  cases j with
  |zero=>simp[upd,hp]
  |succ j=>simp[upd,hp]
 have:=hr.update 0 (φ 0) (.arr e' 1 (ys.map eS)) w' hsize (by rw[←hw'];exact⟨rfl,rfl⟩)
  (fun c hc hn=>hrest c hc fun e=>hn o (by rw[hφ,e])) (fun c oc hc=> .inl ⟨oc,hc⟩)
  (by
    rw[upd0]
    refine⟨by omega,fun hee=>⟨rfl,?_,rfl,fun c oc hc=>?_⟩⟩
    ·simp only[List.length_map];omega
    ·rw[hφ]at hc;cases hc;exact hbs)
  (fun stp=>by
    refine .inr ⟨b,o,_,T,by rw[upd0];exact hφ,hblk,?_,?_,?_⟩
    ·rw[hsz];simp only[List.length_map]at h3⊢;omega
    ·intro row hrow
     obtain⟨y,_,rfl⟩:=List.mem_map.1 hrow;rfl
    ·intro i row hi j d hj
     rw[List.getElem?_map,Option.map_eq_some_iff]at hi
     obtain⟨y,hy',rfl⟩:=hi
     cases j with
     |succ j=>simp[eS]at hj
     |zero=>
      simp only[eS,List.getElem?_cons_zero,Option.some.injEq]at hj
      subst hj
      exact⟨.string y,by rw[Nat.mul_one,Nat.add_zero];exact hget i y hy',.v _ rfl⟩)
 rw[upd0,updG]at this
 exact⟨this.1,this.2.1,this.2.2,hbs⟩
theorem holds_row{φ:Phi}{F:Nat→Prop}{w:World}{e:Nat}{xs:List ByteArray}{b o:Nat}(hr:Rel φ F (hp [some (.arr e 1 (xs.map eS))]) w)(hφ:φ 0=some (b,o)):Holds encStr w b o (xs.map bl).toArray:=by
 intro j hj
 simp only[List.size_toArray,List.length_map]at hj
 have hB:=hr.blk 0 _ rfl
 rcases hB with⟨h1,_⟩|⟨b0,o0,cs,T,h1,h2,h3,h4,h5⟩
 ·rw[hφ]at h1;cases h1
 rw[hφ]at h1
 simp only[Option.some.injEq,Prod.mk.injEq]at h1
 obtain⟨rfl,rfl⟩:=h1
 obtain⟨u,hu,hd⟩:=h5 j (eS xs[j]) (by rw[List.getElem?_map,List.getElem?_eq_getElem hj];rfl) 0 _ rfl
 rw[Nat.mul_one,Nat.add_zero]at hu
 have hv:u= .string xs[j]:=by cases hd;rfl
 subst hv
 refine⟨?_,by simp[World.frozen?,h2]⟩
 rw[cell?_of_heap h2,hu]
 have:(xs.map bl).toArray[j]! =bl xs[j]:=by
  rw[getElem!_pos _ j (by simpa using hj)];simp
 rw[this]
 show some (Value.string xs[j])=some (Value.string (lb (bl xs[j])))
 rw[lb_bl]
theorem L_sort{P:Program}{f:FuncId}{ρ:Ren}(L:Lays.n190 P ρ)(hf:ρ.f 190=f)(hok:okFn P f=true){xs r:List ByteArray}{e0:Nat}(h:sortI xs=some r):
 CallD P f [.c (.own 0 e0 0 xs.length none)] [some (.arr e0 1 (xs.map eS))] (tupV []) [some (.arr e0 1 (r.map eS))]:=by
 unfold sortI at h
 split at h
 ·rename_i hl
  cases h
  intro φ F w vs hr hA
  cases hA with
  |cons hv hA=>
   cases hA
   obtain⟨e,sz,rows,hG,_,A,l,k,rfl,hk⟩:=hv
   cases hG
   obtain⟨rfl,hlk,_,_,hor⟩:=hk rfl
   refine .inl ⟨hok,?_⟩
   cases xs with
   |nil=>
    have:=Any.slices_Sort_string_none L A k w
    rw[hf]at this
    refine this.mono ?_
    rintro e' w' ⟨rfl,rfl⟩
    have e0':sortL []=[]:=rfl
    rw[e0']
    exact⟨_,rfl,φ,F,⟨[],rfl,.nil⟩,hr,Stp.refl _ _ _ _,Fr.refl _ _ _⟩
   |cons x xs=>
    rcases hor with h0|⟨b,o,n,hφ,rfl,hn,hle⟩
    ·simp only[List.length_cons]at hlk;omega
    simp only[Nat.zero_mul,Nat.add_zero]
    have:=Any.slices_Sort_string L b o k (((x::xs).map bl)) w (holds_row hr hφ) (hr.lt hφ) (by simp only[List.length_map];omega)
    rw[hf,List.length_map]at this
    refine this.mono ?_
    rintro e' w' ⟨rfl,n,os,hw⟩
    obtain⟨w2,q1,q2,q3,q4,_⟩:=put_rel (n:=n) (os:=os) (e':=e0) (ys:=sortL (x::xs)) hr hφ (ds:=((x::xs).map bl).mergeSort fun x y=>decide (x≤y)) (by simp) (.inl (sortL_eq _).symm) (.inr ⟨rfl,sortL_len _⟩)
    rw[←q1]at hw
    subst hw
    exact⟨_,rfl,φ,F,⟨[],rfl,.nil⟩,q2,q3,q4⟩
 ·cases h
theorem L_comp{P:Program}{f:FuncId}{ρ:Ren}(L:Lays.n194 P ρ)(hf:ρ.f 194=f)(hok:okFn P f=true){xs r:List ByteArray}{e0:Nat}(h:compI xs=some r):
 CallD P f [.c (.own 0 e0 0 xs.length none)] [some (.arr e0 1 (xs.map eS))] (tupV [.c (.own 0 (e0+1) 0 r.length none)]) [some (.arr (e0+1) 1 (r.map eS))]:=by
 unfold compI at h
 split at h
 ·rename_i hl
  cases h
  intro φ F w vs hr hA
  cases hA with
  |cons hv hA=>
   cases hA
   obtain⟨e,sz,rows,hG,_,A,l,k,rfl,hk⟩:=hv
   cases hG
   obtain⟨rfl,hlk,_,_,hor⟩:=hk rfl
   refine .inl ⟨hok,?_⟩
   cases xs with
   |nil=>
    have:=Any.slices_Compact_string_empty L A k w
    rw[hf]at this
    refine this.mono ?_
    rintro e' w' ⟨rfl,rfl⟩
    have hB:=hr.blk 0 _ rfl
    have upd0:upd φ 0 (φ 0)=φ:=by funext j;by_cases hj:j=0
                                  ·subst hj;simp
                                  ·rw[upd_ne _ _ hj]
    have updG:upd (hp [some (.arr e0 1 (([]:List ByteArray).map eS))]) 0 (some (.arr (e0+1) 1 []))=hp [some (.arr (e0+1) 1 [])]:=by
     funext j
     cases j with
     |zero=>simp[upd,hp]
     |succ j=>simp[upd,hp]
    have:=hr.update 0 (φ 0) (.arr (e0+1) 1 []) w' (Nat.le_refl _) (Io.refl _) (fun _ _ _=>rfl) (fun c oc hc=> .inl ⟨oc,hc⟩)
     (by rw[upd0];exact⟨by omega,fun hee=>by omega⟩)
     (fun stp=>by
       rcases hB with⟨h1,_⟩|⟨b,o,cs,T,h1,h2,h3,_,_⟩
       ·exact .inl ⟨by rw[upd0];exact h1,rfl⟩
       ·exact .inr ⟨b,o,cs,T,by rw[upd0];exact h1,h2,by simpa using h3,(fun row hrow=>by cases hrow),fun i row hi=>by simp at hi⟩)
    rw[upd0,updG]at this
    refine⟨_,rfl,φ,F,?_,this.1,this.2.1,this.2.2⟩
    exact⟨e0+1,1,[],rfl,Nat.le_refl _,A,0,k,rfl,fun _=>⟨rfl,Nat.zero_le _,(fun c hc=>by cases hc),fun _=>Nat.le_refl _,hor⟩⟩
   |cons x xs=>
    rcases hor with h0|⟨b,o,n,hφ,rfl,hn,hle⟩
    ·simp only[List.length_cons]at hlk;omega
    simp only[Nat.zero_mul,Nat.add_zero]at hle⊢
    have:=Any.slices_Compact_string L b o k ((x::xs).map bl) w (holds_row hr hφ) (by simp only[List.length_map];omega) (by simpa using hlk)
    rw[hf,List.length_map]at this
    refine this.mono ?_
    rintro e' w' ⟨rfl,q,hw⟩
    have hcl:=Lib.compact_length_le ((x::xs).map bl)
    rw[List.length_map]at hcl
    obtain⟨w2,q1,q2,q3,q4,q5⟩:=put_rel (n:=q) (os:= #[]) (e':=e0+1) (ys:=compL (x::xs)) hr hφ
     (ds:=Lib.compact ((x::xs).map bl)++List.replicate ((x::xs).length-(Lib.compact ((x::xs).map bl)).length) []) (by simp only[List.length_append,List.length_replicate];omega)
     (.inr ⟨_,by rw[List.map_append];rfl⟩) (.inl (by omega))
    rw[grow_empty]at q1
    rw[←q1]at hw
    subst hw
    have hcl2:(compL (x::xs)).length=(Lib.compact ((x::xs).map bl)).length:=by simp[compL]
    refine⟨_,rfl,φ,F,?_,q2,q3,q4⟩
    refine⟨e0+1,1,_,rfl,Nat.le_refl _,_,_,k,rfl,fun _=>⟨hcl2.symm,by omega,(fun c hc=>by cases hc),fun _=>by simp,.inr ⟨b,o,n,hφ,by simp,by rw[q5];exact hn,by omega⟩⟩⟩
 ·cases h
end Go.Fw
namespace Go.Fw
structure AlOne(φ:Phi)(F:Nat→Prop)(w:World)(m:Nat)(u:Value)(sz:Nat)(rows:List (List D))(x:Option (Nat×Nat)):Prop where
 val:∃A k,u= .slice A rows.length k∧rows.length≤k∧(k=0∨∃b o n,x=some (b,o)∧A=some ⟨b,o,none⟩∧bsize w b=some n∧o+k*sz≤n)
 blk:(x=none∧rows=[])∨∃b o cs T,x=some (b,o)∧w.heap[b]? =some (.cells cs T (0,0))∧o+rows.length*sz≤cs.size∧(∀row∈rows,row.length=sz)∧
    ∀(i:Nat) row,rows[i]? =some row→∀(j:Nat) d,row[j]? =some d→∃u,cs[o+i*sz+j]? =some u∧DRep w F d u
 out:∀b o,x=some (b,o)→m≤b∧b<w.heap.size∧¬F b∧∀id o',φ id≠some (b,o')
abbrev AE:=Value×Nat×List (List D)
structure Al(φ:Phi)(F:Nat→Prop)(w:World)(m:Nat)(l:List (Option AE)):Prop where
 ex:∃xs:Nat→Option (Nat×Nat),(∀i e,l[i]? =some (some e)→AlOne φ F w m e.1 e.2.1 e.2.2 (xs i))∧
  ∀i j b o o' e e',l[i]? =some (some e)→l[j]? =some (some e')→xs i=some (b,o)→xs j=some (b,o')→i=j
theorem Al.nil(φ F w m):Al φ F w m []:=⟨⟨fun _=>none,fun i e h=>by simp at h,fun i j b o o' e e' h=>by simp at h⟩⟩
theorem AlOne.keep{φ F w m u sz rows x φ' F' w'}(h:AlOne φ F w m u sz rows x)(hf:Fr φ F w φ' F' w')(hs:∀b,F b→F' b∧w'.heap[b]? =w.heap[b]?):AlOne φ' F' w' m u sz rows x:=by
 have same:∀b o,x=some (b,o)→w'.heap[b]? =w.heap[b]? :=fun b o hx=>hf.rest b (h.out b o hx).2.1 (h.out b o hx).2.2.2
 refine⟨?_,?_,fun b o hx=>?_⟩
 ·obtain⟨A,k,h1,h2,h3⟩:=h.val
  refine⟨A,k,h1,h2,h3.imp id ?_⟩
  rintro⟨b,o,n,hx,hA,hn,hle⟩
  exact⟨b,o,n,hx,hA,(bsize_congr (same b o hx)).trans hn,hle⟩
 ·rcases h.blk with h1|⟨b,o,cs,T,h1,h2,h3,h4,h5⟩
  ·exact .inl h1
  ·refine .inr ⟨b,o,cs,T,h1,(same b o h1).trans h2,h3,h4,fun i row hi j d hj=>?_⟩
   obtain⟨u,hu,hd⟩:=h5 i row hi j d hj
   exact⟨u,hu,hd.mono hs⟩
 ·obtain⟨h1,h2,h3,h4⟩:=h.out b o hx
  refine⟨h1,Nat.lt_of_lt_of_le h2 hf.size,fun hF=>?_,fun id o' hi=>?_⟩
  ·rcases hf.frz b hF with h|⟨id,o',h⟩|h
   ·exact h3 h
   ·exact h4 _ _ h
   ·omega
  ·rcases hf.own id b o' hi with⟨i0,o0,h⟩|h
   ·exact h4 _ _ h
   ·omega
theorem Al.keep{φ F w m l φ' F' w'}(h:Al φ F w m l)(hf:Fr φ F w φ' F' w')(hs:∀b,F b→F' b∧w'.heap[b]? =w.heap[b]?):Al φ' F' w' m l:=by
 obtain⟨xs,h1,h2⟩:=h.ex
 exact⟨⟨xs,fun i e he=>(h1 i e he).keep hf hs,h2⟩⟩
theorem Al.drop{φ F w m l}(h:Al φ F w m l)(i:Nat):Al φ F w m (l.set i none):=by
 obtain⟨xs,h1,h2⟩:=h.ex
 have key:∀(j:Nat) (e:AE),(l.set i none)[j]? =some (some e)→l[j]? =some (some e):=by
  intro j e hj
  by_cases hij:i=j
  ·subst hij
   rw[List.getElem?_set]at hj
   simp only[if_true]at hj
   split at hj<;>cases hj
  ·rwa [List.getElem?_set_ne hij]at hj
 exact⟨⟨xs,fun j e hj=>h1 j e (key j e hj),fun i j b o o' e e' hi hj=>h2 i j b o o' e e' (key i e hi) (key j e' hj)⟩⟩
theorem expel{φ F G w m l id e sz rows u}(hr:Rel φ F G w)(hG:G id=some (.arr e sz rows))(hc:CRep φ F G w (.own id e 0 rows.length none) u)(hal:Al φ F w m l)(hm:∀b o,φ id=some (b,o)→m≤b):
 Rel (upd φ id none) F (upd G id (some (.arr (e+1) sz []))) w∧Stp φ F G w (upd φ id none) F (upd G id (some (.arr (e+1) sz []))) w∧
  Fr φ F w (upd φ id none) F w∧Al (upd φ id none) F w m (l++[some (u,sz,rows)]):=by
 have stp:Stp φ F G w (upd φ id none) F (upd G id (some (.arr (e+1) sz []))) w:=by
  refine⟨fun b hF=>⟨hF,rfl⟩,fun j=>?_⟩
  by_cases hj:j=id
  ·subst hj;rw[upd_same,hG];exact⟨by omega,fun he=>by omega⟩
  ·rw[upd_ne _ _ hj]
   exact BStp.same (upd_ne _ _ hj) fun b o hφ=>rfl
 have hdn:∀j b o,upd φ id none j=some (b,o)→j≠id∧φ j=some (b,o):=by
  intro j b o hj
  by_cases hjj:j=id
  ·subst hjj;rw[upd_same]at hj;cases hj
  ·rw[upd_ne _ _ hjj]at hj;exact⟨hjj,hj⟩
 have fr:Fr φ F w (upd φ id none) F w:=⟨Nat.le_refl _,fun _ _ _=>rfl,fun j b o hj=> .inl ⟨j,o,(hdn j b o hj).2⟩,fun b hF=> .inl hF,Io.refl _⟩
 refine⟨⟨fun j bl hj=>?_,fun j y hy=>?_,fun i j b o b' o' hi hj hbb=>?_,fun b hF=>⟨(hr.frz b hF).1,fun j b' o hj=>(hr.frz b hF).2 j b' o (hdn j b' o hj).2⟩⟩,stp,fr,?_⟩
 ·by_cases hj':j=id
  ·subst hj';rw[upd_same]at hj;cases hj;exact .inl ⟨upd_same _ _ _,rfl⟩
  ·rw[upd_ne _ _ hj']at hj
   exact BRep.mono stp (upd_ne _ _ hj') (fun _ _ _=>rfl) (hr.blk j bl hj)
 ·obtain⟨b,o⟩:=y
  obtain⟨h1,h2⟩:=hdn j b o hy
  rw[upd_ne _ _ h1];exact hr.dom j _ h2
 ·exact hr.inj i j b o b' o' (hdn i b o hi).2 (hdn j b' o' hj).2 hbb
 ·obtain⟨xs,h1,h2⟩:=hal.ex
  obtain⟨e',sz',rows',hg,_,A,k,c,rfl,hk⟩:=hc
  rw[hG]at hg;cases hg
  obtain⟨rfl,hlk,_,_,hor⟩:=hk rfl
  have hnew:AlOne (upd φ id none) F w m (.slice A rows.length c) sz rows (φ id):=by
   refine⟨⟨A,c,rfl,hlk,hor.imp (fun h=>h) ?_⟩,hr.blk id _ hG,fun b o hx=>⟨hm b o hx,hr.lt hx,fun hF=>(hr.frz b hF).2 id b o hx rfl,fun j o' hj=>?_⟩⟩
   ·rintro⟨b,o,n,hx,hA,hn,hle⟩
    rw[Nat.zero_mul,Nat.add_zero]at hA hle
    exact⟨b,o,n,hx,hA,hn,hle⟩
   ·obtain⟨h3,h4⟩:=hdn j b o' hj
    exact h3 (hr.inj j id b o' b o h4 hx rfl)
  have hget:∀i x,(l++[some ((Value.slice A rows.length c,sz,rows):AE)])[i]? =some (some x)→(i=l.length∧x=(.slice A rows.length c,sz,rows))∨(i≠l.length∧l[i]? =some (some x)):=by
   intro i x hi
   rw[List.getElem?_append]at hi
   split at hi
   ·exact .inr ⟨by omega,hi⟩
   ·rename_i hlt
    have:i-l.length=0:=by
     by_cases h0:i-l.length=0
     ·exact h0
     ·rw[List.getElem?_eq_none (by simp;omega)]at hi;cases hi
    rw[this]at hi
    simp only[List.getElem?_cons_zero,Option.some.injEq]at hi
    exact .inl ⟨by omega,hi.symm⟩
  refine⟨⟨fun i=>if i=l.length then φ id else xs i,fun i x hi=>?_,fun i j b o o' x y hi hj hxi hxj=>?_⟩⟩
  ·rcases hget i x hi with⟨rfl,rfl⟩|⟨hne,hi⟩
   ·simp only[if_true];exact hnew
   ·simp only[if_neg hne];exact(h1 i x hi).keep fr fun b hF=>⟨hF,rfl⟩
  ·rcases hget i x hi with⟨rfl,rfl⟩|⟨hne,hi⟩
   ·rcases hget j y hj with⟨rfl,rfl⟩|⟨hne',hj⟩
    ·rfl
    ·simp only[if_true]at hxi
     simp only[if_neg hne']at hxj
     exact(((h1 j y hj).out b o' hxj).2.2.2 id o hxi).elim
   ·simp only[if_neg hne]at hxi
    rcases hget j y hj with⟨rfl,rfl⟩|⟨hne',hj⟩
    ·simp only[if_true]at hxj
     exact(((h1 i x hi).out b o hxi).2.2.2 id o' hxj).elim
    ·simp only[if_neg hne']at hxj
     exact h2 i j b o o' x y hi hj hxi hxj
theorem adopt{φ F G w m l i u sz rows id}(hr:Rel φ F G w)(hG:G id=none)(hal:Al φ F w m l)(hi:l[i]? =some (some (u,sz,rows))):
 ∃x,Rel (upd φ id x) F (upd G id (some (.arr 0 sz rows))) w∧Stp φ F G w (upd φ id x) F (upd G id (some (.arr 0 sz rows))) w∧
  CRep (upd φ id x) F (upd G id (some (.arr 0 sz rows))) w (.own id 0 0 rows.length none) u∧Al (upd φ id x) F w m (l.set i none)∧∀b o,x=some (b,o)→m≤b:=by
 obtain⟨xs,h1,h2⟩:=hal.ex
 have ho:AlOne φ F w m u sz rows (xs i):=h1 i _ hi
 have hφ:φ id=none:=by
  cases h:φ id with
  |none=>rfl
  |some y=>have:=hr.dom id y h;rw[hG]at this;cases this
 have hnid:∀j,G j≠none→j≠id:=fun j hj e=>hj (e▸hG)
 have stp:Stp φ F G w (upd φ id (xs i)) F (upd G id (some (.arr 0 sz rows))) w:=by
  refine⟨fun b hF=>⟨hF,rfl⟩,fun j=>?_⟩
  by_cases hj:j=id
  ·subst hj;rw[hG];trivial
  ·rw[upd_ne _ _ hj];exact BStp.same (upd_ne _ _ hj) fun b o hφ=>rfl
 refine⟨xs i,⟨fun j bl hj=>?_,fun j y hy=>?_,fun j k b o b' o' hj hk hbb=>?_,fun b hF=>⟨(hr.frz b hF).1,fun j b' o hj hbb=>?_⟩⟩,stp,?_,?_,fun b o hx=>(ho.out b o hx).1⟩
 ·by_cases hj':j=id
  ·subst hj';rw[upd_same]at hj;cases hj
   rcases ho.blk with⟨g1,g2⟩|⟨b,o,cs,T,g1,g2,g3,g4,g5⟩
   ·exact .inl ⟨by rw[upd_same];exact g1,g2⟩
   ·exact .inr ⟨b,o,cs,T,by rw[upd_same];exact g1,g2,g3,g4,g5⟩
  ·rw[upd_ne _ _ hj']at hj
   exact BRep.mono stp (upd_ne _ _ hj') (fun _ _ _=>rfl) (hr.blk j bl hj)
 ·by_cases hj:j=id
  ·subst hj;simp
  ·rw[upd_ne _ _ hj]at hy⊢;exact hr.dom j y hy
 ·subst hbb
  by_cases hj':j=id<;>by_cases hk':k=id
  ·rw[hj',hk']
  ·subst hj'
   rw[upd_same]at hj;rw[upd_ne _ _ hk']at hk
   exact((ho.out b o hj).2.2.2 k o' hk).elim
  ·subst hk'
   rw[upd_same]at hk;rw[upd_ne _ _ hj']at hj
   exact((ho.out b o' hk).2.2.2 j o hj).elim
  ·rw[upd_ne _ _ hj']at hj;rw[upd_ne _ _ hk']at hk
   exact hr.inj j k b o b o' hj hk rfl
 ·subst hbb
  by_cases hj':j=id
  ·subst hj';rw[upd_same]at hj;exact(ho.out b' o hj).2.2.1 hF
  ·rw[upd_ne _ _ hj']at hj;exact(hr.frz b' hF).2 j b' o hj rfl
 ·obtain⟨A,k,rfl,hlk,hor⟩:=ho.val
  refine⟨0,sz,rows,upd_same _ _ _,Nat.le_refl _,A,rows.length,k,rfl,fun _=>⟨rfl,hlk,(fun c hc=>by cases hc),(fun _=>by omega),hor.imp (fun h=>h) ?_⟩⟩
  rintro⟨b,o,n,hx,hA,hn,hle⟩
  exact⟨b,o,n,by rw[upd_same];exact hx,by rw[Nat.zero_mul,Nat.add_zero];exact hA,hn,by rw[Nat.zero_mul,Nat.add_zero];exact hle⟩
 ·have key:∀(j:Nat) (e:AE),(l.set i none)[j]? =some (some e)→j≠i∧l[j]? =some (some e):=by
   intro j e hj
   by_cases hij:i=j
   ·subst hij
    rw[List.getElem?_set]at hj
    simp only[if_true]at hj
    split at hj<;>cases hj
   ·rw[List.getElem?_set_ne hij]at hj;exact⟨fun e=>hij e.symm,hj⟩
  refine⟨⟨xs,fun j e hj=>?_,fun j k b o o' e e' hj hk=>h2 j k b o o' e e' (key j e hj).2 (key k e' hk).2⟩⟩
  obtain⟨hji,hj⟩:=key j e hj
  have hjo:=h1 j e hj
  refine⟨hjo.val,hjo.blk,fun b o hx=>?_⟩
  obtain⟨q1,q2,q3,q4⟩:=hjo.out b o hx
  refine⟨q1,q2,q3,fun k o' hk=>?_⟩
  by_cases hk':k=id
  ·subst hk';rw[upd_same]at hk
   exact hji (h2 j i b o o' _ _ hj hi hx hk)
  ·rw[upd_ne _ _ hk']at hk;exact q4 k o' hk
theorem giveUp{φ F G w m l}(hr:Rel φ F G w)(hal:Al φ F w m l):∃F':Nat→Prop,Rel φ F' G w∧Stp φ F G w φ F' G w∧(∀b,F' b→F b∨m≤b)∧
 ∀(i:Nat) u sz rows,l[i]? =some (some (u,sz,rows))→DRep w F' (.sl rows) u:=by
 obtain⟨xs,h1,h2⟩:=hal.ex
 let F':Nat→Prop:=fun b=>F b∨∃i e o,l[i]? =some (some e)∧xs i=some (b,o)
 have stp:Stp φ F G w φ F' G w:=⟨fun b hF=>⟨.inl hF,rfl⟩,fun j=>BStp.refl _ _ _ _⟩
 refine⟨F',⟨fun j bl hj=>BRep.mono stp rfl (fun _ _ _=>rfl) (hr.blk j bl hj),hr.dom,hr.inj,fun b hF=>?_⟩,stp,fun b hF=>?_,fun i u sz rows hi=>?_⟩
 ·rcases hF with hF|⟨i,e,o,hi,hx⟩
  ·exact hr.frz b hF
  ·obtain⟨q1,q2,q3,q4⟩:=(h1 i e hi).out b o hx
   exact⟨q2,fun j b' o' hj hbb=>q4 j o' (hbb▸hj)⟩
 ·rcases hF with hF|⟨i,e,o,hi,hx⟩
  ·exact .inl hF
  ·exact .inr ((h1 i e hi).out b o hx).1
 ·have ho:AlOne φ F w m u sz rows (xs i):=h1 i _ hi
  obtain⟨A,k,rfl,hlk,hor⟩:=ho.val
  rcases ho.blk with⟨_,rfl⟩|⟨b,o,cs,T,g1,g2,g3,g4,g5⟩
  ·exact .nil A k
  ·by_cases h0:rows=[]
   ·subst h0;exact .nil A k
   ·have hk:k≠0:=by
     intro h;subst h
     exact h0 (List.length_eq_zero_iff.1 (by omega))
    rcases hor with h|⟨b',o',n,e1,e2,_,_⟩
    ·exact(hk h).elim
    ·rw[g1]at e1;cases e1
     subst e2
     refine DRep.sl rows b o sz k (fun i j=>(cs[o+i*sz+j]?).getD (.bool true)) (.inr ⟨i,_,o,hi,g1⟩) hlk g4 (fun i row hi j d hj=>?_) (fun i row hi j d hj=>?_)
     ·obtain⟨u,hu,_⟩:=g5 i row hi j d hj
      rw[cell?_of_heap g2,hu];simp
     ·obtain⟨u,hu,hd⟩:=g5 i row hi j d hj
      rw[hu];exact hd.mono fun b hb=>⟨.inl hb,rfl⟩
end Go.Fw
namespace Go.Fw
abbrev Lks:=List (Value×Nat×Nat)
structure AS(n:Nat)(w0:World)(F0:Nat→Prop)(s:St)(l:List (Option AE))(K:Lks)(a:Act)(w:World)(φ:Phi)(F:Nat→Prop):Prop where
 rel:SRel n φ F s a w
 al:Al φ F w w0.heap.size l
 lk:∀x∈K,CRep φ F (hp s.heap) w (.own x.2.1 0 0 x.2.2 none) x.1
 size:w0.heap.size≤w.heap.size
 rest:∀b,b<w0.heap.size→w.heap[b]? =w0.heap[b]?
 own:∀id b o,φ id=some (b,o)→w0.heap.size≤b
 frz:∀b,F b→F0 b∨w0.heap.size≤b
 mono:∀b,F0 b→F b
 io:Io w0 w
theorem own_mono{m φ F G w φ' F' G' w' id ep off len cap v}(h:StpM m φ F G w φ' F' G' w')(hm:id<m)(hc:CRep φ F G w (.own id ep off len cap) v):CRep φ' F' G' w' (.own id ep off len cap) v:=by
 have stp:Stp φ F (fun i=>if i=id then G i else none) w φ' F' (fun i=>if i=id then G' i else none) w':=by
  refine⟨h.frz,fun i=>?_⟩
  by_cases hi:i=id
  ·subst hi;simp only[if_true];exact h.blk i hm
  ·simp only[if_neg hi];trivial
 have h1:CRep φ F (fun i=>if i=id then G i else none) w (.own id ep off len cap) v:=by
  obtain⟨e,sz,rows,hg,r⟩:=hc
  exact⟨e,sz,rows,by simp only[if_true];exact hg,r⟩
 obtain⟨e,sz,rows,hg,r⟩:=CRep.mono stp h1
 exact⟨e,sz,rows,by simpa only[if_true]using hg,r⟩
theorem AS.step{n w0 F0 s l K a w φ F m s' a' w' φ' F'}(h:AS n w0 F0 s l K a w φ F)(h2:SRel n φ' F' s' a' w')(hf:Fr φ F w φ' F' w')(hs:StpM m φ F (hp s.heap) w φ' F' (hp s'.heap) w')
 (hm:∀x∈K,x.2.1<m):AS n w0 F0 s' l K a' w' φ' F':=by
 refine⟨h2,h.al.keep hf hs.frz,fun x hx=>own_mono hs (hm x hx) (h.lk x hx),Nat.le_trans h.size hf.size,fun b hb=>?_,fun id b o hi=>?_,fun b hb=>?_,fun b hb=>(hs.frz b (h.mono b hb)).1,h.io.trans hf.io⟩
 ·rw[hf.rest b (Nat.lt_of_lt_of_le hb h.size) fun id o hi=>?_,h.rest b hb]
  have:=h.own id b o hi;omega
 ·rcases hf.own id b o hi with⟨i0,o0,h0⟩|h0
  ·exact h.own i0 b o0 h0
  ·exact Nat.le_trans h.size h0
 ·rcases hf.frz b hb with h0|⟨id,o,h0⟩|h0
  ·exact h.frz b h0
  ·exact .inr (h.own id b o h0)
  ·exact .inr (Nat.le_trans h.size h0)
abbrev RB:=XT→St→List (Option AE)→Lks→Prop
def XB(n:Nat)(w0:World)(F0:Nat→Prop)(R:RB):Exit→Act→World→Prop
 | .normal,a,w=>∃s l K φ F,R .normal s l K∧AS n w0 F0 s l K a w φ F
 | .exit id,a,w=>∃s l K φ F,R (.exit id) s l K∧AS n w0 F0 s l K a w φ F
 | .ret,a,w=>∃s l K φ F,R .ret s l K∧AS n w0 F0 s l K a w φ F
 |_,_,_=>False
def WB(P:Program)(n:Nat)(w0:World)(F0:Nat→Prop)(ac:AC)(R:RB)(s:St)(l:List (Option AE))(K:Lks):Prop:=
 ∀c,cCode P n c=some ac.er→∀φ F a w,AS n w0 F0 s l K a w φ F→c.wp P (XB n w0 F0 R) a w
def thenB(T:St→List (Option AE)→Lks→Prop)(R:RB):RB
 | .normal,s,l,K=>T s l K
 |x,s,l,K=>R x s l K
def blockB(id:Nat)(R:RB):RB
 | .exit i,s,l,K=>if i=id then R .normal s l K else R (.exit i) s l K
 |x,s,l,K=>R x s l K
section
variable {P:Program} {n:Nat} {w0:World} {F0:Nat→Prop} {R R':RB} {s:St} {l:List (Option AE)} {K:Lks} {a b:AC}
theorem WB.leaf(m:Nat)(hm:∀x∈K,x.2.1<m)(h:vc P n m a (fun e s'=>R e s' l K) s):WB P n w0 F0 a R s l K:=by
 intro c hc φ F ac w hs
 refine wp_mono (vc_sound c a _ s hc h φ F ac w hs.rel) fun e a' w' hq=>?_
 have go:∀e,Post n m φ F s w (fun s'=>R e s' l K) a' w'→∃s l K φ F,R e s l K∧AS n w0 F0 s l K a' w' φ F:=by
  rintro e ⟨s1,φ1,F1,h1,h2,h3,h4⟩
  exact⟨s1,l,K,φ1,F1,h1,hs.step h2 h3 h4 hm⟩
 cases e with
 |normal=>exact go _ hq
 |exit id=>exact go _ hq
 |ret=>exact go _ hq
 |_=>exact hq.elim
theorem WB.seq(h:WB P n w0 F0 a (thenB (fun s l K=>WB P n w0 F0 b R s l K) R) s l K):WB P n w0 F0 (.seq a b) R s l K:=by
 intro c hc φ F ac w hs
 cases c with
 |seq x y=>
  simp only[cCode,AC.er,Option.bind_eq_some_iff,Option.map_eq_some_iff,AC.seq.injEq]at hc
  obtain⟨_,hx,_,hy,rfl,rfl⟩:=hc
  refine wp_seq (wp_mono (h x hx φ F ac w hs) fun e a' w' hq=>?_)
  cases e with
  |normal=>
   obtain⟨s',l',K',φ',F',h1,h2⟩:=hq
   exact h1 y hy φ' F' a' w' h2
  |exit id=>exact hq
  |ret=>exact hq
  |_=>exact hq.elim
 |region id ops draw=>
  simp only[cCode,AC.er]at hc
  cases draw with
  |true=>
   simp only[if_true,cDraw,Option.bind_eq_some_iff]at hc
   obtain⟨_,_,hc⟩:=hc
   split at hc<;>cases hc
  |false=>
   simp only[Bool.false_eq_true,if_false,Option.map_eq_some_iff]at hc
   obtain⟨_,_,hc⟩:=hc;cases hc
 |cond=>simp only[cCode,AC.er,Option.bind_eq_some_iff,Option.map_eq_some_iff]at hc;obtain⟨_,_,_,_,_,_,hc⟩:=hc;cases hc
 |block=>simp only[cCode,AC.er,Option.map_eq_some_iff]at hc;obtain⟨_,_,hc⟩:=hc;cases hc
 |loop=>simp only[cCode,AC.er,Option.map_eq_some_iff]at hc;obtain⟨_,_,hc⟩:=hc;cases hc
 |_=>cases hc
theorem WB.block{id:Nat}(h:WB P n w0 F0 a (blockB id R) s l K):WB P n w0 F0 (.block id a) R s l K:=by
 intro c hc φ F ac w hs
 cases c with
 |block id' x=>
  simp only[cCode,AC.er,Option.map_eq_some_iff,AC.block.injEq]at hc
  obtain⟨_,hx,rfl,rfl⟩:=hc
  refine wp_block (wp_mono (h x hx φ F ac w hs) fun e a' w' hq=>?_)
  cases e with
  |normal=>exact hq
  |exit i=>
   simp only[Exit.inBlock]
   by_cases hi:i=id'
   ·subst hi
    simp only[if_true]
    obtain⟨s',l',K',φ',F',h1,h2⟩:=hq
    exact⟨s',l',K',φ',F',by simpa[blockB]using h1,h2⟩
   ·simp only[hi,if_false]
    obtain⟨s',l',K',φ',F',h1,h2⟩:=hq
    exact⟨s',l',K',φ',F',by simpa[blockB,hi]using h1,h2⟩
  |ret=>exact hq
  |_=>exact hq.elim
 |region id ops draw=>
  simp only[cCode,AC.er]at hc
  cases draw with
  |true=>
   simp only[if_true,cDraw,Option.bind_eq_some_iff]at hc
   obtain⟨_,_,hc⟩:=hc
   split at hc<;>cases hc
  |false=>
   simp only[Bool.false_eq_true,if_false,Option.map_eq_some_iff]at hc
   obtain⟨_,_,hc⟩:=hc;cases hc
 |cond=>simp only[cCode,AC.er,Option.bind_eq_some_iff,Option.map_eq_some_iff]at hc;obtain⟨_,_,_,_,_,_,hc⟩:=hc;cases hc
 |seq=>simp only[cCode,AC.er,Option.bind_eq_some_iff,Option.map_eq_some_iff]at hc;obtain⟨_,_,_,_,hc⟩:=hc;cases hc
 |loop=>simp only[cCode,AC.er,Option.map_eq_some_iff]at hc;obtain⟨_,_,hc⟩:=hc;cases hc
 |_=>cases hc
theorem WB.cond{o:O}{t:Bool}(ht:s.evV o=some (.bool t))(h1:t=true→WB P n w0 F0 a R s l K)(h0:t=false→WB P n w0 F0 b R s l K):WB P n w0 F0 (.cond o a b) R s l K:=by
 intro c hc φ F ac w hs
 cases c with
 |cond c' x y=>
  simp only[cCode,AC.er,Option.bind_eq_some_iff,Option.map_eq_some_iff]at hc
  obtain⟨_,hc',_,hx,_,hy,he⟩:=hc
  cases he
  have e:=evV_rep hs.rel hc' ht
  cases t with
  |true=>exact wp_cond_true e (h1 rfl x hx φ F ac w hs)
  |false=>exact wp_cond_false e (h0 rfl y hy φ F ac w hs)
 |region id ops draw=>
  simp only[cCode,AC.er]at hc
  cases draw with
  |true=>
   simp only[if_true,cDraw,Option.bind_eq_some_iff]at hc
   obtain⟨_,_,hc⟩:=hc
   split at hc<;>cases hc
  |false=>
   simp only[Bool.false_eq_true,if_false,Option.map_eq_some_iff]at hc
   obtain⟨_,_,hc⟩:=hc;cases hc
 |seq=>simp only[cCode,AC.er,Option.bind_eq_some_iff,Option.map_eq_some_iff]at hc;obtain⟨_,_,_,_,hc⟩:=hc;cases hc
 |block=>simp only[cCode,AC.er,Option.map_eq_some_iff]at hc;obtain⟨_,_,hc⟩:=hc;cases hc
 |loop=>simp only[cCode,AC.er,Option.map_eq_some_iff]at hc;obtain⟨_,_,hc⟩:=hc;cases hc
 |_=>cases hc
theorem WB.loop(I:Nat→St→List (Option AE)→Lks→Prop)(h0:∃k,I k s l K)
 (hr:∀k s l K,I k s l K→WB P n w0 F0 a (thenB (fun s' l' K'=>∃k',k'<k∧I k' s' l' K') R) s l K):WB P n w0 F0 (.loop a) R s l K:=by
 intro c hc φ F ac w hs
 cases c with
 |loop c=>
  simp only[cCode,AC.er,Option.map_eq_some_iff,AC.loop.injEq]at hc
  obtain⟨_,hx,rfl⟩:=hc
  obtain⟨k0,hI⟩:=h0
  refine wp_loop_g (fun k a' w'=>∃s' l' K' φ' F',I k s' l' K'∧AS n w0 F0 s' l' K' a' w' φ' F') (k0:=k0) ⟨s,l,K,φ,F,hI,hs⟩ ?_
  rintro k a' w' ⟨s',l',K',φ',F',g1,g2⟩
  refine wp_mono (hr k s' l' K' g1 c hx φ' F' a' w' g2) fun e a'' w'' hq=>?_
  cases e with
  |normal=>
   obtain⟨s2,l2,K2,φ2,F2,⟨k',hlt,hI'⟩,q⟩:=hq
   exact⟨k',hlt,s2,l2,K2,φ2,F2,hI',q⟩
  |exit id=>exact hq
  |ret=>exact hq
  |_=>exact hq.elim
 |region id ops draw=>
  simp only[cCode,AC.er]at hc
  cases draw with
  |true=>
   simp only[if_true,cDraw,Option.bind_eq_some_iff]at hc
   obtain⟨_,_,hc⟩:=hc
   split at hc<;>cases hc
  |false=>
   simp only[Bool.false_eq_true,if_false,Option.map_eq_some_iff]at hc
   obtain⟨_,_,hc⟩:=hc;cases hc
 |seq=>simp only[cCode,AC.er,Option.bind_eq_some_iff,Option.map_eq_some_iff]at hc;obtain⟨_,_,_,_,hc⟩:=hc;cases hc
 |cond=>simp only[cCode,AC.er,Option.bind_eq_some_iff,Option.map_eq_some_iff]at hc;obtain⟨_,_,_,_,_,_,hc⟩:=hc;cases hc
 |block=>simp only[cCode,AC.er,Option.map_eq_some_iff]at hc;obtain⟨_,_,hc⟩:=hc;cases hc
 |_=>cases hc
def Tell(n:Nat)(w0:World)(F0:Nat→Prop)(J:St→List (Option AE)→Lks→Prop)(s:St)(l:List (Option AE))(K:Lks):Prop:=
 ∀φ F a w,AS n w0 F0 s l K a w φ F→∃s' l' K' φ' F',J s' l' K'∧AS n w0 F0 s' l' K' a w φ' F'
theorem WB.tell{J:St→List (Option AE)→Lks→Prop}(h:Tell n w0 F0 J s l K)(h2:∀s' l' K',J s' l' K'→WB P n w0 F0 a R s' l' K'):WB P n w0 F0 a R s l K:=by
 intro c hc φ F ac w hs
 obtain⟨s',l',K',φ',F',hJ,h3⟩:=h φ F ac w hs
 exact h2 s' l' K' hJ c hc φ' F' ac w h3
theorem WB.post(h:WB P n w0 F0 a R' s l K)(hq:∀e s' l' K',R' e s' l' K'→Tell n w0 F0 (R e) s' l' K'):WB P n w0 F0 a R s l K:=by
 intro c hc φ F ac w hs
 refine wp_mono (h c hc φ F ac w hs) fun e a' w' hx=>?_
 cases e with
 |normal=>obtain⟨s1,l1,K1,φ1,F1,h1,h2⟩:=hx;exact hq _ _ _ _ h1 φ1 F1 a' w' h2
 |exit id=>obtain⟨s1,l1,K1,φ1,F1,h1,h2⟩:=hx;exact hq _ _ _ _ h1 φ1 F1 a' w' h2
 |ret=>obtain⟨s1,l1,K1,φ1,F1,h1,h2⟩:=hx;exact hq _ _ _ _ h1 φ1 F1 a' w' h2
 |_=>exact hx.elim
theorem Tell.refl{J:St→List (Option AE)→Lks→Prop}(h:J s l K):Tell n w0 F0 J s l K:=fun φ F _ _ hs=>⟨s,l,K,φ,F,h,hs⟩
theorem Tell.trans{J J':St→List (Option AE)→Lks→Prop}(h:Tell n w0 F0 J s l K)(h2:∀s' l' K',J s' l' K'→Tell n w0 F0 J' s' l' K'):Tell n w0 F0 J' s l K:=by
 intro φ F a w hs
 obtain⟨s',l',K',φ',F',hJ,h3⟩:=h φ F a w hs
 exact h2 s' l' K' hJ φ' F' a w h3
theorem lks_bound:∀(K:Lks),∀x∈K,x.2.1<K.foldr (fun x m=>max (x.2.1+1) m) 0
 |[],x,hx=>by cases hx
 |y::K,x,hx=>by
  simp only[List.foldr_cons]
  rcases List.mem_cons.1 hx with rfl|hx
  ·omega
  ·have:=lks_bound K x hx;omega
theorem WB.skip(h:R .normal s l K):WB P n w0 F0 .skip R s l K:=WB.leaf _ (lks_bound K) h
theorem WB.exit{id:Nat}(h:R (.exit id) s l K):WB P n w0 F0 (.exit id) R s l K:=WB.leaf _ (lks_bound K) h
theorem Tell.view{m:Nat}{s':St}(hm:∀x∈K,x.2.1<m)(hv:View n m s s'):Tell n w0 F0 (fun s1 l1 K1=>s1=s'∧l1=l∧K1=K) s l K:=by
 intro φ F a w hs
 obtain⟨φ',F',h1,h2,h3⟩:=hv φ F a w hs.rel
 exact⟨s',l,K,φ',F',⟨rfl,rfl,rfl⟩,hs.step h1 h2 h3 hm⟩
end
end Go.Fw
namespace Go.Fw
section
variable {P:Program} {n m:Nat}
theorem vcOps_pre{ops:Array Oper}{mask:Nat→Nat}{Q:Exit→Act→World→Prop}{rest0:List Nat}:∀(l:List Oper) (k:Nat) (steps:List AStep) (s:St) (K:St→Prop),
 (∀j,j<l.length→l[j]? =ops[k+j]?)→k+l.length≤ops.size→cStepsFrom P n ops mask k l=some steps→vcOps P steps s K→
 ∀{φ F a w},SRel n φ F s a w→(∀a' w',Post n m φ F s w K a' w'→wpOps P ops Q rest0 a' w')→wpOps P ops Q (List.range' k l.length++rest0) a w
 |[],k,steps,s,K,hl,hk,hc,hv,φ,F,a,w,h,hQ=>by
  cases hc
  exact hQ a w ⟨s,φ,F,hv,h,Fr.refl _ _ _,StpM.refl _ _ _ _ _⟩
 |o::l,k,steps,s,K,hl,hk,hc,hv,φ,F,a,w,h,hQ=>by
  simp only[cStepsFrom,Option.bind_eq_some_iff,Option.map_eq_some_iff]at hc
  obtain⟨st,hst,steps',hsteps,rfl⟩:=hc
  obtain⟨hdn,hop,hdst,_,_,hguard⟩:=cStep_parts hst
  have ho:ops[k]? =some o:=by have:=hl 0 (by simp);simpa using this.symm
  simp only[List.length_cons,List.range'_succ,List.cons_append]
  have rest:∀{s':St} {φ' F' a' w'},vcOps P steps' s' K→SRel n φ' F' s' a' w'→Fr φ F w φ' F' w'→StpM m φ F (hp s.heap) w φ' F' (hp s'.heap) w'→
   wpOps P ops Q (List.range' (k+1) l.length++rest0) a' w':=by
   intro s' φ' F' a' w' hv' h' hf hs
   refine vcOps_pre l (k+1) steps' s' K (fun j hj=>?_) (by simp at hk;omega) hsteps hv' h' fun a'' w'' hp=>hQ _ _ ?_
   ·have:=hl (j+1) (by simp;omega);simp only[List.getElem?_cons_succ]at this;rw[this];congr 1;omega
   ·obtain⟨s2,φ2,F2,h1,h2,h3,h4⟩:=hp
    exact⟨s2,φ2,F2,h1,h2,hf.trans h3,hs.trans h4⟩
  have go:∀(sl:List (Nat×AV)),SRel n φ F ⟨sl,s.heap⟩ a w→opS P st.op ⟨sl,s.heap⟩ (fun out=>vcOps P steps' (St.apply ⟨sl,s.heap⟩ st.dst out) K)→o.wp P a w (wpOps P ops Q (List.range' (k+1) l.length++rest0)) Q:=by
   intro sl h hrun
   refine Oper.wp_mono ?_ (opS_sound h hop hrun Q)
   rintro a' w' ⟨v,rfl,⟨⟨out,φ',F',hK,hav,hr,hs,hf⟩⟩⟩
   rw[hdst]at hK
   exact rest hK (h.put hdn hav hr hs) hf hs.m
  have skip:∀(sl:List (Nat×AV)),SRel n φ F ⟨sl,s.heap⟩ a w→vcOps P steps' (St.apply ⟨sl,s.heap⟩ st.dst skipOut) K→wpOps P ops Q (List.range' (k+1) l.length++rest0) (a.put o.dst undef) w:=by
   intro sl h hsk
   rw[hdst]at hsk
   refine rest hsk (h.put hdn (out:=skipOut) (fun av hav=>?_) h.rel (Stp.refl _ _ _ _)) (Fr.refl _ _ _) (StpM.refl _ _ _ _ _)
   cases hav;exact⟨[],rfl,.nil⟩
  rw[wpOps_cons]
  unfold wpOp
  rw[ho]
  simp only
  simp only[vcOps]at hv
  cases hg:o.guard with
  |none=>
   rw[hg]at hguard
   rw[hguard]at hv
   simp only at hv
   simp only[Region.wanted,hg,if_true]
   exact .inl (go s.slots h hv)
  |some x=>
   obtain⟨g,want⟩:=x
   rw[hg]at hguard
   obtain⟨d,hd,hdn',hguard⟩:=hguard
   rw[hguard]at hv
   simp only at hv
   have hy:=yielded_at (a:=a) hd (by rw[h.size];exact hdn')
   split at hv
   ·rename_i t ht
    have hval:=h.slot _ _ ht
    generalize a.tmps.getD d undef=u at hval hy
    cases hval
    simp only at hy
    simp only[Region.wanted,hg,hy]
    by_cases htw:t=want
    ·subst htw;simp only[beq_self_eq_true,if_true];exact .inl (go _ (h.setB ht) (hv.1 rfl))
    ·have:(some t==some want)=false:=by simpa using htw
     simp only[this,Bool.false_eq_true,if_false]
     have htn:t= !want:=by cases t<;>cases want<;>simp_all
     exact skip _ (h.setB (by rw[←htn];exact ht)) (hv.2 htn)
   ·rename_i ht
    obtain⟨vs,hval,hvs⟩:=h.slot _ _ ht
    cases hvs
    rw[hval]at hy
    simp only at hy
    simp only[Region.wanted,hg,hy]
    have:((none:Option Bool)==some want)=false:=rfl
    simp only[this,Bool.false_eq_true,if_false]
    exact skip s.slots h hv
   ·exact hv.elim
theorem steps_cut(ops:Array Oper)(mask:Nat→Nat):∀(i:Nat) (l:List Oper) (k:Nat) (steps:List AStep),cStepsFrom P n ops mask k l=some steps→i≤l.length→
 cStepsFrom P n ops mask k (l.take i)=some (steps.take i)∧cStepsFrom P n ops mask (k+i) (l.drop i)=some (steps.drop i)
 |0,l,k,steps,h,_=>⟨rfl,by simpa using h⟩
 |i+1,[],k,steps,h,hi=>by simp at hi
 |i+1,o::l,k,steps,h,hi=>by
  simp only[cStepsFrom,Option.bind_eq_some_iff,Option.map_eq_some_iff]at h
  obtain⟨st,hst,steps',hs,rfl⟩:=h
  obtain⟨h1,h2⟩:=steps_cut ops mask i l (k+1) steps' hs (by simpa using hi)
  refine⟨?_,?_⟩
  ·simp only[List.take_succ_cons,cStepsFrom,hst,h1];rfl
  ·simp only[List.drop_succ_cons]
   rw[show k+(i+1)=k+1+i by omega];exact h2
theorem steps_len(ops:Array Oper)(mask:Nat→Nat):∀(l:List Oper) (k:Nat) (steps:List AStep),cStepsFrom P n ops mask k l=some steps→steps.length=l.length
 |[],k,steps,h=>by cases h;rfl
 |o::l,k,steps,h=>by
  simp only[cStepsFrom,Option.bind_eq_some_iff,Option.map_eq_some_iff]at h
  obtain⟨st,hst,steps',hs,rfl⟩:=h
  simp[steps_len ops mask l (k+1) steps' hs]
theorem WB.split{w0:World}{F0:Nat→Prop}{R:RB}{s:St}{l:List (Option AE)}{K:Lks}(s1 s2:List AStep)(hv:vcOps P s1 s fun s'=>Tell n w0 F0 (fun s2' l' K'=>vcOps P s2 s2' fun s3=>R .normal s3 l' K') s' l K):
 WB P n w0 F0 (.reg (s1++s2)) R s l K:=by
 intro c hc φ F a w hs
 cases c with
 |region id ops draw=>
  cases draw with
  |true=>
   simp only[cCode,AC.er,if_true,cDraw,Option.bind_eq_some_iff]at hc
   obtain⟨_,_,hc⟩:=hc
   split at hc<;>cases hc
  |false=>
   simp only[cCode,AC.er,Bool.false_eq_true,if_false,Option.map_eq_some_iff,AC.reg.injEq]at hc
   obtain⟨steps',hsteps,rfl⟩:=hc
   have hlen:=steps_len _ _ _ _ _ hsteps
   rw[List.length_append]at hlen
   obtain⟨c1,c2⟩:=steps_cut _ _ s1.length _ _ _ hsteps (by omega)
   rw[List.take_left,Nat.zero_add,List.drop_left]at*
   refine wp_region ?_
   have hl1:(ops.toList.take s1.length).length=s1.length:=by rw[List.length_take];omega
   have hl2:(ops.toList.drop s1.length).length=s2.length:=by rw[List.length_drop];omega
   have hsz:ops.toList.length=ops.size:=by simp
   have key:=vcOps_pre (m:=K.foldr (fun x m=>max (x.2.1+1) m) 0) (ops:=ops) (Q:=XB n w0 F0 R) (rest0:=List.range' s1.length s2.length) (ops.toList.take s1.length) 0 s1 s _ (fun j hj=>by rw[List.getElem?_take,if_pos (by omega)];simp) (by omega) c1 hv hs.rel (fun a' w' hp'=>?_)
   ·have e:=List.range'_append_1 (s:=0) (m:=s1.length) (n:=s2.length)
    rw[Nat.zero_add]at e
    rw[hl1,e]at key
    rw[List.range_eq_range']
    have:ops.size=s1.length+s2.length:=by omega
    rw[this];exact key
   ·obtain⟨s',φ',F',hT,h2,h3,h4⟩:=hp'
    obtain⟨s2',l',K',φ2,F2,hv2,h5⟩:=hT φ' F' a' w' (hs.step h2 h3 h4 (lks_bound K))
    have:=vcOps_sound (m:=K'.foldr (fun x m=>max (x.2.1+1) m) 0) (ops:=ops) (Q:=XB n w0 F0 R) (ops.toList.drop s1.length) s1.length s2 s2' _ (fun j=>by simp) (by omega) c2 hv2 h5.rel (fun a3 w3 hp3=>by
     obtain⟨s3,φ3,F3,hR,q2,q3,q4⟩:=hp3
     exact⟨s3,l',K',φ3,F3,hR,h5.step q2 q3 q4 (lks_bound K')⟩)
    rw[hl2]at this;exact this
 |seq=>simp only[cCode,AC.er,Option.bind_eq_some_iff,Option.map_eq_some_iff]at hc;obtain⟨_,_,_,_,hc⟩:=hc;cases hc
 |cond=>simp only[cCode,AC.er,Option.bind_eq_some_iff,Option.map_eq_some_iff]at hc;obtain⟨_,_,_,_,_,_,hc⟩:=hc;cases hc
 |block=>simp only[cCode,AC.er,Option.map_eq_some_iff]at hc;obtain⟨_,_,hc⟩:=hc;cases hc
 |loop=>simp only[cCode,AC.er,Option.map_eq_some_iff]at hc;obtain⟨_,_,hc⟩:=hc;cases hc
 |_=>cases hc
end
end Go.Fw
namespace Go.Fw
theorem All2.set{α β:Type}{R:α→β→Prop}{l:List α}{m:List β}(h:All2 R l m){j:Nat}{a:α}{b:β}(hb:m[j]? =some b)(hr:R a b):All2 R (l.set j a) m:=by
 induction h generalizing j with
 |nil=>simp at hb
 |cons x t ih=>
  cases j with
  |zero=>simp only[List.getElem?_cons_zero,Option.some.injEq]at hb;subst hb;exact .cons hr t
  |succ j=>simp only[List.getElem?_cons_succ]at hb;exact .cons x (ih hb)
theorem upd_self{α:Type}(f:Nat→α)(i:Nat):upd f i (f i)=f:=by
 funext j;by_cases h:j=i
 ·subst h;simp
 ·rw[upd_ne _ _ h]
theorem reBox{φ F G w}(h:Rel φ F G w){p:Nat}{cells cells':List C}(hG:G p=some (.box cells))(hc:∀vs,CsRep φ F G w cells vs→CsRep φ F G w cells' vs):
 Rel φ F (upd G p (some (.box cells'))) w∧Stp φ F G w φ F (upd G p (some (.box cells'))) w:=by
 have key:=h.update p (φ p) (.box cells') w (Nat.le_refl _) (Io.refl _) (fun _ _ _=>rfl) (fun b o hx=> .inl ⟨o,hx⟩) (by rw[hG];exact upd_same _ _ _) (fun stp=>by
  obtain⟨b,cs,T,h1,h2,h3⟩:=h.blk p _ hG
  rw[upd_self]at stp⊢
  exact⟨b,cs,T,h1,h2,(hc _ h3).mono stp⟩)
 rw[upd_self]at key
 exact⟨key.1,key.2.1⟩
theorem reArr{φ F G w}(h:Rel φ F G w){o e so:Nat}{R R':List (List D)}(hG:G o=some (.arr e so R))(hl:R'.length=R.length)
 (hc:∀(i:Nat) r r',R[i]? =some r→R'[i]? =some r'→r'.length=r.length∧∀(j:Nat) d d',r[j]? =some d→r'[j]? =some d'→∀u,DRep w F d u→DRep w F d' u):
 Rel φ F (upd G o (some (.arr e so R'))) w∧Stp φ F G w φ F (upd G o (some (.arr e so R'))) w:=by
 have key:=h.update o (φ o) (.arr e so R') w (Nat.le_refl _) (Io.refl _) (fun _ _ _=>rfl) (fun b o hx=> .inl ⟨o,hx⟩) (by rw[hG];exact⟨Nat.le_refl _,fun _=>⟨rfl,by omega,upd_same _ _ _,fun _ _ _=>rfl⟩⟩) (fun stp=>by
  rw[upd_self]at stp⊢
  rcases h.blk o _ hG with⟨h1,h2⟩|⟨b,o',cs,T,h1,h2,h3,h4,h5⟩
  ·subst h2;exact .inl ⟨h1,List.length_eq_zero_iff.1 hl⟩
  ·have hrow:∀(i:Nat) r',R'[i]? =some r'→∃r,R[i]? =some r∧r'.length=r.length:=fun i r' hi=>by
    have hlt:i<R.length:=by rw[←hl];exact(List.getElem?_eq_some_iff.1 hi).1
    exact⟨R[i],List.getElem?_eq_getElem hlt,(hc i _ _ (List.getElem?_eq_getElem hlt) hi).1⟩
   refine .inr ⟨b,o',cs,T,h1,h2,by rw[hl];exact h3,fun row hr=>?_,fun i r' hi j d' hj=>?_⟩
   ·obtain⟨i,hi,rfl⟩:=List.mem_iff_getElem.1 hr
    obtain⟨r,g1,g2⟩:=hrow i _ (List.getElem?_eq_getElem hi)
    rw[g2];exact h4 r (List.mem_of_getElem? g1)
   ·obtain⟨r,g1,g2⟩:=hrow i r' hi
    have hlt:j<r.length:=by rw[←g2];exact(List.getElem?_eq_some_iff.1 hj).1
    obtain⟨u,hu,hd⟩:=h5 i r g1 j r[j] (List.getElem?_eq_getElem hlt)
    exact⟨u,hu,(hc i r r' g1 hi).2 j _ d' (List.getElem?_eq_getElem hlt) hj u hd⟩)
 rw[upd_self]at key
 exact⟨key.1,key.2.1⟩
section
variable {n:Nat} {w0:World} {F0:Nat→Prop} {s:St} {l:List (Option AE)} {K:Lks}
theorem AS.re{a w φ F}(h:AS n w0 F0 s l K a w φ F){s':St}{l':List (Option AE)}{K':Lks}{φ' F'}(stp:Stp φ F (hp s.heap) w φ' F' (hp s'.heap) w)(hr:Rel φ' F' (hp s'.heap) w)
 (hsl:∀t av,Fw.lk s'.slots t=some av→AVRep φ' F' (hp s'.heap) w av (a.tmps.getD t undef)) (hal:Al φ' F' w w0.heap.size l') (hlk:∀x∈K',CRep φ' F' (hp s'.heap) w (.own x.2.1 0 0 x.2.2 none) x.1)
 (hown:∀id b o,φ' id=some (b,o)→w0.heap.size≤b) (hfrz:∀b,F' b→F0 b∨w0.heap.size≤b):AS n w0 F0 s' l' K' a w φ' F':=
 ⟨⟨h.rel.size,h.rel.defers,hr,hsl⟩,hal,hlk,h.size,h.rest,hown,hfrz,fun b hb=>(stp.frz b (h.mono b hb)).1,h.io⟩
theorem lk_cons(sl:List (Nat×AV))(t:Nat)(v:AV)(t':Nat):lk ((t,v)::sl) t'=if t'=t then some v else lk sl t':=by
 simp only[lk]
 by_cases h:t'=t
 ·subst h;simp
 ·have h':¬t=t':=fun e=>h e.symm
  simp[h,h']
theorem Tell.expel{t:Nat}{cs:List C}{j id e sz:Nat}{rows:List (List D)}(hs:lk s.slots t=some (.one (.agg cs)))(hj:cs[j]? =some (.own id e 0 rows.length none))(hG:hp s.heap id=some (.arr e sz rows)):
 Tell n w0 F0 (fun s' l' K'=>∃u,s'=⟨(t,.one (.agg (cs.set j (.d (.v u)))))::s.slots,hset s.heap id (.arr (e+1) sz [])⟩∧l'=l++[some (u,sz,rows)]∧K'=[]) s l K:=by
 intro φ F a w h
 obtain⟨vs,hv,hcs⟩:=h.rel.slot t _ hs
 obtain⟨u,hu,hc⟩:=All2.get hcs hj
 obtain⟨h1,h2,h3,h4⟩:=Fw.expel h.rel.rel hG hc h.al fun b o hi=>h.own id b o hi
 have e0:hp (hset s.heap id (.arr (e+1) sz []))=upd (hp s.heap) id (some (.arr (e+1) sz [])):=hp_hset _ _ _
 refine⟨_,_,_,upd φ id none,F,⟨u,rfl,rfl,rfl⟩,h.re (by rw[e0];exact h2) (by rw[e0];exact h1) (fun t' av hav=>?_) h4 (fun x hx=>by cases hx) (fun i b o hi=>?_) h.frz⟩
 ·rw[e0]
  simp only[lk_cons]at hav
  split at hav
  ·rename_i htt;subst htt;cases hav
   exact⟨vs,hv,(hcs.mono h2).set hu (DRep.v _ (CRep.isCell hc))⟩
  ·exact(h.rel.slot t' av hav).mono h2
 ·by_cases hi':i=id
  ·subst hi';rw[upd_same]at hi;cases hi
  ·rw[upd_ne _ _ hi']at hi;exact h.own i b o hi
theorem Tell.expelC{t:Nat}{id e sz:Nat}{rows:List (List D)}(hs:lk s.slots t=some (.one (.c (.own id e 0 rows.length none))))(hG:hp s.heap id=some (.arr e sz rows)):
 Tell n w0 F0 (fun s' l' K'=>∃u,s'=⟨(t,.one (.c (.d (.v u))))::s.slots,hset s.heap id (.arr (e+1) sz [])⟩∧l'=l++[some (u,sz,rows)]∧K'=[]) s l K:=by
 intro φ F a w h
 have hc:CRep φ F (hp s.heap) w (.own id e 0 rows.length none) (a.tmps.getD t undef):=h.rel.slot t _ hs
 obtain⟨h1,h2,h3,h4⟩:=Fw.expel h.rel.rel hG hc h.al fun b o hi=>h.own id b o hi
 have e0:hp (hset s.heap id (.arr (e+1) sz []))=upd (hp s.heap) id (some (.arr (e+1) sz [])):=hp_hset _ _ _
 refine⟨_,_,_,upd φ id none,F,⟨a.tmps.getD t undef,rfl,rfl,rfl⟩,h.re (by rw[e0];exact h2) (by rw[e0];exact h1) (fun t' av hav=>?_) h4 (fun x hx=>by cases hx) (fun i b o hi=>?_) h.frz⟩
 ·rw[e0]
  simp only[lk_cons]at hav
  split at hav
  ·rename_i htt;subst htt;cases hav
   exact DRep.v _ (CRep.isCell hc)
  ·exact(h.rel.slot t' av hav).mono h2
 ·by_cases hi':i=id
  ·subst hi';rw[upd_same]at hi;cases hi
  ·rw[upd_ne _ _ hi']at hi;exact h.own i b o hi
theorem Tell.adopt{p:Nat}{cells:List C}{j i sz:Nat}{u:Value}{rows:List (List D)}(hB:hp s.heap p=some (.box cells))(hj:cells[j]? =some (.d (.v u)))(hi:l[i]? =some (some (u,sz,rows))):
 Tell n w0 F0 (fun s' l' K'=>s'=⟨s.slots,hset (hset s.heap s.heap.length (.arr 0 sz rows)) p (.box (cells.set j (.own s.heap.length 0 0 rows.length none)))⟩∧l'=l.set i none∧K'=[(u,s.heap.length,rows.length)]) s l K:=by
 intro φ F a w h
 obtain⟨x,h1,h2,h3,h4,h5⟩:=Fw.adopt h.rel.rel (hp_len s.heap) h.al hi
 have hpne:p≠s.heap.length:=fun e=>by subst e;rw[hp_len]at hB;cases hB
 have hB':upd (hp s.heap) s.heap.length (some (.arr 0 sz rows)) p=some (.box cells):=by rw[upd_ne _ _ hpne];exact hB
 obtain⟨g1,g2⟩:=reBox h1 (cells':=cells.set j (.own s.heap.length 0 0 rows.length none)) hB' (fun vs hvs=>by
  obtain⟨v,hv,hc⟩:=All2.get hvs hj
  cases hc
  exact hvs.set hv h3)
 have e0:hp (hset (hset s.heap s.heap.length (.arr 0 sz rows)) p (.box (cells.set j (.own s.heap.length 0 0 rows.length none))))=upd (upd (hp s.heap) s.heap.length (some (.arr 0 sz rows))) p (some (.box (cells.set j (.own s.heap.length 0 0 rows.length none)))):=by
  rw[hp_hset,hp_hset]
 refine⟨_,_,_,upd φ s.heap.length x,F,⟨rfl,rfl,rfl⟩,h.re (by rw[e0];exact h2.trans g2) (by rw[e0];exact g1) (fun t av hav=>?_) h4 (fun y hy=>?_) (fun k b o hk=>?_) h.frz⟩
 ·rw[e0];exact(h.rel.slot t av hav).mono (h2.trans g2)
 ·rw[e0]
  rcases List.mem_singleton.1 hy with rfl
  exact h3.mono g2
 ·by_cases hk':k=s.heap.length
  ·subst hk';rw[upd_same]at hk;exact h5 b o hk
  ·rw[upd_ne _ _ hk']at hk;exact h.own k b o hk
theorem Tell.giveUp{o e so:Nat}{R R':List (List D)}(hO:hp s.heap o=some (.arr e so R))(hl:R'.length=R.length)
 (hc:∀(i:Nat) r r',R[i]? =some r→R'[i]? =some r'→r'.length=r.length∧∀(j:Nat) d d',r[j]? =some d→r'[j]? =some d'→d'=d∨∃(k:Nat) (u:Value) (sz:Nat) (rows:List (List D)),d= .v u∧l[k]? =some (some (u,sz,rows))∧d'= .sl rows):
 Tell n w0 F0 (fun s' l' K'=>s'=⟨s.slots,hset s.heap o (.arr e so R')⟩∧l'=[]∧K'=[]) s l K:=by
 intro φ F a w h
 obtain⟨F',h1,h2,h3,h4⟩:=Fw.giveUp h.rel.rel h.al
 obtain⟨g1,g2⟩:=reArr h1 (R':=R') hO hl (fun i r r' hr hr'=>by
  obtain⟨q1,q2⟩:=hc i r r' hr hr'
  refine⟨q1,fun j d d' hj hj' v hv=>?_⟩
  rcases q2 j d d' hj hj' with rfl|⟨k,u,sz,rows,rfl,hk,rfl⟩
  ·exact hv
  ·cases hv;exact h4 k _ sz rows hk)
 have e0:hp (hset s.heap o (.arr e so R'))=upd (hp s.heap) o (some (.arr e so R')):=hp_hset _ _ _
 refine⟨_,_,_,φ,F',⟨rfl,rfl,rfl⟩,h.re (by rw[e0];exact h2.trans g2) (by rw[e0];exact g1) (fun t av hav=>?_) (Al.nil _ _ _ _) (fun y hy=>by cases hy) h.own (fun b hb=>?_)⟩
 ·rw[e0];exact(h.rel.slot t av hav).mono (h2.trans g2)
 ·rcases h3 b hb with hb|hb
  ·exact h.frz b hb
  ·exact .inr hb
end
end Go.Fw
namespace Go.Fw
def xQ(n m:Nat)(Rx:Nat→St→Prop)(Rr:St→Prop):XT→St→Prop
 | .normal,_=>False
 | .exit i,s=>∃s'',View n m s s''∧Rx i s''
 | .ret,s=>∃s'',View n m s s''∧Rr s''
def pQ(Rn:St→Prop)(Rx:Nat→St→Prop)(Rr:St→Prop):XT→St→Prop
 | .normal,s=>Rn s
 | .exit i,s=>Rx i s
 | .ret,s=>Rr s
section
variable {P:Program} {n m:Nat} {w0:World} {F0:Nat→Prop} {s:St} {l:List (Option AE)} {K:Lks} {a:AC} {Rn Rr:St→Prop} {Rx:Nat→St→Prop}
theorem WB.piece(hm:∀x∈K,x.2.1<m)(h:sK P n m a [] (sM n m Rn (xQ n m Rx Rr)) s):WB P n w0 F0 a (fun e s' l' K'=>l'=l∧K'=K∧pQ Rn Rx Rr e s') s l K:=by
 rw[sK_eq,sM_eq]at h
 refine WB.post (R':=fun e s' l' K'=>l'=l∧K'=K∧semQ n m Rn (xQ n m Rx Rr) e s') (WB.leaf m hm ?_) ?_
 ·simp only[true_and];exact vcK_of h
 ·rintro e s' l2 K2 ⟨h1,h2,hq⟩
  rw[h1,h2]
  have go:∀{R:St→Prop},(∃s'',View n m s' s''∧R s'')→Tell n w0 F0 (fun s2 l' K'=>l'=l∧K'=K∧R s2) s' l K:=by
   rintro R ⟨s2,hv,hR⟩
   refine(Tell.view hm hv).trans ?_
   rintro _ _ _ ⟨rfl,rfl,rfl⟩
   exact Tell.refl ⟨rfl,rfl,hR⟩
  cases e with
  |normal=>exact go hq
  |exit i=>exact go hq
  |ret=>exact go hq
theorem endX{i:Nat}{s':St}{sl:List (Nat×AV)}{H':List (Option Blk)}(σ:Src)(hS:Sh m s'.heap σ H')(hs:shSl s'.heap σ H' s'.slots sl)(hR:Rx i ⟨sl,H'⟩):xQ n m Rx Rr (.exit i) s':=by
 exact⟨_,View.sh σ hS hs,hR⟩
theorem endR{s':St}{sl:List (Nat×AV)}{H':List (Option Blk)}(σ:Src)(hS:Sh m s'.heap σ H')(hs:shSl s'.heap σ H' s'.slots sl)(hR:Rr ⟨sl,H'⟩):xQ n m Rx Rr .ret s':=by
 exact⟨_,View.sh σ hS hs,hR⟩
end
end Go.Fw
namespace Go.Fw
section
variable {P:Program} {o:Oper} {a:Act} {φ:Phi} {F:Nat→Prop} {s:St} {w:World} {K:Out→Prop} {n:Nat}
end
section
variable {P:Program} {n m:Nat} {w0:World} {F0:Nat→Prop} {R:RB} {s:St} {l:List (Option AE)} {K:Lks}
theorem WB.pc{P:Program}{n m:Nat}{w0:World}{F0:Nat→Prop}{R:RB}{s:St}{l:List (Option AE)}{K:Lks}{a:AC}{Rn Rr:St→Prop}{Rx:Nat→St→Prop}(hm:∀x∈K,x.2.1<m)
 (h:sK P n m a [] (sM n m Rn (xQ n m Rx Rr)) s) (hn:∀s',Rn s'→Tell n w0 F0 (R .normal) s' l K) (hx:∀i s',Rx i s'→Tell n w0 F0 (R (.exit i)) s' l K) (hr:∀s',Rr s'→Tell n w0 F0 (R .ret) s' l K):WB P n w0 F0 a R s l K:=by
 refine WB.post (WB.piece hm h) ?_
 rintro e s' l' K' ⟨h1,h2,hq⟩
 rw[h1,h2]
 cases e with
 |normal=>exact hn _ hq
 |exit i=>exact hx _ _ hq
 |ret=>exact hr _ hq
theorem WB.pseq{P:Program}{n m:Nat}{w0:World}{F0:Nat→Prop}{R:RB}{s:St}{l:List (Option AE)}{K:Lks}{a b:AC}{Rn Rr:St→Prop}{Rx:Nat→St→Prop}(hm:∀x∈K,x.2.1<m)
 (h:sK P n m a [] (sM n m Rn (xQ n m Rx Rr)) s) (hn:∀s',Rn s'→WB P n w0 F0 b R s' l K) (hx:∀i s',Rx i s'→Tell n w0 F0 (R (.exit i)) s' l K) (hr:∀s',Rr s'→Tell n w0 F0 (R .ret) s' l K):WB P n w0 F0 (.seq a b) R s l K:=
 WB.seq (WB.pc hm h (fun s' h'=>Tell.refl (hn s' h')) hx hr)
theorem kNil{m:Nat}:∀x∈([]:Lks),x.2.1<m:=fun x hx=>by cases hx
theorem noX{p:Nat→St→Prop}:∀(i:Nat) (s:St),False→p i s:=fun _ _ h=>h.elim
theorem noR{p:St→Prop}:∀(s:St),False→p s:=fun _ h=>h.elim
end
end Go.Fw
namespace Go.Fw
section
variable {P:Program} {n:Nat} {ops:Array Oper} {o:Oper} {steps:List AStep} {st:AStep}
theorem push_lt{i:Nat}(h:i<ops.size):(ops.push o)[i]? =ops[i]? :=by
 rw[Array.getElem?_push];rw[if_neg (by omega)]
theorem app_lt{i:Nat}(h:i<steps.length):(steps++[st])[i]? =steps[i]? :=List.getElem?_append_left h
theorem DrawOk.pop(hd:DrawOk P n (ops.push o) (steps++[st]))(hdst:st.dst=none):DrawOk P n ops steps:=by
 have hlen:steps.length=ops.size:=by have:=hd.len;simp at this;exact this
 have up:∀{i:Nat} {x:AStep},steps[i]? =some x→(steps++[st])[i]? =some x:=fun h=>by
  rw[app_lt (List.getElem?_eq_some_iff.1 h).1];exact h
 have down:∀{i:Nat} {x:AStep},i<ops.size→(steps++[st])[i]? =some x→steps[i]? =some x:=fun h g=>by rwa [app_lt (by omega)]at g
 have hod:o.dst=none:=by
  obtain⟨x,h1,_,_,h2,_⟩:=hd.step ops.size o (by simp)
  rw[←hlen,List.getElem?_append_right (Nat.le_refl _),Nat.sub_self]at h1
  cases h1;rw[←h2];exact hdst
 have hnx:∀g:Nat,((ops.push o)[g]?).bind (fun(z:Oper)=>z.dst)=(ops[g]?).bind (fun(z:Oper)=>z.dst):=fun g=>by
  by_cases h:g<ops.size
  ·rw[push_lt h]
  ·have h1:ops[g]? =none:=Array.getElem?_eq_none (by omega)
   rw[h1,Array.getElem?_push]
   by_cases h2:g=ops.size
   ·rw[if_pos h2];simp[hod]
   ·rw[if_neg h2,h1]
 refine⟨hlen,?_,?_,?_,?_,?_,?_,?_⟩
 ·intro i x hx
  have hi:=(Array.getElem?_eq_some_iff.1 hx).1
  obtain⟨y,h1,h2,h3,h4,h5⟩:=hd.step i x (by rw[push_lt hi];exact hx)
  refine⟨y,down hi h1,h2,h3,h4,?_⟩
  cases hg:x.guard with
  |none=>rw[hg]at h5;exact h5
  |some z=>
   obtain⟨g,want⟩:=z
   rw[hg]at h5
   simp only at h5⊢
   rw[hnx]at h5;exact h5
 ·intro i x hx ts hts j y hy hji
  rcases hd.lone i x (up hx) ts hts j y (up hy) hji with h|h|⟨h1,oa,h2,h3⟩
  ·exact .inl h
  ·exact .inr (.inl h)
  ·exact .inr (.inr ⟨h1,oa,h2,fun a ha=>⟨(h3 a ha).1,fun k z hk hki hz=>(h3 a ha).2 k z hk hki (up hz)⟩⟩)
 ·intro i x hx cs hcs c hc
  obtain⟨h1,h2⟩:=hd.own i x (up hx) cs hcs c hc
  exact⟨h1,fun k y hy=>h2 k y (up hy)⟩
 ·intro i x y hx hy
  have hi:=(Array.getElem?_eq_some_iff.1 hx).1
  obtain⟨h1,h2⟩:=hd.edge i x y (by rw[push_lt hi];exact hx) (up hy)
  refine⟨h1,fun j hj=>?_⟩
  obtain⟨e,he,hb,h3⟩:=h2 j hj
  refine⟨e,he,hb,h3.imp id fun⟨z,hz,hj⟩=>⟨z,down ?_ hz,hj⟩⟩
  have:=(hd.trans i y (up hy) e.on (h1 e he hb)).1
  omega
 ·intro i x hx j hj
  obtain⟨h1,y,h2,h3⟩:=hd.trans i x (up hx) j hj
  have:=(List.getElem?_eq_some_iff.1 hx).1
  exact⟨h1,y,down (by omega) h2,h3⟩
 ·intro i x hx t ht k y hy
  exact hd.read i x (up hx) t ht k y (up hy)
 ·intro i k x y t hx hy
  exact hd.dst i k x y t (up hx) (up hy)
def ListOk(steps:List AStep)(listed:Array Bool):Prop:=∀(i:Nat) x,listed[i]? =some true→steps[i]? =some x→∀j∈x.bef,listed[j]? =some true
def QL(P:Program)(ops:Array Oper)(M:Nat)(Q:Exit→Act→World→Prop):Exit→Act→World→Prop
 | .normal,a,w=>wpOp P ops Q M (fun a w=>Q .normal a w) a w
 |e,a,w=>Q e a w
theorem wpOp_last{Q:Exit→Act→World→Prop}{i:Nat}(hi:i<ops.size)(hod:o.dst=none){K:Act→World→Prop}{a:Act}{w:World}(h:wpOp P ops (QL P (ops.push o) ops.size Q) i K a w):wpOp P (ops.push o) Q i K a w:=by
 have hy:yielded (ops.push o) a.tmps=yielded ops a.tmps:=by
  funext j
  unfold yielded
  by_cases hj:j<ops.size
  ·rw[push_lt hj]
  ·have h1:ops[j]? =none:=Array.getElem?_eq_none (by omega)
   rw[h1,Array.getElem?_push]
   by_cases h2:j=ops.size
   ·rw[if_pos h2];simp[hod]
   ·rw[if_neg h2,h1]
 unfold wpOp at h⊢
 rw[push_lt hi]
 cases hx:ops[i]? with
 |none=>rw[hx]at h;exact h
 |some x=>
  rw[hx]at h
  simp only at h⊢
  rw[hy]
  split
  ·rename_i hw
   rw[if_pos hw]at h
   exact h
  ·rename_i hw
   rw[if_neg hw]at h
   exact h
theorem ready_mem{ops:Array Oper}{listed:Array Bool}{i:Nat}:i∈Region.ready .any ops listed↔i<ops.size∧listed.getD i true=false∧∃o,ops[i]? =some o∧∀e∈o.after,Region.binds .any e=true→listed.getD e.on false=true:=by
 unfold Region.ready
 simp only[List.mem_filter,List.mem_range,Bool.and_eq_true,Bool.not_eq_true']
 refine and_congr_right fun hi=>and_congr_right fun _=>?_
 rw[Array.getElem?_eq_getElem hi]
 simp only[Option.map_some,Option.getD_some,Array.all_eq_true,Option.some.injEq,exists_eq_left',Bool.or_eq_true,Bool.not_eq_true']
 constructor
 ·intro h e he hb
  obtain⟨k,hk,rfl⟩:=Array.mem_iff_getElem.1 he
  rcases h k hk with h|h
  ·rw[hb]at h;cases h
  ·exact h
 ·intro h k hk
  by_cases hb:Region.binds .any (ops[i].after[k])=true
  ·exact .inr (h _ (Array.getElem_mem _) hb)
  ·exact .inl (by simpa using hb)
theorem wpAny_last{Q:Exit→Act→World→Prop}(hd:DrawOk P n (ops.push o) (steps++[st]))(hdst:st.dst=none)(hall:∀j,j<ops.size→j∈st.bef)(hne:0<ops.size):
 ∀(fuel:Nat) (listed:Array Bool) (a:Act) (w:World),listed.size=ops.size→listed.count false≤fuel→ListOk steps listed→wpAny P .any ops (QL P (ops.push o) ops.size Q) fuel listed a w→
  wpAny P .any (ops.push o) Q (fuel+1) (listed.push false) a w:=by
 have hlen:steps.length=ops.size:=by have:=hd.len;simp at this;exact this
 have hlast:(steps++[st])[ops.size]? =some st:=by rw[←hlen];simp
 have hod:o.dst=none:=by
  obtain⟨x,h1,_,_,h2,_⟩:=hd.step ops.size o (by simp)
  rw[hlast]at h1
  cases h1;rw[←h2];exact hdst
 have hedge:=hd.edge ops.size o st (by simp) hlast
 have hgl:∀{listed:Array Bool} {j:Nat},listed.size=ops.size→j<ops.size→(listed.push false).getD j false=listed.getD j false:=fun hs hj=>by
  simp only[Array.getD_eq_getD_getElem?];rw[Array.getElem?_push,if_neg (by omega)]
 have hglt:∀{listed:Array Bool} {j:Nat},listed.size=ops.size→j<ops.size→(listed.push false).getD j true=listed.getD j true:=fun hs hj=>by
  simp only[Array.getD_eq_getD_getElem?];rw[Array.getElem?_push,if_neg (by omega)]
 have fin:∀(fuel:Nat) (listed:Array Bool) (a:Act) (w:World),listed.size=ops.size→(∀j,j<ops.size→listed[j]? =some true)→wpOp P (ops.push o) Q ops.size (fun a w=>Q .normal a w) a w→
  wpAny P .any (ops.push o) Q (fuel+1) (listed.push false) a w:=by
  intro fuel listed a w hs hl h
  have hr:∀i,i∈Region.ready .any (ops.push o) (listed.push false)↔i=ops.size:=fun i=>by
   rw[ready_mem]
   constructor
   ·rintro⟨h1,h2,_⟩
    simp at h1
    by_cases hi:i<ops.size
    ·rw[hglt hs hi,Array.getD_eq_getD_getElem?,hl i hi]at h2;cases h2
    ·omega
   ·rintro rfl
    refine⟨by simp,?_,o,by simp,fun e he hb=>?_⟩
    ·rw[Array.getD_eq_getD_getElem?,←hs];simp
    ·have:=(hd.trans ops.size st hlast e.on (hedge.1 e he hb)).1
     rw[hgl hs this,Array.getD_eq_getD_getElem?,hl _ this];rfl
  have hr2:Region.ready .any (ops.push o) ((listed.push false).setIfInBounds ops.size true)=[]:=by
   rw[List.eq_nil_iff_forall_not_mem]
   intro i hi
   rw[ready_mem]at hi
   obtain⟨h1,h2,_⟩:=hi
   simp at h1
   rw[Array.getD_eq_getD_getElem?,Array.getElem?_setIfInBounds]at h2
   by_cases hi:i<ops.size
   ·rw[if_neg (by omega),Array.getElem?_push,if_neg (by omega),hl i hi]at h2;cases h2
   ·rw[if_pos (by omega),if_pos (by simp;omega)]at h2;cases h2
  refine⟨fun h0=>?_,fun i hi=>?_⟩
  ·have:=(hr ops.size).2 rfl
   rw[h0]at this;cases this
  ·rw[(hr i).1 hi]
   refine wpOp_mono (fun a w hq=>?_) h
   cases fuel with
   |zero=>exact⟨hr2,hq⟩
   |succ fuel=>exact⟨fun _=>hq,fun i hi=>by rw[hr2]at hi;cases hi⟩
 intro fuel
 induction fuel with
 |zero=>
  intro listed a w hs hc hok h
  refine fin 0 listed a w hs (fun j hj=>?_) h.2
  have:listed.count false=0:=by omega
  rw[Array.count_eq_zero]at this
  rw[Array.getElem?_eq_getElem (by omega)]
  cases hv:listed[j]'(by omega)with
  |true=>rfl
  |false=>exact absurd (hv▸Array.getElem_mem (by omega)) this
 |succ fuel ih=>
  intro listed a w hs hc hok h
  by_cases hl:∀j,j<ops.size→listed[j]? =some true
  ·refine fin (fuel+1) listed a w hs hl ?_
   refine h.1 ?_
   rw[List.eq_nil_iff_forall_not_mem]
   intro i hi
   rw[ready_mem]at hi
   rw[Array.getD_eq_getD_getElem?,hl i hi.1]at hi
   cases hi.2.1
  ·
   have hex:∃j,j<ops.size∧listed[j]? =some false:=by
    obtain⟨j,hj⟩:=Classical.not_forall.1 hl
    obtain⟨hj,h⟩:=Classical.not_imp.1 hj
    refine⟨j,hj,?_⟩
    rw[Array.getElem?_eq_getElem (by omega)]at h⊢
    cases hv:listed[j]'(by omega)with
    |true=>rw[hv]at h;exact(h rfl).elim
    |false=>rfl
   obtain⟨j0,hj0,hl0⟩:=hex
   have hr:∀i,i∈Region.ready .any (ops.push o) (listed.push false)↔i∈Region.ready .any ops listed:=fun i=>by
    rw[ready_mem,ready_mem]
    constructor
    ·rintro⟨h1,h2,x,h3,h4⟩
     simp at h1
     have hi:i<ops.size:=by
      by_cases hi:i<ops.size
      ·exact hi
      ·exfalso
       have hio:i=ops.size:=by omega
       subst hio
       simp at h3;subst h3
       obtain⟨e,he,hb,hj⟩:=hedge.2 j0 (hall j0 hj0)
       have hon:=(hd.trans ops.size st hlast e.on (hedge.1 e he hb)).1
       have hlon:=h4 e he hb
       rw[hgl hs hon]at hlon
       have hlon2:listed[e.on]? =some true:=by
        rw[Array.getD_eq_getD_getElem?,Array.getElem?_eq_getElem (by omega)]at hlon
        rw[Array.getElem?_eq_getElem (by omega)];simpa using hlon
       rcases hj with rfl|⟨x,hx,hj⟩
       ·rw[hl0]at hlon2;cases hlon2
       ·have:=hok e.on x hlon2 (by rw[app_lt (by omega)]at hx;exact hx) j0 hj
        rw[hl0]at this;cases this
     rw[push_lt hi]at h3
     refine⟨hi,by rw[←hglt hs hi];exact h2,x,h3,fun e he hb=>?_⟩
     have hst:∃y,steps[i]? =some y:=⟨_,List.getElem?_eq_getElem (by omega)⟩
     obtain⟨y,hy⟩:=hst
     have hyy:(steps++[st])[i]? =some y:=by rw[app_lt (by omega)];exact hy
     have hon:=(hd.trans i y hyy e.on ((hd.edge i x y (by rw[push_lt hi];exact h3) hyy).1 e he hb)).1
     have:=h4 e he hb
     rwa [hgl hs (by omega)]at this
    ·rintro⟨hi,h2,x,h3,h4⟩
     refine⟨by simp;omega,by rw[hglt hs hi];exact h2,x,by rw[push_lt hi];exact h3,fun e he hb=>?_⟩
     have hst:∃y,steps[i]? =some y:=⟨_,List.getElem?_eq_getElem (by omega)⟩
     obtain⟨y,hy⟩:=hst
     have hyy:(steps++[st])[i]? =some y:=by rw[app_lt (by omega)];exact hy
     have hon:=(hd.trans i y hyy e.on ((hd.edge i x y (by rw[push_lt hi];exact h3) hyy).1 e he hb)).1
     rw[hgl hs (by omega)];exact h4 e he hb
   have hne2:Region.ready .any ops listed≠[]:=by
    intro h0
    have key:∀k,k≤ops.size→∀j,j<k→listed[j]? =some true:=by
     intro k
     induction k with
     |zero=>intro _ j hj;omega
     |succ k ihk=>
      intro hk j hj
      by_cases hjk:j<k
      ·exact ihk (by omega) j hjk
      ·have:j=k:=by omega
       subst this
       cases hv:listed[j]'(by omega)with
       |true=>rw[Array.getElem?_eq_getElem (by omega),hv]
       |false=>
        exfalso
        have hm:j∈Region.ready .any ops listed:=by
         rw[ready_mem]
         refine⟨by omega,by rw[Array.getD_eq_getD_getElem?,Array.getElem?_eq_getElem (by omega),hv];rfl,ops[j]'(by omega),Array.getElem?_eq_getElem (by omega),fun e he hb=>?_⟩
         obtain⟨y,hy⟩:∃y,steps[j]? =some y:=⟨_,List.getElem?_eq_getElem (by omega)⟩
         have hyy:(steps++[st])[j]? =some y:=by rw[app_lt (by omega)];exact hy
         have hon:=(hd.trans j y hyy e.on ((hd.edge j _ y (by rw[push_lt (by omega)];exact Array.getElem?_eq_getElem (by omega)) hyy).1 e he hb)).1
         rw[Array.getD_eq_getD_getElem?,ihk (by omega) e.on hon];rfl
        rw[h0]at hm;cases hm
    have:=key ops.size (Nat.le_refl _) j0 hj0
    rw[hl0]at this;cases this
   refine⟨fun h0=>?_,fun i hi=>?_⟩
   ·exfalso
    cases hq:Region.ready .any ops listed with
    |nil=>exact hne2 hq
    |cons x xs=>
     have:x∈Region.ready .any (ops.push o) (listed.push false):=(hr x).2 (by rw[hq];exact List.mem_cons_self ..)
     rw[h0]at this;cases this
   ·have hi':=(hr i).1 hi
    have hih:=h.2 i hi'
    rw[ready_mem]at hi'
    obtain⟨hil,hnl,x,hx,haft⟩:=hi'
    refine wpOp_last hil hod (wpOp_mono (fun a w hq=>?_) hih)
    have e:(listed.push false).setIfInBounds i true=(listed.setIfInBounds i true).push false:=by
     apply Array.ext_getElem?
     intro j
     rw[Array.getElem?_setIfInBounds,Array.getElem?_push,Array.getElem?_push,Array.getElem?_setIfInBounds]
     simp only[Array.size_push,Array.size_setIfInBounds]
     by_cases hij:i=j
     ·subst hij
      rw[if_pos rfl,if_pos (by omega),if_neg (by omega),if_pos rfl,if_pos (by omega)]
     ·rw[if_neg hij,if_neg hij]
    rw[e]
    have hnf:listed[i]? =some false:=by
     rw[Array.getD_eq_getD_getElem?,Array.getElem?_eq_getElem (by omega)]at hnl
     rw[Array.getElem?_eq_getElem (by omega)];simpa using hnl
    refine ih _ a w (by simpa using hs) ?_ ?_ hq
    ·have hlt:i<listed.size:=by omega
     rw[Array.getElem?_eq_getElem hlt]at hnf
     have:(listed.setIfInBounds i true).count false+1=listed.count false:=by
      rw[Array.setIfInBounds_def,dif_pos hlt]
      have hv:listed[i]=false:=Option.some.inj hnf
      have h1:=Array.count_set (a:=true) (b:=false) (xs:=listed) (i:=i) (h:=hlt)
      rw[h1]
      have h2:0<listed.count false:=Array.count_pos_iff.2 (hv▸Array.getElem_mem hlt)
      simp[hv];omega
     omega
    ·intro k y hk hy j hj
     rw[Array.getElem?_setIfInBounds]at hk⊢
     by_cases hki:i=k
     ·subst hki
      have hyy:(steps++[st])[i]? =some y:=by rw[app_lt (by omega)];exact hy
      have hed:=hd.edge i x y (by rw[push_lt hil];exact hx) hyy
      obtain⟨e',he',hb',hj'⟩:=hed.2 j hj
      have hji:=(hd.trans i y hyy j hj).1
      rw[if_neg (by omega)]
      have hlon:=haft e' he' hb'
      have hon:=(hd.trans i y hyy e'.on (hed.1 e' he' hb')).1
      have hlon2:listed[e'.on]? =some true:=by
       rw[Array.getD_eq_getD_getElem?,Array.getElem?_eq_getElem (by omega)]at hlon
       rw[Array.getElem?_eq_getElem (by omega)];simpa using hlon
      rcases hj' with rfl|⟨z,hz,hj'⟩
      ·exact hlon2
      ·exact hok e'.on z hlon2 (by rw[app_lt (by omega)]at hz;exact hz) j hj'
     ·rw[if_neg hki]at hk
      have:=hok k y hk hy j hj
      split
      ·rename_i hij
       subst hij
       rw[hnf]at this;cases this
      ·exact this
end
end Go.Fw
namespace Go.Fw
section
variable {P:Program} {n m:Nat} {w0:World} {F0:Nat→Prop} {R:RB} {s:St} {l:List (Option AE)} {K:Lks}
def WS(P:Program)(n:Nat)(w0:World)(F0:Nat→Prop)(steps:List AStep)(T:St→List (Option AE)→Lks→Prop)(s:St)(l:List (Option AE))(K:Lks):Prop:=
 ∀(ops:Array Oper) (mask:Nat→Nat) (Q:Exit→Act→World→Prop) (rest0:List Nat) (os:List Oper) (k:Nat),(∀j,j<os.length→os[j]? =ops[k+j]?)→k+os.length≤ops.size→cStepsFrom P n ops mask k os=some steps→
  ∀φ F a w,AS n w0 F0 s l K a w φ F→(∀a' w' s' l' K' φ' F',T s' l' K'→AS n w0 F0 s' l' K' a' w' φ' F'→wpOps P ops Q rest0 a' w')→wpOps P ops Q (List.range' k os.length++rest0) a w
theorem WS.ops{steps:List AStep}{T:St→List (Option AE)→Lks→Prop}{K1:St→Prop}(hv:vcOps P steps s K1)(hT:∀s',K1 s'→Tell n w0 F0 T s' l K):WS P n w0 F0 steps T s l K:=by
 intro ops mask Q rest0 os k h1 h2 h3 φ F a w hs hQ
 refine vcOps_pre (m:=K.foldr (fun x m=>max (x.2.1+1) m) 0) os k steps s K1 h1 h2 h3 hv hs.rel fun a' w' hp'=>?_
 obtain⟨s',φ',F',hK,q2,q3,q4⟩:=hp'
 obtain⟨s2,l2,K2,φ2,F2,hT2,h5⟩:=hT s' hK φ' F' a' w' (hs.step q2 q3 q4 (lks_bound K))
 exact hQ a' w' s2 l2 K2 φ2 F2 hT2 h5
theorem WS.append{s1 s2:List AStep}{T:St→List (Option AE)→Lks→Prop}(h:WS P n w0 F0 s1 (fun s' l' K'=>WS P n w0 F0 s2 T s' l' K') s l K):WS P n w0 F0 (s1++s2) T s l K:=by
 intro ops mask Q rest0 os k h1 h2 h3 φ F a w hs hQ
 have hlen:=steps_len _ _ _ _ _ h3
 rw[List.length_append]at hlen
 obtain⟨c1,c2⟩:=steps_cut _ _ s1.length _ _ _ h3 (by omega)
 rw[List.take_left]at c1
 rw[List.drop_left]at c2
 have hl1:(os.take s1.length).length=s1.length:=by rw[List.length_take];omega
 have hl2:(os.drop s1.length).length=s2.length:=by rw[List.length_drop];omega
 have key:=h ops mask Q (List.range' (k+s1.length) s2.length++rest0) (os.take s1.length) k (fun j hj=>by rw[List.getElem?_take,if_pos (by omega)];exact h1 j (by omega)) (by omega) c1 φ F a w hs fun a' w' s' l' K' φ' F' hT hs'=>by
  have:=hT ops mask Q rest0 (os.drop s1.length) (k+s1.length) (fun j hj=>by rw[List.getElem?_drop,h1 _ (by omega)];congr 1;omega) (by omega) c2 φ' F' a' w' hs' hQ
  rw[hl2]at this;exact this
 rw[hl1,←List.append_assoc,List.range'_append_1]at key
 rw[←hlen];exact key
theorem WB.ws{steps:List AStep}(h:WS P n w0 F0 steps (R .normal) s l K):WB P n w0 F0 (.reg steps) R s l K:=by
 intro c hc φ F a w hs
 cases c with
 |region id ops draw=>
  cases draw with
  |true=>
   simp only[cCode,AC.er,if_true,cDraw,Option.bind_eq_some_iff]at hc
   obtain⟨_,_,hc⟩:=hc
   split at hc<;>cases hc
  |false=>
   simp only[cCode,AC.er,Bool.false_eq_true,if_false,Option.map_eq_some_iff,AC.reg.injEq]at hc
   obtain⟨steps',hsteps,rfl⟩:=hc
   refine wp_region ?_
   have key:=h ops (fun _=>0) (XB n w0 F0 R) [] ops.toList 0 (fun j hj=>by simp) (by simp) hsteps φ F a w hs fun a' w' s' l' K' φ' F' hT hs'=>⟨s',l',K',φ',F',hT,hs'⟩
   rw[List.append_nil]at key
   rw[List.range_eq_range']
   simpa using key
 |seq=>simp only[cCode,AC.er,Option.bind_eq_some_iff,Option.map_eq_some_iff]at hc;obtain⟨_,_,_,_,hc⟩:=hc;cases hc
 |cond=>simp only[cCode,AC.er,Option.bind_eq_some_iff,Option.map_eq_some_iff]at hc;obtain⟨_,_,_,_,_,_,hc⟩:=hc;cases hc
 |block=>simp only[cCode,AC.er,Option.map_eq_some_iff]at hc;obtain⟨_,_,hc⟩:=hc;cases hc
 |loop=>simp only[cCode,AC.er,Option.map_eq_some_iff]at hc;obtain⟨_,_,hc⟩:=hc;cases hc
 |_=>cases hc
end
end Go.Fw
namespace Go.Fw
def okz:Value→Bool
 | .slice none 0 (_+1)=>false
 |_=>true
def zeroOk(P:Program):Prop:=∀e z,(P.info? e).bind (·.zero)=some z→z.cells.toList.all okz=true
theorem mk_inv{P:Program}{op:Op}{m bytes:Nat}{zero:List D}{x' y':O}(h:cOp P op=some (.mk m bytes zero x' y')):∃t x y e,op= .makeSlice t x y∧P.underlying t=some (.slice e)∧okElem P e=some (m,bytes,zero)∧cO x=some x'∧cO y=some y':=by
 by_cases hs:∃t x y,op= .makeSlice t x y
 ·obtain⟨t,x,y,rfl⟩:=hs
  simp only[cOp]at h
  split at h
  ·rename_i e he
   simp only[Option.bind_eq_some_iff,Option.map_eq_some_iff,AOp.mk.injEq]at h
   obtain⟨z,hz,a,ha,b,hb,rfl,rfl,rfl,rfl,rfl⟩:=h
   exact⟨t,x,y,e,rfl,he,hz,ha,hb⟩
  ·cases h
 ·exfalso
  unfold cOp at h
  split at h
  case h_6=>exact hs ⟨_,_,_,rfl⟩
  all_goals(clear hs)
  all_goals(try(
   rw[Option.bind_eq_some_iff]at h
   obtain⟨a,_,h2⟩:=h
   split at h2
   ·rename_i hh;cases h2;cases hh
   ·cases h2))
  all_goals(revert h)
  all_goals(first|(simp[Option.bind_eq_some_iff,Option.map_eq_some_iff];done)|skip)
  all_goals(repeat' split)
  all_goals simp[Option.bind_eq_some_iff,Option.map_eq_some_iff]
section
variable {P:Program} {o:Oper} {a:Act} {φ:Phi} {F:Nat→Prop} {s:St} {w:World} {K:Out→Prop} {n:Nat}
theorem zeroRowsR{z:Value}(hz:z.cells.toList.all isCell=true){sz:Nat}(hsz:z.cells.size=sz)(m:Nat):RowsAt w F (Builtin.zeroCells z.cells m).toList 0 sz (List.replicate m (z.cells.toList.map .v)):=by
 obtain⟨h1,h2,h3⟩:=zeroRows (w:=w) (F:=F) hz hsz m
 refine⟨by simpa using h1,fun row hr=>by rw[(List.mem_replicate.1 hr).2];simp[hsz],fun i row hi j d hj=>?_⟩
 rw[List.getElem?_replicate]at hi
 split at hi
 ·rename_i him
  cases hi
  simp only[List.getElem?_map,Option.map_eq_some_iff]at hj
  obtain⟨v,hv,rfl⟩:=hj
  have hjl:j<sz:=by have:=(List.getElem?_eq_some_iff.1 hv).1;simp only[Array.length_toList]at this;omega
  have him':i*sz+sz≤m*sz:=by have:=Nat.mul_le_mul_right sz him;rw[Nat.succ_mul]at this;exact this
  refine⟨v,?_,DRep.v _ (List.all_eq_true.1 hz v (List.mem_of_getElem? hv))⟩
  simp only[Builtin.zeroCells,Array.toList_map,Array.toList_range,List.getElem?_map,hsz]
  rw[List.getElem?_range (by omega)]
  simp only[Option.map_some,Option.some.injEq,Nat.zero_add]
  have:(i*sz+j)%sz=j:=by rw[Nat.mul_comm,Nat.mul_add_mod];exact Nat.mod_eq_of_lt hjl
  rw[this]
  have h2:z.cells[j]? =some v:=by simpa using hv
  simp[getElem!_def,h2]
 ·cases hi
theorem mk_soundR(h:SRel n φ F s a w){t e:TypeId}{x y:Operand}(ho:o.op= .makeSlice t x y)(hu:P.underlying t=some (.slice e)){sz bytes:Nat}(hs:szT P e=some sz)(hb:(P.info? e).map (·.bytes)=some bytes)(hbl:bytes≤16384)
 {z:Value} (hz:(P.info? e).bind (·.zero)=some z) (hzl:z.cells.size=sz) (hzc:z.cells.toList.all isCell=true) {x' y':O} (hx:cO x=some x') (hy:cO y=some y') {k1 k2:IntKind} {l c:Nat} (hcx:s.evV x'=some (.int k1 l)) (hcy:s.evV y'=some (.int k2 c))
 (hlc:l≤c) (hc:c≤4294967296) (hk:K ⟨some (.one (.c (.own s.heap.length 0 0 l none))),[(s.heap.length,.arr 0 sz (List.replicate l (z.cells.toList.map .v)))]⟩):OpRun P o a φ F s w K:=by
 have h1:=evV_rep h hx hcx
 have h2:=evV_rep h hy hcy
 obtain⟨i,hi,hib⟩:=Option.map_eq_some_iff.1 hb
 have hR:RowsAt w F (Builtin.zeroCells z.cells c).toList 0 sz (List.replicate c (z.cells.toList.map .v)):=zeroRowsR hzc hzl c
 have hR2:=hR.take l
 have:(List.replicate c (z.cells.toList.map D.v)).take l=List.replicate l (z.cells.toList.map D.v):=by simp[hlc]
 rw[this]at hR2
 have hlenc:(Builtin.zeroCells z.cells c).toList.length=c*sz:=by rw[Array.length_toList,zeroCells_len,hzl]
 have hres:=OpRes.fresh (K:=K) (id:=s.heap.length) (e':=0) (off':=0) (len:=l) (k:=c) (T:=e) (w':={w with heap:=w.heap.push (.cells (Builtin.zeroCells z.cells c) e (0,0))}) h.rel (.inl (hp_len _)) hR2 (by simp) hlc (by rw[hlenc];omega) (by simp) (Io.push rfl rfl rfl) hk
 refine⟨_,_,.inl ?_,hres⟩
 refine exec_v (x:=Instr.makeSlice t (a.eval x) (a.eval y)) (by simp only[execOp,ho]) ?_
 have w1:IntKind.i64.wrap (l:Int)=l:=by simp[IntKind.wrap,IntKind.bits,IntKind.signed];omega
 have w2:IntKind.i64.wrap (c:Int)=c:=by simp[IntKind.wrap,IntKind.bits,IntKind.signed];omega
 have hbc:(bytes:Int)*c≤16384*4294967296:=by
  have h0:bytes*c≤16384*4294967296:=Nat.mul_le_mul hbl hc
  rw[←Int.natCast_mul];omega
 simp only[Instr.makeSlice,run_bind,run_underlying hu,h1,h2,asInt,asIntOf,run_pure,run_typeInfo hi,w1,w2,hib]
 rw[if_neg (by
  simp only[Bool.or_eq_true,decide_eq_true_eq,not_or]
  refine⟨⟨⟨by omega,by omega⟩,by omega⟩,by omega⟩)]
 have hask:∀(m:Nat) (w:World),(askRoom m).run P w= .ok () w:=by
  intro m w;unfold askRoom;split<;>rfl
 simp only[run_bind,hask,run_sizeOf hs,Int.toNat_natCast]
 by_cases h0:c*sz=0
 ·simp only[h0,if_true,run_pure,newRow,run_bind,run_newObj]
  have:Builtin.zeroCells z.cells c= #[]:=by
   apply Array.eq_empty_of_size_eq_zero;rw[zeroCells_len,hzl];exact h0
  rw[this,Nat.zero_mul,show(Array.range 0)= #[]from rfl,List.map_toArray,List.map_nil]
 ·simp only[h0,if_false,run_bind,run_zeroValue hz,run_pure,newRow,run_newObj]
  congr 3
  ·simp
  ·congr 2
   simp only[Builtin.zeroCells,hzl]
end
section
variable {P:Program} {n:Nat} {w0:World} {F0:Nat→Prop} {s:St} {l:List (Option AE)} {K:Lks}
theorem WS.mk{st:AStep}{d bytes k c:Nat}{x' y':O}{k1 k2:IntKind}{T:St→List (Option AE)→Lks→Prop}(hz:zeroOk P)(hst:st.op= .mk 1 bytes [.sl []] x' y')(hg:st.guard=none)(hd:st.dst=some d)
 (hcx:s.evV x'=some (.int k1 k)) (hcy:s.evV y'=some (.int k2 c)) (hlc:k≤c) (hc:c≤4294967296)
 (h:T ⟨(d,.one (.c (.own s.heap.length 0 0 k none)))::s.slots,hset s.heap s.heap.length (.arr 0 1 (List.replicate k [.v (.slice none 0 0)]))⟩ l K):WS P n w0 F0 [st] T s l K:=by
 intro ops mask Q rest0 os kk h1 h2 h3 φ F a w h5 hQ
 have hlen:=steps_len _ _ _ _ _ h3
 obtain⟨o,rfl⟩:=List.length_eq_one_iff.1 hlen.symm
 simp only[cStepsFrom,Option.bind_eq_some_iff,Option.map_eq_some_iff]at h3
 obtain⟨st',hst',_,_,hcons⟩:=h3
 cases hcons
 obtain⟨hdn,hop,hdst,_,_,hguard⟩:=cStep_parts hst'
 have hoo:ops[kk]? =some o:=by have:=h1 0 (by simp);simpa using this.symm
 rw[hst]at hop
 obtain⟨t,x,y,e,q1,q2,q3,q4,q5⟩:=mk_inv hop
 unfold okElem at q3
 split at q3
 ·rename_i sz by_ z e1 e2 e3
  split at q3
  ·rename_i hcond
   simp only[Option.some.injEq,Prod.mk.injEq]at q3
   obtain⟨rfl,rfl,hzr⟩:=q3
   have hzz:z.cells.toList.map D.v=[.v (.slice none 0 0)]:=by
    have hall:=hz e z e3
    unfold zrow at hzr
    match hq:z.cells.toList,hzr,hall with
    |[v],hzr,hall=>
     simp only[List.map_cons,List.map_nil,List.cons.injEq,and_true]at hzr
     simp only[List.all_cons,List.all_nil,Bool.and_true]at hall
     unfold nrm at hzr
     split at hzr
     ·rename_i k heq
      cases heq
      cases k with
      |zero=>rfl
      |succ k=>simp[okz]at hall
     ·cases hzr
    |[],hzr,_=>cases hzr
    |_::_::_,hzr,_=>simp at hzr
   have hrun:=mk_soundR (K:=fun out=>out=⟨some (.one (.c (.own s.heap.length 0 0 k none))),[(s.heap.length,.arr 0 1 (List.replicate k [.v (.slice none 0 0)]))]⟩) h5.rel q1 q2 e1 e2 hcond.2.1 e3 hcond.1 hcond.2.2 q4 q5 hcx hcy hlc hc (by rw[hzz])
   have hwp:=hrun.wp Q
   show wpOps P ops Q (kk::rest0) a w
   rw[wpOps_cons]
   unfold wpOp
   rw[hoo]
   cases hgo:o.guard with
   |some g=>
    rw[hgo]at hguard
    obtain⟨d,_,_,hguard⟩:=hguard
    rw[hg]at hguard;cases hguard
   |none=>
    simp only[Region.wanted,hgo,if_true]
    refine .inl (Oper.wp_mono ?_ hwp)
    rintro a2 w2 ⟨v,rfl,⟨⟨out,φ3,F3,rfl,hav,hr,hs3,hf⟩⟩⟩
    have hput:=h5.rel.put hdn hav hr hs3
    have hod:o.dst=some d:=by rw[←hdst,hd]
    rw[hod]at hput⊢
    exact hQ _ _ _ l K φ3 F3 h (h5.step hput hf hs3.m (lks_bound K))
  ·cases q3
 ·cases q3
end
def eRaw(d:D):List D:=[d]
end Go.Fw
namespace Go.Fw
end Go.Fw
namespace Go.Fw
def EE(l:List (Int×Value))(es:List MapEntry):Prop:=All2 (fun(e:Int×Value) (m:MapEntry)=>m.key= .int .i64 e.1∧m.val=e.2∧isCell e.2=true) l es
theorem EE.ents{φ F G w}{l:List (Int×Value)}{es:List MapEntry}(h:EE l es):EntsRep φ F G w (eM1 (Value.int .i64) D.v l) es:=by
 unfold EE at h
 induction h with
 |nil=>exact .nil
 |cons a _ ih=>
  obtain⟨h1,h2,h3⟩:=a
  refine .cons ⟨h1,?_⟩ ih
  show DRep w F (.v _) _
  rw[h2];exact .v _ h3
theorem EE.of{φ F G w}:∀{l:List (Int×Value)} {es:List MapEntry},EntsRep φ F G w (eM1 (Value.int .i64) D.v l) es→EE l es
 |[],[],.nil=> .nil
 |e::l,m::es,.cons h1 h2=>by
  refine .cons ⟨h1.1,?_⟩ (EE.of h2)
  have h3:DRep w F (.v e.2) m.val:=h1.2
  generalize m.val=u at h3
  cases h3 with
  |v _ hc=>exact⟨rfl,hc⟩
theorem EE.get{l:List (Int×Value)}{es:List MapEntry}(h:EE l es){j:Nat}{m:MapEntry}(hm:es[j]? =some m):∃e,l[j]? =some e∧m.key= .int .i64 e.1∧m.val=e.2∧isCell e.2=true:=by
 unfold EE at h
 induction h generalizing j with
 |nil=>simp at hm
 |cons a _ ih=>
  cases j with
  |zero=>simp only[List.getElem?_cons_zero,Option.some.injEq]at hm;subst hm;exact⟨_,rfl,a⟩
  |succ j=>simp only[List.getElem?_cons_succ]at hm⊢;exact ih hm
def MapAt(w:World)(b:Nat)(l:List (Int×Value))(bs:List Nat)(c:Nat):Prop:=
 ∃es:Array MapEntry,w.heap[b]? =some (.map es c)∧MapKept.Stamped es c∧EE l es.toList∧es.toList.map (·.born)=bs
structure Lone1(φ:Phi)(F:Nat→Prop)(w:World)(m b:Nat):Prop where
 lo:m≤b
 hi:b<w.heap.size
 nf:¬F b
 nn:∀id o,φ id≠some (b,o)
 nc:∀cs T z,w.heap[b]?≠some (.cells cs T z)
theorem Lone1.keep{φ F w m b φ' F' w'}(h:Lone1 φ F w m b)(hf:Fr φ F w φ' F' w'):Lone1 φ' F' w' m b∧w'.heap[b]? =w.heap[b]? :=by
 have same:w'.heap[b]? =w.heap[b]? :=hf.rest b h.hi h.nn
 refine⟨⟨h.lo,Nat.lt_of_lt_of_le h.hi hf.size,fun hF=>?_,fun id o hi=>?_,fun cs T z=>by rw[same];exact h.nc cs T z⟩,same⟩
 ·rcases hf.frz b hF with h1|⟨id,o,h1⟩|h1
  ·exact h.nf h1
  ·exact h.nn _ _ h1
  ·have:=h.hi;omega
 ·rcases hf.own id b o hi with⟨i0,o0,h1⟩|h1
  ·exact h.nn _ _ h1
  ·have:=h.hi;omega
inductive Fact where
 |mp (b:Nat) (l:List (Int×Value)) (bs:List Nat) (c:Nat)
 |it (r b since:Nat) (seen:Array Nat) (c:Nat)
 |fz (u:Value) (rows:List (List D))
abbrev Fks:=List Fact
def FactRep(φ:Phi)(F:Nat→Prop)(w:World)(m:Nat):Fact→Prop
 | .mp b l bs c=>Lone1 φ F w m b∧MapAt w b l bs c
 | .it r b since seen c=>Lone1 φ F w m r∧w.heap[r]? =some (.mapIter (some b) since seen c)
 | .fz u rows=>DRep w F (.sl rows) u
theorem FactRep.keep{φ F w m x φ' F' w'}(h:FactRep φ F w m x)(hf:Fr φ F w φ' F' w')(hs:∀b,F b→F' b∧w'.heap[b]? =w.heap[b]?):FactRep φ' F' w' m x:=by
 cases x with
 |fz u rows=>exact DRep.mono hs h
 |mp b l bs c=>
  obtain⟨h1,h2⟩:=h
  obtain⟨h3,h4⟩:=h1.keep hf
  obtain⟨es,h5,h6⟩:=h2
  exact⟨h3,es,h4.trans h5,h6⟩
 |it r b since seen c=>
  obtain⟨h1,h2⟩:=h
  obtain⟨h3,h4⟩:=h1.keep hf
  exact⟨h3,h4.trans h2⟩
structure BS(n:Nat)(w0:World)(F0:Nat→Prop)(s:St)(l:List (Option AE))(K:Fks)(a:Act)(w:World)(φ:Phi)(F:Nat→Prop):Prop where
 asr:AS n w0 F0 s l [] a w φ F
 ob:∀x∈K,FactRep φ F w w0.heap.size x
theorem BS.rel{n w0 F0 s l K a w φ F}(h:BS n w0 F0 s l K a w φ F):SRel n φ F s a w:=h.asr.rel
theorem BS.step{n w0 F0 s l K a w φ F m s' a' w' φ' F'}(h:BS n w0 F0 s l K a w φ F)(h2:SRel n φ' F' s' a' w')(hf:Fr φ F w φ' F' w')(hs:StpM m φ F (hp s.heap) w φ' F' (hp s'.heap) w'):BS n w0 F0 s' l K a' w' φ' F':=
 ⟨h.asr.step h2 hf hs kNil,fun x hx=>(h.ob x hx).keep hf hs.frz⟩
abbrev RVb:=XT→St→List (Option AE)→Fks→Prop
def XV(n:Nat)(w0:World)(F0:Nat→Prop)(R:RVb):Exit→Act→World→Prop
 | .normal,a,w=>∃s l K φ F,R .normal s l K∧BS n w0 F0 s l K a w φ F
 | .exit id,a,w=>∃s l K φ F,R (.exit id) s l K∧BS n w0 F0 s l K a w φ F
 | .ret,a,w=>∃s l K φ F,R .ret s l K∧BS n w0 F0 s l K a w φ F
 |_,_,_=>False
def VB(P:Program)(n:Nat)(w0:World)(F0:Nat→Prop)(ac:AC)(R:RVb)(s:St)(l:List (Option AE))(K:Fks):Prop:=
 ∀c,cCode P n c=some ac.er→∀φ F a w,BS n w0 F0 s l K a w φ F→c.wp P (XV n w0 F0 R) a w
def thenV(T:St→List (Option AE)→Fks→Prop)(R:RVb):RVb
 | .normal,s,l,K=>T s l K
 |x,s,l,K=>R x s l K
def blockV(id:Nat)(R:RVb):RVb
 | .exit i,s,l,K=>if i=id then R .normal s l K else R (.exit i) s l K
 |x,s,l,K=>R x s l K
section
variable {P:Program} {n:Nat} {w0:World} {F0:Nat→Prop} {R R':RVb} {s:St} {l:List (Option AE)} {K:Fks} {a b:AC}
theorem VB.leaf(m:Nat)(h:vc P n m a (fun e s'=>R e s' l K) s):VB P n w0 F0 a R s l K:=by
 intro c hc φ F ac w hs
 refine wp_mono (vc_sound c a _ s hc h φ F ac w hs.rel) fun e a' w' hq=>?_
 have go:∀e,Post n m φ F s w (fun s'=>R e s' l K) a' w'→∃s l K φ F,R e s l K∧BS n w0 F0 s l K a' w' φ F:=by
  rintro e ⟨s1,φ1,F1,h1,h2,h3,h4⟩
  exact⟨s1,l,K,φ1,F1,h1,hs.step h2 h3 h4⟩
 cases e with
 |normal=>exact go _ hq
 |exit id=>exact go _ hq
 |ret=>exact go _ hq
 |_=>exact hq.elim
theorem VB.seq(h:VB P n w0 F0 a (thenV (fun s l K=>VB P n w0 F0 b R s l K) R) s l K):VB P n w0 F0 (.seq a b) R s l K:=by
 intro c hc φ F ac w hs
 cases c with
 |seq x y=>
  simp only[cCode,AC.er,Option.bind_eq_some_iff,Option.map_eq_some_iff,AC.seq.injEq]at hc
  obtain⟨_,hx,_,hy,rfl,rfl⟩:=hc
  refine wp_seq (wp_mono (h x hx φ F ac w hs) fun e a' w' hq=>?_)
  cases e with
  |normal=>
   obtain⟨s',l',K',φ',F',h1,h2⟩:=hq
   exact h1 y hy φ' F' a' w' h2
  |exit id=>exact hq
  |ret=>exact hq
  |_=>exact hq.elim
 |region id ops draw=>
  simp only[cCode,AC.er]at hc
  cases draw with
  |true=>
   simp only[if_true,cDraw,Option.bind_eq_some_iff]at hc
   obtain⟨_,_,hc⟩:=hc
   split at hc<;>cases hc
  |false=>
   simp only[Bool.false_eq_true,if_false,Option.map_eq_some_iff]at hc
   obtain⟨_,_,hc⟩:=hc;cases hc
 |cond=>simp only[cCode,AC.er,Option.bind_eq_some_iff,Option.map_eq_some_iff]at hc;obtain⟨_,_,_,_,_,_,hc⟩:=hc;cases hc
 |block=>simp only[cCode,AC.er,Option.map_eq_some_iff]at hc;obtain⟨_,_,hc⟩:=hc;cases hc
 |loop=>simp only[cCode,AC.er,Option.map_eq_some_iff]at hc;obtain⟨_,_,hc⟩:=hc;cases hc
 |_=>cases hc
theorem VB.block{id:Nat}(h:VB P n w0 F0 a (blockV id R) s l K):VB P n w0 F0 (.block id a) R s l K:=by
 intro c hc φ F ac w hs
 cases c with
 |block id' x=>
  simp only[cCode,AC.er,Option.map_eq_some_iff,AC.block.injEq]at hc
  obtain⟨_,hx,rfl,rfl⟩:=hc
  refine wp_block (wp_mono (h x hx φ F ac w hs) fun e a' w' hq=>?_)
  cases e with
  |normal=>exact hq
  |exit i=>
   simp only[Exit.inBlock]
   by_cases hi:i=id'
   ·subst hi
    simp only[if_true]
    obtain⟨s',l',K',φ',F',h1,h2⟩:=hq
    exact⟨s',l',K',φ',F',by simpa[blockV]using h1,h2⟩
   ·simp only[hi,if_false]
    obtain⟨s',l',K',φ',F',h1,h2⟩:=hq
    exact⟨s',l',K',φ',F',by simpa[blockV,hi]using h1,h2⟩
  |ret=>exact hq
  |_=>exact hq.elim
 |region id ops draw=>
  simp only[cCode,AC.er]at hc
  cases draw with
  |true=>
   simp only[if_true,cDraw,Option.bind_eq_some_iff]at hc
   obtain⟨_,_,hc⟩:=hc
   split at hc<;>cases hc
  |false=>
   simp only[Bool.false_eq_true,if_false,Option.map_eq_some_iff]at hc
   obtain⟨_,_,hc⟩:=hc;cases hc
 |cond=>simp only[cCode,AC.er,Option.bind_eq_some_iff,Option.map_eq_some_iff]at hc;obtain⟨_,_,_,_,_,_,hc⟩:=hc;cases hc
 |seq=>simp only[cCode,AC.er,Option.bind_eq_some_iff,Option.map_eq_some_iff]at hc;obtain⟨_,_,_,_,hc⟩:=hc;cases hc
 |loop=>simp only[cCode,AC.er,Option.map_eq_some_iff]at hc;obtain⟨_,_,hc⟩:=hc;cases hc
 |_=>cases hc
theorem VB.cond{o:O}{t:Bool}(ht:s.evV o=some (.bool t))(h1:t=true→VB P n w0 F0 a R s l K)(h0:t=false→VB P n w0 F0 b R s l K):VB P n w0 F0 (.cond o a b) R s l K:=by
 intro c hc φ F ac w hs
 cases c with
 |cond c' x y=>
  simp only[cCode,AC.er,Option.bind_eq_some_iff,Option.map_eq_some_iff]at hc
  obtain⟨_,hc',_,hx,_,hy,he⟩:=hc
  cases he
  have e:=evV_rep hs.rel hc' ht
  cases t with
  |true=>exact wp_cond_true e (h1 rfl x hx φ F ac w hs)
  |false=>exact wp_cond_false e (h0 rfl y hy φ F ac w hs)
 |region id ops draw=>
  simp only[cCode,AC.er]at hc
  cases draw with
  |true=>
   simp only[if_true,cDraw,Option.bind_eq_some_iff]at hc
   obtain⟨_,_,hc⟩:=hc
   split at hc<;>cases hc
  |false=>
   simp only[Bool.false_eq_true,if_false,Option.map_eq_some_iff]at hc
   obtain⟨_,_,hc⟩:=hc;cases hc
 |seq=>simp only[cCode,AC.er,Option.bind_eq_some_iff,Option.map_eq_some_iff]at hc;obtain⟨_,_,_,_,hc⟩:=hc;cases hc
 |block=>simp only[cCode,AC.er,Option.map_eq_some_iff]at hc;obtain⟨_,_,hc⟩:=hc;cases hc
 |loop=>simp only[cCode,AC.er,Option.map_eq_some_iff]at hc;obtain⟨_,_,hc⟩:=hc;cases hc
 |_=>cases hc
theorem VB.loop(I:Nat→St→List (Option AE)→Fks→Prop)(h0:∃k,I k s l K)
 (hr:∀k s l K,I k s l K→VB P n w0 F0 a (thenV (fun s' l' K'=>∃k',k'<k∧I k' s' l' K') R) s l K):VB P n w0 F0 (.loop a) R s l K:=by
 intro c hc φ F ac w hs
 cases c with
 |loop c=>
  simp only[cCode,AC.er,Option.map_eq_some_iff,AC.loop.injEq]at hc
  obtain⟨_,hx,rfl⟩:=hc
  obtain⟨k0,hI⟩:=h0
  refine wp_loop_g (fun k a' w'=>∃s' l' K' φ' F',I k s' l' K'∧BS n w0 F0 s' l' K' a' w' φ' F') (k0:=k0) ⟨s,l,K,φ,F,hI,hs⟩ ?_
  rintro k a' w' ⟨s',l',K',φ',F',g1,g2⟩
  refine wp_mono (hr k s' l' K' g1 c hx φ' F' a' w' g2) fun e a'' w'' hq=>?_
  cases e with
  |normal=>
   obtain⟨s2,l2,K2,φ2,F2,⟨k',hlt,hI'⟩,q⟩:=hq
   exact⟨k',hlt,s2,l2,K2,φ2,F2,hI',q⟩
  |exit id=>exact hq
  |ret=>exact hq
  |_=>exact hq.elim
 |region id ops draw=>
  simp only[cCode,AC.er]at hc
  cases draw with
  |true=>
   simp only[if_true,cDraw,Option.bind_eq_some_iff]at hc
   obtain⟨_,_,hc⟩:=hc
   split at hc<;>cases hc
  |false=>
   simp only[Bool.false_eq_true,if_false,Option.map_eq_some_iff]at hc
   obtain⟨_,_,hc⟩:=hc;cases hc
 |seq=>simp only[cCode,AC.er,Option.bind_eq_some_iff,Option.map_eq_some_iff]at hc;obtain⟨_,_,_,_,hc⟩:=hc;cases hc
 |cond=>simp only[cCode,AC.er,Option.bind_eq_some_iff,Option.map_eq_some_iff]at hc;obtain⟨_,_,_,_,_,_,hc⟩:=hc;cases hc
 |block=>simp only[cCode,AC.er,Option.map_eq_some_iff]at hc;obtain⟨_,_,hc⟩:=hc;cases hc
 |_=>cases hc
def Tel(n:Nat)(w0:World)(F0:Nat→Prop)(J:St→List (Option AE)→Fks→Prop)(s:St)(l:List (Option AE))(K:Fks):Prop:=
 ∀φ F a w,BS n w0 F0 s l K a w φ F→∃s' l' K' φ' F',J s' l' K'∧BS n w0 F0 s' l' K' a w φ' F'
theorem VB.tell{J:St→List (Option AE)→Fks→Prop}(h:Tel n w0 F0 J s l K)(h2:∀s' l' K',J s' l' K'→VB P n w0 F0 a R s' l' K'):VB P n w0 F0 a R s l K:=by
 intro c hc φ F ac w hs
 obtain⟨s',l',K',φ',F',hJ,h3⟩:=h φ F ac w hs
 exact h2 s' l' K' hJ c hc φ' F' ac w h3
theorem VB.post(h:VB P n w0 F0 a R' s l K)(hq:∀e s' l' K',R' e s' l' K'→Tel n w0 F0 (R e) s' l' K'):VB P n w0 F0 a R s l K:=by
 intro c hc φ F ac w hs
 refine wp_mono (h c hc φ F ac w hs) fun e a' w' hx=>?_
 cases e with
 |normal=>obtain⟨s1,l1,K1,φ1,F1,h1,h2⟩:=hx;exact hq _ _ _ _ h1 φ1 F1 a' w' h2
 |exit id=>obtain⟨s1,l1,K1,φ1,F1,h1,h2⟩:=hx;exact hq _ _ _ _ h1 φ1 F1 a' w' h2
 |ret=>obtain⟨s1,l1,K1,φ1,F1,h1,h2⟩:=hx;exact hq _ _ _ _ h1 φ1 F1 a' w' h2
 |_=>exact hx.elim
theorem Tel.refl{J:St→List (Option AE)→Fks→Prop}(h:J s l K):Tel n w0 F0 J s l K:=fun φ F _ _ hs=>⟨s,l,K,φ,F,h,hs⟩
theorem Tel.trans{J J':St→List (Option AE)→Fks→Prop}(h:Tel n w0 F0 J s l K)(h2:∀s' l' K',J s' l' K'→Tel n w0 F0 J' s' l' K'):Tel n w0 F0 J' s l K:=by
 intro φ F a w hs
 obtain⟨s',l',K',φ',F',hJ,h3⟩:=h φ F a w hs
 exact h2 s' l' K' hJ φ' F' a w h3
theorem VB.skip(h:R .normal s l K):VB P n w0 F0 .skip R s l K:=VB.leaf 0 h
theorem VB.exit{id:Nat}(h:R (.exit id) s l K):VB P n w0 F0 (.exit id) R s l K:=VB.leaf 0 h
theorem Tel.view{m:Nat}{s':St}(hv:View n m s s'):Tel n w0 F0 (fun s1 l1 K1=>s1=s'∧l1=l∧K1=K) s l K:=by
 intro φ F a w hs
 obtain⟨φ',F',h1,h2,h3⟩:=hv φ F a w hs.rel
 exact⟨s',l,K,φ',F',⟨rfl,rfl,rfl⟩,hs.step h1 h2 h3⟩
end
section
variable {P:Program} {n m:Nat} {w0:World} {F0:Nat→Prop} {s:St} {l:List (Option AE)} {K:Fks} {a:AC} {Rn Rr:St→Prop} {Rx:Nat→St→Prop}
theorem VB.piece(h:sK P n m a [] (sM n m Rn (xQ n m Rx Rr)) s):VB P n w0 F0 a (fun e s' l' K'=>l'=l∧K'=K∧pQ Rn Rx Rr e s') s l K:=by
 rw[sK_eq,sM_eq]at h
 refine VB.post (R':=fun e s' l' K'=>l'=l∧K'=K∧semQ n m Rn (xQ n m Rx Rr) e s') (VB.leaf m ?_) ?_
 ·simp only[true_and];exact vcK_of h
 ·rintro e s' l2 K2 ⟨h1,h2,hq⟩
  rw[h1,h2]
  have go:∀{R:St→Prop},(∃s'',View n m s' s''∧R s'')→Tel n w0 F0 (fun s2 l' K'=>l'=l∧K'=K∧R s2) s' l K:=by
   rintro R ⟨s2,hv,hR⟩
   refine(Tel.view hv).trans ?_
   rintro _ _ _ ⟨rfl,rfl,rfl⟩
   exact Tel.refl ⟨rfl,rfl,hR⟩
  cases e with
  |normal=>exact go hq
  |exit i=>exact go hq
  |ret=>exact go hq
end
theorem VB.pc{P:Program}{n m:Nat}{w0:World}{F0:Nat→Prop}{R:RVb}{s:St}{l:List (Option AE)}{K:Fks}{a:AC}{Rn Rr:St→Prop}{Rx:Nat→St→Prop}(h:sK P n m a [] (sM n m Rn (xQ n m Rx Rr)) s)(hn:∀s',Rn s'→Tel n w0 F0 (R .normal) s' l K)(hx:∀i s',Rx i s'→Tel n w0 F0 (R (.exit i)) s' l K)(hr:∀s',Rr s'→Tel n w0 F0 (R .ret) s' l K):VB P n w0 F0 a R s l K:=by
 refine VB.post (VB.piece h) ?_
 rintro e s' l' K' ⟨h1,h2,hq⟩
 rw[h1,h2]
 cases e with
 |normal=>exact hn _ hq
 |exit i=>exact hx _ _ hq
 |ret=>exact hr _ hq
theorem VB.pseq{P:Program}{n m:Nat}{w0:World}{F0:Nat→Prop}{R:RVb}{s:St}{l:List (Option AE)}{K:Fks}{a b:AC}{Rn Rr:St→Prop}{Rx:Nat→St→Prop}(h:sK P n m a [] (sM n m Rn (xQ n m Rx Rr)) s)(hn:∀s',Rn s'→VB P n w0 F0 b R s' l K)(hx:∀i s',Rx i s'→Tel n w0 F0 (R (.exit i)) s' l K)(hr:∀s',Rr s'→Tel n w0 F0 (R .ret) s' l K):VB P n w0 F0 (.seq a b) R s l K:=
 VB.seq (VB.pc h (fun s' h'=>Tel.refl (hn s' h')) hx hr)
section
variable {P:Program} {n m:Nat} {w0:World} {F0:Nat→Prop} {R:RVb} {s:St} {l:List (Option AE)} {K:Fks}
def VS(P:Program)(n:Nat)(w0:World)(F0:Nat→Prop)(steps:List AStep)(T:St→List (Option AE)→Fks→Prop)(s:St)(l:List (Option AE))(K:Fks):Prop:=
 ∀(ops:Array Oper) (mask:Nat→Nat) (Q:Exit→Act→World→Prop) (rest0:List Nat) (os:List Oper) (k:Nat),(∀j,j<os.length→os[j]? =ops[k+j]?)→k+os.length≤ops.size→cStepsFrom P n ops mask k os=some steps→
  ∀φ F a w,BS n w0 F0 s l K a w φ F→(∀a' w' s' l' K' φ' F',T s' l' K'→BS n w0 F0 s' l' K' a' w' φ' F'→wpOps P ops Q rest0 a' w')→wpOps P ops Q (List.range' k os.length++rest0) a w
theorem VS.ops{steps:List AStep}{T:St→List (Option AE)→Fks→Prop}{K1:St→Prop}(hv:vcOps P steps s K1)(hT:∀s',K1 s'→Tel n w0 F0 T s' l K):VS P n w0 F0 steps T s l K:=by
 intro ops mask Q rest0 os k h1 h2 h3 φ F a w hs hQ
 refine vcOps_pre (m:=0) os k steps s K1 h1 h2 h3 hv hs.rel fun a' w' hp'=>?_
 obtain⟨s',φ',F',hK,q2,q3,q4⟩:=hp'
 obtain⟨s2,l2,K2,φ2,F2,hT2,h5⟩:=hT s' hK φ' F' a' w' (hs.step q2 q3 q4)
 exact hQ a' w' s2 l2 K2 φ2 F2 hT2 h5
theorem VS.append{s1 s2:List AStep}{T:St→List (Option AE)→Fks→Prop}(h:VS P n w0 F0 s1 (fun s' l' K'=>VS P n w0 F0 s2 T s' l' K') s l K):VS P n w0 F0 (s1++s2) T s l K:=by
 intro ops mask Q rest0 os k h1 h2 h3 φ F a w hs hQ
 have hlen:=steps_len _ _ _ _ _ h3
 rw[List.length_append]at hlen
 obtain⟨c1,c2⟩:=steps_cut _ _ s1.length _ _ _ h3 (by omega)
 rw[List.take_left]at c1
 rw[List.drop_left]at c2
 have hl1:(os.take s1.length).length=s1.length:=by rw[List.length_take];omega
 have hl2:(os.drop s1.length).length=s2.length:=by rw[List.length_drop];omega
 have key:=h ops mask Q (List.range' (k+s1.length) s2.length++rest0) (os.take s1.length) k (fun j hj=>by rw[List.getElem?_take,if_pos (by omega)];exact h1 j (by omega)) (by omega) c1 φ F a w hs fun a' w' s' l' K' φ' F' hT hs'=>by
  have:=hT ops mask Q rest0 (os.drop s1.length) (k+s1.length) (fun j hj=>by rw[List.getElem?_drop,h1 _ (by omega)];congr 1;omega) (by omega) c2 φ' F' a' w' hs' hQ
  rw[hl2]at this;exact this
 rw[hl1,←List.append_assoc,List.range'_append_1]at key
 rw[←hlen];exact key
theorem VB.ws{steps:List AStep}(h:VS P n w0 F0 steps (R .normal) s l K):VB P n w0 F0 (.reg steps) R s l K:=by
 intro c hc φ F a w hs
 cases c with
 |region id ops draw=>
  cases draw with
  |true=>
   simp only[cCode,AC.er,if_true,cDraw,Option.bind_eq_some_iff]at hc
   obtain⟨_,_,hc⟩:=hc
   split at hc<;>cases hc
  |false=>
   simp only[cCode,AC.er,Bool.false_eq_true,if_false,Option.map_eq_some_iff,AC.reg.injEq]at hc
   obtain⟨steps',hsteps,rfl⟩:=hc
   refine wp_region ?_
   have key:=h ops (fun _=>0) (XV n w0 F0 R) [] ops.toList 0 (fun j hj=>by simp) (by simp) hsteps φ F a w hs fun a' w' s' l' K' φ' F' hT hs'=>⟨s',l',K',φ',F',hT,hs'⟩
   rw[List.append_nil]at key
   rw[List.range_eq_range']
   simpa using key
 |seq=>simp only[cCode,AC.er,Option.bind_eq_some_iff,Option.map_eq_some_iff]at hc;obtain⟨_,_,_,_,hc⟩:=hc;cases hc
 |cond=>simp only[cCode,AC.er,Option.bind_eq_some_iff,Option.map_eq_some_iff]at hc;obtain⟨_,_,_,_,_,_,hc⟩:=hc;cases hc
 |block=>simp only[cCode,AC.er,Option.map_eq_some_iff]at hc;obtain⟨_,_,hc⟩:=hc;cases hc
 |loop=>simp only[cCode,AC.er,Option.map_eq_some_iff]at hc;obtain⟨_,_,hc⟩:=hc;cases hc
 |_=>cases hc
end
theorem BS.poke{n w0 F0 s l K K' a w φ F w' r}(h:BS n w0 F0 s l K a w φ F)(hl:Lone1 φ F w w0.heap.size r∨w.heap.size≤r)(hsz:w.heap.size≤w'.heap.size)
 (hsame:∀b,b<w.heap.size→b≠r→w'.heap[b]? =w.heap[b]?) (hio:Io w w') (hK:∀x∈K',FactRep φ F w' w0.heap.size x):BS n w0 F0 s l K' a w' φ F:=by
 have hr:=h.rel
 have hne:∀b,b<w.heap.size→(F b∨∃id o,φ id=some (b,o))→w'.heap[b]? =w.heap[b]? :=fun b hb hx=>hsame b hb fun e=>by
  subst e
  rcases hl with h1|h1
  ·rcases hx with hx|⟨id,o,hx⟩
   ·exact h1.nf hx
   ·exact h1.nn id o hx
  ·omega
 have hF:∀b,F b→w'.heap[b]? =w.heap[b]? :=fun b hb=>hne b (hr.rel.frz b hb).1 (.inl hb)
 have hN:∀id b o,φ id=some (b,o)→w'.heap[b]? =w.heap[b]? :=fun id b o hi=>hne b (hr.rel.lt hi) (.inr ⟨id,o,hi⟩)
 have stp:Stp φ F (hp s.heap) w φ F (hp s.heap) w':=⟨fun b hb=>⟨hb,hF b hb⟩,fun id=>BStp.same rfl fun b o hi=>bsize_congr (hN id b o hi)⟩
 refine⟨⟨⟨hr.size,hr.defers,⟨fun id blk hb=>BRep.mono stp rfl (fun b o hi=>hN id b o hi) (hr.rel.blk id blk hb),hr.rel.dom,hr.rel.inj,fun b hb=>⟨Nat.lt_of_lt_of_le (hr.rel.frz b hb).1 hsz,(hr.rel.frz b hb).2⟩⟩,fun t av ht=>(hr.slot t av ht).mono stp⟩,?_,(fun x hx=>by cases hx),
  Nat.le_trans h.asr.size hsz,fun b hb=>?_,h.asr.own,h.asr.frz,h.asr.mono,h.asr.io.trans hio⟩,hK⟩
 ·obtain⟨xs,h1,h2⟩:=h.asr.al.ex
  refine⟨⟨xs,fun i e he=>?_,h2⟩⟩
  have ho:=h1 i e he
  have same:∀b o,xs i=some (b,o)→w'.heap[b]? =w.heap[b]? :=fun b o hx=>hsame b (ho.out b o hx).2.1 fun er=>by
   subst er
   rcases hl with hl|hl
   ·rcases ho.blk with⟨g1,_⟩|⟨b',o',cs,T,g1,g2,_⟩
    ·rw[g1]at hx;cases hx
    ·rw[g1]at hx;cases hx
     exact hl.nc cs T (0,0) g2
   ·have:=(ho.out b o hx).2.1;omega
  refine⟨?_,?_,fun b o hx=>?_⟩
  ·obtain⟨A,k,g1,g2,g3⟩:=ho.val
   refine⟨A,k,g1,g2,g3.imp (fun h=>h) ?_⟩
   rintro⟨b,o,n,hx,hA,hn,hle⟩
   exact⟨b,o,n,hx,hA,(bsize_congr (same b o hx)).trans hn,hle⟩
  ·rcases ho.blk with g1|⟨b,o,cs,T,g1,g2,g3,g4,g5⟩
   ·exact .inl g1
   ·refine .inr ⟨b,o,cs,T,g1,(same b o g1).trans g2,g3,g4,fun i row hi j d hj=>?_⟩
    obtain⟨u,hu,hd⟩:=g5 i row hi j d hj
    exact⟨u,hu,hd.mono fun b hb=>⟨hb,hF b hb⟩⟩
  ·obtain⟨g1,g2,g3,g4⟩:=ho.out b o hx
   exact⟨g1,Nat.lt_of_lt_of_le g2 hsz,g3,g4⟩
 ·have hsz0:=h.asr.size
  rw[hsame b (by omega) fun er=>by
   subst er
   rcases hl with hl|hl
   ·have:=hl.lo;omega
   ·omega]
  exact h.asr.rest b hb
theorem FactRep.other{φ F w m x w' r}(h:FactRep φ F w m x)(hr:match x with| .mp b _ _ _=>b≠r| .it b _ _ _ _=>b≠r| .fz _ _=>True)(hsz:w.heap.size≤w'.heap.size)(hsame:∀b,b<w.heap.size→b≠r→w'.heap[b]? =w.heap[b]?)(hF:∀b,F b→w'.heap[b]? =w.heap[b]?):FactRep φ F w' m x:=by
 have lone:∀{b},Lone1 φ F w m b→b≠r→Lone1 φ F w' m b:=fun h hb=>
  ⟨h.lo,Nat.lt_of_lt_of_le h.hi hsz,h.nf,h.nn,fun cs T z=>by rw[hsame _ h.hi hb];exact h.nc cs T z⟩
 cases x with
 |fz u rows=>exact DRep.mono (fun b hb=>⟨hb,hF b hb⟩) h
 |mp b l bs c=>
  obtain⟨h1,es,h2,h3⟩:=h
  exact⟨lone h1 hr,es,(hsame b h1.hi hr).trans h2,h3⟩
 |it r' b since seen c=>
  obtain⟨h1,h2⟩:=h
  exact⟨lone h1 hr,(hsame r' h1.hi hr).trans h2⟩
end Go.Fw
namespace Go.Fw
open Go.MapKept (run_getObj_map run_checkKey run_findKey run_setObj_map run_keyThatStays heap_set)
theorem cOp_0{P:Program}{op:Op}{aop:AOp}(h:cOp P op=some aop)(h0:aop.is0=true):cOp0 P op=some aop:=by
 unfold cOp at h
 split at h
 all_goals(try(
  rw[Option.bind_eq_some_iff]at h
  obtain⟨a,h1,h2⟩:=h
  split at h2
  ·cases h2;exact h1
  ·cases h2))
 all_goals(exfalso;revert h)
 all_goals(repeat' split)
 all_goals simp[Option.bind_eq_some_iff,Option.map_eq_some_iff]
 all_goals(intros;first|(intro e;subst e;cases h0)|(subst_vars;cases h0))
theorem opq_inv{P:Program}{op:Op}{k:Nat}{x':O}(h:cOp P op=some (.opq k x')):(k=0∧∃t kt et x,op= .range t x∧P.underlying t=some (.map kt et)∧cO x=some x')∨(k=1∧∃x,op= .next x false∧cO x=some x')∨(k=2∧∃x,op= .entry x∧cO x=some x'):=by
 have h:=cOp_0 h rfl
 by_cases hs:(∃t x,op= .range t x)∨(∃x,op= .next x false)∨∃x,op= .entry x
 ·rcases hs with⟨t,x,rfl⟩|⟨x,rfl⟩|⟨x,rfl⟩
  ·simp only[cOp0]at h
   split at h
   ·rename_i kt et hu
    simp only[Option.map_eq_some_iff,AOp.opq.injEq]at h
    obtain⟨a,ha,rfl,rfl⟩:=h
    exact .inl ⟨rfl,t,kt,et,x,rfl,hu,ha⟩
   ·cases h
  ·simp only[cOp0,Option.map_eq_some_iff,AOp.opq.injEq]at h
   obtain⟨a,ha,rfl,rfl⟩:=h
   exact .inr (.inl ⟨rfl,x,rfl,ha⟩)
  ·simp only[cOp0,Option.map_eq_some_iff,AOp.opq.injEq]at h
   obtain⟨a,ha,rfl,rfl⟩:=h
   exact .inr (.inr ⟨rfl,x,rfl,ha⟩)
 ·exfalso
  unfold cOp0 at h
  split at h
  all_goals(first|(exact hs (.inl ⟨_,_,rfl⟩))|(exact hs (.inr (.inl ⟨_,rfl⟩)))|(exact hs (.inr (.inr ⟨_,rfl⟩)))|skip)
  all_goals(clear hs;revert h)
  all_goals(first|(simp[Option.bind_eq_some_iff,Option.map_eq_some_iff];done)|(try unfold cBin))
  all_goals(repeat' split)
  all_goals simp[Option.bind_eq_some_iff,Option.map_eq_some_iff]
theorem mkmap_inv{P:Program}{op:Op}(h:cOp P op=some .mkmap):∃t,op= .makeMap t none:=by
 have h:=cOp_0 h rfl
 by_cases hs:∃t,op= .makeMap t none
 ·exact hs
 ·exfalso
  unfold cOp0 at h
  split at h
  all_goals(first|(exact hs ⟨_,rfl⟩)|skip)
  all_goals(clear hs;revert h)
  all_goals(first|(simp[Option.bind_eq_some_iff,Option.map_eq_some_iff];done)|(try unfold cBin))
  all_goals(repeat' split)
  all_goals simp[Option.bind_eq_some_iff,Option.map_eq_some_iff]
theorem mget_inv{P:Program}{op:Op}{kd:Nat}{ok:Bool}{zc:A1}{m k:O}(h:cOp P op=some (.mget kd ok zc m k)):
 ∃t kt et mo ko z,op= .lookup t mo ko ok∧P.underlying t=some (.map kt et)∧kdT P kt=some kd∧(P.info? et).bind (·.zero)=some z∧cVal z=some zc∧cO mo=some m∧cO ko=some k:=by
 have h:=cOp_0 h rfl
 by_cases hs:∃t mo ko ok,op= .lookup t mo ko ok
 ·obtain⟨t,mo,ko,ok',rfl⟩:=hs
  simp only[cOp0]at h
  split at h
  ·rename_i kt et hu
   simp only[Option.bind_eq_some_iff,Option.map_eq_some_iff,AOp.mget.injEq]at h
   obtain⟨kd',h1,z,⟨i,hi,h2⟩,zc',h3,a,h4,b,h5,rfl,rfl,rfl,rfl,rfl⟩:=h
   exact⟨t,kt,et,mo,ko,z,rfl,hu,h1,by rw[hi];exact h2,h3,h4,h5⟩
  ·cases h
 ·exfalso
  unfold cOp0 at h
  split at h
  all_goals(first|(exact hs ⟨_,_,_,_,rfl⟩)|skip)
  all_goals(clear hs;revert h)
  all_goals(first|(simp[Option.bind_eq_some_iff,Option.map_eq_some_iff];done)|(try unfold cBin))
  all_goals(repeat' split)
  all_goals simp[Option.bind_eq_some_iff,Option.map_eq_some_iff]
theorem mset_inv{P:Program}{op:Op}{kd:Nat}{m k v:O}(h:cOp P op=some (.mset kd m k v)):
 ∃t kt et mo ko vo,op= .mapUpdate t mo ko vo∧P.underlying t=some (.map kt et)∧kdT P kt=some kd∧cO mo=some m∧cO ko=some k∧cO vo=some v:=by
 have h:=cOp_0 h rfl
 by_cases hs:∃t mo ko vo,op= .mapUpdate t mo ko vo
 ·obtain⟨t,mo,ko,vo,rfl⟩:=hs
  simp only[cOp0]at h
  split at h
  ·rename_i kt et hu
   simp only[Option.bind_eq_some_iff,Option.map_eq_some_iff,AOp.mset.injEq]at h
   obtain⟨kd',h1,a,h4,b,h5,c,h6,rfl,rfl,rfl,rfl⟩:=h
   exact⟨t,kt,et,mo,ko,vo,rfl,hu,h1,h4,h5,h6⟩
  ·cases h
 ·exfalso
  unfold cOp0 at h
  split at h
  all_goals(first|(exact hs ⟨_,_,_,_,rfl⟩)|skip)
  all_goals(clear hs;revert h)
  all_goals(first|(simp[Option.bind_eq_some_iff,Option.map_eq_some_iff];done)|(try unfold cBin))
  all_goals(repeat' split)
  all_goals simp[Option.bind_eq_some_iff,Option.map_eq_some_iff]
theorem mlen_inv{P:Program}{op:Op}{m:O}(h:cOp P op=some (.mlen m)):∃t kt et x args ts,op= .call {callee:= .builtin .len,args:=args,argTypes:=ts}∧args.toList=[x]∧ts.toList=[t]∧P.underlying t=some (.map kt et)∧cO x=some m:=by
 have h:=cOp_0 h rfl
 by_cases hs:∃args ts,op= .call {callee:= .builtin .len,args:=args,argTypes:=ts}
 ·obtain⟨args,ts,rfl⟩:=hs
  simp only[cOp0]at h
  split at h
  ·rename_i x t hargs hts
   split at h
   ·rw[Option.map_eq_some_iff]at h;obtain⟨_,_,h⟩:=h;cases h
   ·rw[Option.map_eq_some_iff]at h;obtain⟨_,_,h⟩:=h;cases h
   ·rename_i kt et hu
    simp only[Option.map_eq_some_iff,AOp.mlen.injEq]at h
    obtain⟨a,ha,rfl⟩:=h
    exact⟨t,kt,et,x,args,ts,rfl,hargs,hts,hu,ha⟩
   ·cases h
  ·cases h
 ·exfalso
  unfold cOp0 at h
  split at h
  all_goals(first|(exact hs ⟨_,_,rfl⟩)|skip)
  all_goals(clear hs;revert h)
  all_goals(first|(simp[Option.bind_eq_some_iff,Option.map_eq_some_iff];done)|(try unfold cBin))
  all_goals(repeat' split)
  all_goals simp[Option.bind_eq_some_iff,Option.map_eq_some_iff]
end Go.Fw
namespace Go.Fw
open Go.ChangeMaps (setBlock)
section
variable {P:Program} {n:Nat} {w0:World} {F0:Nat→Prop} {s:St} {l:List (Option AE)} {K:Fks} {st:AStep} {T:St→List (Option AE)→Fks→Prop}
theorem VS.one(hg:st.guard=none)(h:∀(o:Oper) (φ:Phi) (F:Nat→Prop) (a:Act) (w:World),cOp P o.op=some st.op→BS n w0 F0 s l K a w φ F→
 ∃v w',((execOp a.eval o).run P w= .ok (.value v) w'∨((execOp a.eval o).run P w= .ok .skip w'∧v=undef))∧∃av K',T (s.apply st.dst ⟨some av,[]⟩) l K'∧AVRep φ F (hp s.heap) w' av v∧BS n w0 F0 s l K' a w' φ F):VS P n w0 F0 [st] T s l K:=by
 intro ops mask Q rest0 os k h1 h2 h3 φ F a w h5 hQ
 have hlen:=steps_len _ _ _ _ _ h3
 obtain⟨o,rfl⟩:=List.length_eq_one_iff.1 hlen.symm
 simp only[cStepsFrom,Option.bind_eq_some_iff,Option.map_eq_some_iff]at h3
 obtain⟨st',hst',_,_,hcons⟩:=h3
 cases hcons
 obtain⟨hdn,hop,hdst,_,_,hguard⟩:=cStep_parts hst'
 have hoo:ops[k]? =some o:=by have:=h1 0 (by simp);simpa using this.symm
 obtain⟨v,w',hrun,av,K',hT,hav,hB⟩:=h o φ F a w hop h5
 have hput:=hB.rel.put hdn (out:=⟨some av,[]⟩) (v:=v) (fun av' h'=>by cases h';exact hav) hB.rel.rel (Stp.refl _ _ _ _)
 have hfin:=hB.step (m:=0) hput (Fr.refl _ _ _) (StpM.refl _ _ _ _ _)
 show wpOps P ops Q (k::rest0) a w
 rw[wpOps_cons]
 unfold wpOp
 rw[hoo]
 cases hgo:o.guard with
 |some g=>
  rw[hgo]at hguard
  obtain⟨d,_,_,hguard⟩:=hguard
  rw[hg]at hguard;cases hguard
 |none=>
  simp only[Region.wanted,hgo,if_true]
  refine .inl ?_
  have:=hQ (a.put o.dst v) w' _ l K' φ F (by rw[←hdst];exact hT) hfin
  unfold Oper.wp
  rcases hrun with hrun|⟨hrun,rfl⟩
  ·rw[hrun];exact this
  ·rw[hrun];exact this
theorem raw_val{φ F a w}(h:BS n w0 F0 s l K a w φ F){x:Operand}{x':O}{u:Value}(hx:cO x=some x')(he:s.evC x'=some (.d (.v u))):a.eval x=u:=by
 have h1:DRep w F (.v u) (a.eval x):=evC_rep h.rel hx he
 generalize a.eval x=v at h1
 cases h1;rfl
theorem VS.mget{d b c:Nat}{ok:Bool}{zc:A1}{m' k':O}{ml:List (Int×Value)}{bs:List Nat}{k:Int}(hst:st.op= .mget 0 ok zc m' k')(hg:st.guard=none)(hd:st.dst=some d)(hm:s.evC m'=some (.d (.v (.map (some b)))))(hk:s.evV k'=some (.int .i64 k))(hK:Fact.mp b ml bs c∈K)
 (h:T ⟨(d,mres ok zc ((getM k ml).map fun x=> .c (.d (.v x))))::s.slots,s.heap⟩ l K):VS P n w0 F0 [st] T s l K:=by
 refine VS.one hg fun o φ F a w hop hB=>?_
 rw[hst]at hop
 obtain⟨t,kt,et,mo,ko,z,ho,hu,hkd,hz,hzc,hmo,hko⟩:=mget_inv hop
 have he:=raw_val hB hmo hm
 have hkv:=evV_rep hB.rel hko hk
 obtain⟨_,es,h2,h4,h3,_⟩:=hB.ob _ hK
 obtain⟨dd,hdd,hdk⟩:=kdT_key hkd
 have hzr:=cVal_rep hzc φ F (hp s.heap) w
 have hents:EntsRep φ F (hp s.heap) w (eM1 (Value.int .i64) D.v ml) es.toList:=h3.ents
 have hfm:mfind (.int .i64 k) (eM1 (Value.int .i64) D.v ml)=(getM k ml).map fun x=> .c (.d (.v x)):=mfind_1 kkI k ml
 have key:∃v,A1Rep φ F (hp s.heap) w ((mfind (.int .i64 k) (eM1 (Value.int .i64) D.v ml)).getD zc) v∧(Instr.lookup t (a.eval mo) (a.eval ko) ok).run P w= .ok (if ok then .tuple #[v,.bool (mfind (.int .i64 k) (eM1 (Value.int .i64) D.v ml)).isSome]else v) w:=by
  rcases ents_find (k:= .int .i64 k) (kkI.k k) hdk hents (allK_1 kkI) 0 with⟨q1,q2⟩|⟨j,e,x,q1,q2,q3,q4,q5⟩
  ·refine⟨z,by rw[q2];exact hzr,?_⟩
   rw[q2]
   simp only[Instr.lookup,he,hkv,run_bind,run_underlying hu,run_pure,MapKept.run_getObj_map h2,MapKept.run_checkKey hdd (hdk _ (kkI.k k)),MapKept.run_findKey hdd q1,run_zeroValue hz]
   cases ok<;>rfl
  ·refine⟨e.val,by rw[q4];exact q5,?_⟩
   rw[q4]
   simp only[Instr.lookup,he,hkv,run_bind,run_underlying hu,run_pure,MapKept.run_getObj_map h2,MapKept.run_checkKey hdd (hdk _ (kkI.k k)),MapKept.run_findKey hdd q1]
   cases ok<;>rfl
 obtain⟨v,hv,hrun⟩:=key
 rw[hfm]at hv hrun
 refine⟨_,w,.inl (exec_v (ρ:=a.eval) (o:=o) (x:=Instr.lookup t (a.eval mo) (a.eval ko) ok) (by simp only[execOp,ho]) hrun),_,K,by rw[hd];exact h,?_,hB⟩
 cases ok with
 |true=>exact⟨[v,.bool ((getM k ml).map fun x=>A1.c (.d (.v x))).isSome],rfl,.cons hv (.cons (DRep.v _ rfl) .nil)⟩
 |false=>exact hv
theorem VS.mlen{d b c:Nat}{m':O}{ml:List (Int×Value)}{bs:List Nat}(hst:st.op= .mlen m')(hg:st.guard=none)(hd:st.dst=some d)(hm:s.evC m'=some (.d (.v (.map (some b)))))(hK:Fact.mp b ml bs c∈K)
 (h:T ⟨(d,.one (.c (.d (.v (.int .i64 (ml.length:Nat))))))::s.slots,s.heap⟩ l K):VS P n w0 F0 [st] T s l K:=by
 refine VS.one hg fun o φ F a w hop hB=>?_
 rw[hst]at hop
 obtain⟨t,kt,et,x,args,ts,ho,hargs,hts,hu,hx⟩:=mlen_inv hop
 have he:=raw_val hB hx hm
 obtain⟨_,es,h2,h4,h3,_⟩:=hB.ob _ hK
 have hlen:es.size=ml.length:=by rw[←Array.length_toList];exact(All2.length h3).symm
 obtain rfl:=one_arg hargs
 obtain rfl:=one_arg hts
 refine⟨.int .i64 ml.length,w,.inl ?_,.one (.c (.d (.v (.int .i64 (ml.length:Nat))))),K,by rw[hd];exact h,DRep.v _ rfl,hB⟩
 simp[execOp,ho,resolve,run_bind,run_pure,invoke,builtin,Builtin.len_,run_underlying hu,he,MapKept.run_getObj_map h2,goInt,hlen]
def Sep(r:Nat):Fact→Prop
 | .mp b _ _ _=>b≠r
 | .it b _ _ _ _=>b≠r
 | .fz _ _=>True
theorem Sep.mono{φ F w m x w' r}(h:FactRep φ F w m x)(hs:Sep r x)(hsz:w.heap.size≤w'.heap.size)(hsame:∀b,b<w.heap.size→b≠r→w'.heap[b]? =w.heap[b]?)(hF:∀b,F b→w'.heap[b]? =w.heap[b]?):FactRep φ F w' m x:=by
 refine h.other (r:=r) ?_ hsz hsame hF
 cases x<;>exact hs
theorem Sep.map{φ F w m r x}{es:Array MapEntry}{c:Nat}(h:FactRep φ F w m x)(hw:w.heap[r]? =some (.map es c))(hs:∀b l bs c,x= .mp b l bs c→b≠r):Sep r x:=by
 cases x with
 |mp b l bs c=>exact hs _ _ _ _ rfl
 |fz=>trivial
 |it b _ _ _ _=>exact fun e=>by subst e;rw[h.2]at hw;cases hw
theorem Sep.iter{φ F w m r x}{bm:Option Nat}{si:Nat}{se:Array Nat}{c:Nat}(h:FactRep φ F w m x)(hw:w.heap[r]? =some (.mapIter bm si se c))(hs:∀b m si se c,x= .it b m si se c→b≠r):Sep r x:=by
 cases x with
 |it b _ _ _ _=>exact hs _ _ _ _ _ rfl
 |fz=>trivial
 |mp b _ _ _=>exact fun e=>by subst e;obtain⟨_,es,h2,_⟩:=h;rw[h2]at hw;cases hw
theorem VS.mkmap{d:Nat}(hst:st.op= .mkmap)(hg:st.guard=none)(hd:st.dst=some d)
 (h:∀r,(∀b ml bs c,Fact.mp b ml bs c∈K→b≠r)→T ⟨(d,.one (.c (.d (.v (.map (some r))))))::s.slots,s.heap⟩ l (K++[.mp r [] [] 0])):VS P n w0 F0 [st] T s l K:=by
 refine VS.one hg fun o φ F a w hop hB=>?_
 rw[hst]at hop
 obtain⟨t,ho⟩:=mkmap_inv hop
 have hsame:∀b,b<w.heap.size→b≠w.heap.size→({w with heap:=w.heap.push (.map #[] 0)}:World).heap[b]? =w.heap[b]? :=fun b hb _=>heap_push _ _ _ hb
 have hself:({w with heap:=w.heap.push (.map #[] 0)}:World).heap[w.heap.size]? =some (.map #[] 0):=heap_push_self _ _
 refine⟨.map (some w.heap.size),{w with heap:=w.heap.push (.map #[] 0)},.inl ?_,.one (.c (.d (.v (.map (some w.heap.size))))),K++[.mp w.heap.size [] [] 0],by rw[hd];exact h w.heap.size fun b ml bs c hx he=>by have:=(hB.ob _ hx).1.hi;omega,DRep.v _ rfl,?_⟩
 ·refine exec_v (x:=Instr.makeMap t none) (by simp only[execOp,ho,Option.map_none]) ?_
  simp only[Instr.makeMap,run_bind,run_pure,run_newObj]
 ·refine hB.poke (r:=w.heap.size) (.inr (Nat.le_refl _)) (by simp) hsame ⟨rfl,rfl⟩ fun x hx=>?_
  rcases List.mem_append.1 hx with hx|hx
  ·have hf:=hB.ob x hx
   refine Sep.mono hf ?_ (by simp) hsame fun b hb=>heap_push _ _ _ (hB.rel.rel.frz b hb).1
   cases x with
   |mp b _ _ _=>exact fun e=>by have:=hf.1.hi;omega
   |it b _ _ _ _=>exact fun e=>by have:=hf.1.hi;omega
   |fz=>trivial
  ·rw[List.mem_singleton.1 hx]
   refine⟨⟨hB.asr.size,by simp,fun hF=>?_,fun id o hi=>?_,fun cs T z=>by rw[hself];exact fun e=>by cases e⟩,#[],hself,⟨fun x hx=>(by cases hx),.nil,.nil⟩,.nil,rfl⟩
   ·have:=(hB.rel.rel.frz _ hF).1;omega
   ·have:=hB.rel.rel.lt hi;omega
theorem VS.range{d b c:Nat}{x':O}{ml:List (Int×Value)}{bs:List Nat}(hst:st.op= .opq 0 x')(hg:st.guard=none)(hd:st.dst=some d)(hx:s.evC x'=some (.d (.v (.map (some b)))))(hK:Fact.mp b ml bs c∈K)
 (h:∀r,T ⟨(d,.one (.c (.d (.v (.pointer (some ⟨r,0,none⟩))))))::s.slots,s.heap⟩ l (K++[.it r b c #[] c])):VS P n w0 F0 [st] T s l K:=by
 refine VS.one hg fun o φ F a w hop hB=>?_
 rw[hst]at hop
 rcases opq_inv hop with⟨_,t,kt,et,x,ho,hu,hxo⟩|⟨h1,_⟩|⟨h1,_⟩
 ·have he:=raw_val hB hxo hx
  obtain⟨_,es,h2,h4,h3,_⟩:=hB.ob _ hK
  have hsame:∀b,b<w.heap.size→b≠w.heap.size→(w.alloc (.mapIter (some b) c #[] c)).heap[b]? =w.heap[b]? :=fun b hb _=>heap_alloc_old _ _ hb
  have hsame2:∀b',b'<w.heap.size→b'≠w.heap.size→(w.alloc (.mapIter (some b) c #[] c)).heap[b']? =w.heap[b']? :=fun b' hb _=>heap_alloc_old _ _ hb
  have hself:(w.alloc (.mapIter (some b) c #[] c)).heap[w.heap.size]? =some (.mapIter (some b) c #[] c):=heap_alloc_new _ _
  have hsz:w.heap.size≤(w.alloc (.mapIter (some b) c #[] c)).heap.size:=by show _≤(w.heap.push _).size;simp
  have hsz2:w.heap.size<(w.alloc (.mapIter (some b) c #[] c)).heap.size:=by show _<(w.heap.push _).size;simp
  refine⟨.pointer (some ⟨w.heap.size,0,none⟩),w.alloc (.mapIter (some b) c #[] c),.inl ?_,.one (.c (.d (.v (.pointer (some ⟨w.heap.size,0,none⟩))))),K++[.it w.heap.size b c #[] c],by rw[hd];exact h _,DRep.v _ rfl,?_⟩
  ·refine exec_v (x:=Instr.range t (a.eval x)) (by simp only[execOp,ho]) ?_
   rw[he];exact run_range_map w t kt et b es c hu h2
  ·refine hB.poke (r:=w.heap.size) (.inr (Nat.le_refl _)) hsz hsame2 ⟨rfl,rfl⟩ fun x hx=>?_
   rcases List.mem_append.1 hx with hx|hx
   ·have hf:=hB.ob x hx
    refine Sep.mono hf ?_ hsz hsame2 fun b' hb=>heap_alloc_old _ _ (hB.rel.rel.frz b' hb).1
    cases x with
    |mp b _ _ _=>exact fun e=>by have:=hf.1.hi;omega
    |it b _ _ _ _=>exact fun e=>by have:=hf.1.hi;omega
    |fz=>trivial
   ·rw[List.mem_singleton.1 hx]
    refine⟨⟨hB.asr.size,hsz2,fun hF=>?_,fun id o hi=>?_,fun cs T z=>by rw[hself];exact fun e=>by cases e⟩,hself⟩
    ·have:=(hB.rel.rel.frz _ hF).1;omega
    ·have:=hB.rel.rel.lt hi;omega
 ·cases h1
 ·cases h1
end
end Go.Fw
namespace Go.Fw
open Go.ChangeMaps (setBlock)
section
variable {P:Program} {n:Nat} {w0:World} {F0:Nat→Prop} {s:St} {l:List (Option AE)} {K:Fks} {st:AStep} {T:St→List (Option AE)→Fks→Prop}
theorem setBlock_self{w:World}{r:Nat}(o:Obj)(h:r<w.heap.size):(setBlock w r o).heap[r]? =some o:=by
 show(w.heap.setIfInBounds r o)[r]? =_
 rw[Array.getElem?_setIfInBounds,if_pos rfl,if_pos h]
theorem setBlock_ne{w:World}{r b:Nat}(o:Obj)(h:b≠r):(setBlock w r o).heap[b]? =w.heap[b]? :=by
 show(w.heap.setIfInBounds r o)[b]? =_
 rw[Array.getElem?_setIfInBounds,if_neg (fun e=>h e.symm)]
theorem setBlock_size{w:World}{r:Nat}(o:Obj):(setBlock w r o).heap.size=w.heap.size:=by
 show(w.heap.setIfInBounds r o).size=_
 simp
theorem BS.swap{K1 K2:Fks}{x y:Fact}{r:Nat}{o':Obj}{φ F a w w1}(h:BS n w0 F0 s l (K1++x::K2) a w φ F)(hw1:w1=w∨w1=w.drew)(hl:Lone1 φ F w w0.heap.size r)(hno:∀cs T z,o'≠ .cells cs T z)
 (hs:∀z∈K1++K2,Sep r z) (hy:∀w',w'.heap[r]? =some o'→Lone1 φ F w' w0.heap.size r→FactRep φ F w' w0.heap.size y):BS n w0 F0 s l (K1++y::K2) a (setBlock w1 r o') φ F:=by
 have hh:w1.heap=w.heap:=by rcases hw1 with rfl|rfl<;>rfl
 have hsize:(setBlock w1 r o').heap.size=w.heap.size:=by rw[setBlock_size,hh]
 have hsame:∀b,b≠r→(setBlock w1 r o').heap[b]? =w.heap[b]? :=fun b hb=>by rw[setBlock_ne _ hb,hh]
 have hself:(setBlock w1 r o').heap[r]? =some o':=setBlock_self _ (by rw[hh];exact hl.hi)
 have hio:Io w (setBlock w1 r o'):=by rcases hw1 with rfl|rfl<;>exact⟨rfl,rfl⟩
 refine h.poke (r:=r) (.inl hl) (by omega) (fun b _ hb=>hsame b hb) hio fun z hz=>?_
 have hF:∀b,F b→(setBlock w1 r o').heap[b]? =w.heap[b]? :=fun b hb=>hsame b fun e=>hl.nf (e▸hb)
 have old:∀z∈K1++K2,FactRep φ F (setBlock w1 r o') w0.heap.size z:=fun z hz=>by
  have hz':z∈K1++x::K2:=by
   rcases List.mem_append.1 hz with h1|h1
   ·exact List.mem_append_left _ h1
   ·exact List.mem_append_right _ (List.mem_cons_of_mem _ h1)
  exact Sep.mono (h.ob z hz') (hs z hz) (by omega) (fun b _ hb=>hsame b hb) hF
 rcases List.mem_append.1 hz with h1|h1
 ·exact old z (List.mem_append_left _ h1)
 ·rcases List.mem_cons.1 h1 with rfl|h1
  ·exact hy _ hself ⟨hl.lo,by have:=hl.hi;omega,hl.nf,hl.nn,fun cs T z=>by rw[hself];exact fun e=>hno cs T z (Option.some.inj e)⟩
  ·exact old z (List.mem_append_right _ h1)
theorem VS.next{K1 K2:Fks}{d r b since c0 c:Nat}{seen:Array Nat}{x':O}{ml:List (Int×Value)}{bs:List Nat}(hst:st.op= .opq 1 x')(hg:st.guard=none)(hd:st.dst=some d)(hx:s.evC x'=some (.d (.v (.pointer (some ⟨r,0,none⟩)))))
 (hK:K=K1++ .it r b since seen c0::K2) (hm:Fact.mp b ml bs c∈K1++K2) (hne:∀z∈K1++K2,∀b m si se c,z≠ .it b m si se c) (hold:∀t∈bs,t<since) (hsc:since≤c0)
 (hE:(∀t∈bs,seen.contains t=true)→T ⟨(d,.tup [.c (.d (.v (.bool false)))])::s.slots,s.heap⟩ l K)
 (hN:∀(j:Nat) k v t,ml[j]? =some (k,v)→bs[j]? =some t→seen.contains t=false→T ⟨(d,.tup [.c (.d (.v (.bool true))),.c (.d (.v (.int .i64 k))),.c (.d (.v v))])::s.slots,s.heap⟩ l (K1++ .it r b since (seen.push t) c::K2)):VS P n w0 F0 [st] T s l K:=by
 subst hK
 refine VS.one hg fun o φ F a w hop hB=>?_
 rw[hst]at hop
 rcases opq_inv hop with⟨h1,_⟩|⟨_,x,ho,hxo⟩|⟨h1,_⟩
 ·cases h1
 ·have he:=raw_val hB hxo hx
  obtain⟨hl,hit⟩:=hB.ob (.it r b since seen c0) (by simp)
  have hm':Fact.mp b ml bs c∈K1++ .it r b since seen c0::K2:=by
   rcases List.mem_append.1 hm with h1|h1
   ·exact List.mem_append_left _ h1
   ·exact List.mem_append_right _ (List.mem_cons_of_mem _ h1)
  obtain⟨_,es,h2,h4,h3,hbs⟩:=hB.ob _ hm'
  have hold':∀x∈es.toList,x.born<since:=fun x hx=>hold _ (by rw[←hbs];exact List.mem_map_of_mem hx)
  rcases run_next_at (P:=P) w o.type r b since c0 seen es c hit h2 hold' hsc with⟨q1,q2⟩|⟨e,q1,w1,q2,q3⟩
  ·have hall:∀t∈bs,seen.contains t=true:=fun t ht=>by
    rw[←hbs]at ht
    obtain⟨m,hm1,rfl⟩:=List.mem_map.1 ht
    have hem:leftOf es seen= #[]:=Array.eq_empty_of_size_eq_zero q1
    unfold leftOf at hem
    rw[Array.filter_eq_empty_iff]at hem
    have:=hem m (by simpa using hm1)
    simpa using this
   exact⟨_,w,.inl (exec_v (x:=Instr.next (a.eval x) false o.type) (by simp only[execOp,ho]) (by rw[he];exact q2)),.tup [.c (.d (.v (.bool false)))],_,by rw[hd];exact hE hall,⟨[.bool false],rfl,.cons (DRep.v _ rfl) .nil⟩,hB⟩
  ·have hmem:e∈es.toList∧seen.contains e.born=false:=by
    unfold leftOf at q1
    simp only[Array.toList_filter,List.mem_filter,Bool.not_eq_true']at q1
    exact q1
   obtain⟨j,hj⟩:=List.mem_iff_getElem?.1 hmem.1
   obtain⟨kv,g1,g2,g3,g4⟩:=h3.get hj
   have hbj:bs[j]? =some e.born:=by rw[←hbs,List.getElem?_map,hj];rfl
   refine⟨_,_,.inl (exec_v (x:=Instr.next (a.eval x) false o.type) (by simp only[execOp,ho]) (by rw[he];exact q3)),.tup [.c (.d (.v (.bool true))),.c (.d (.v (.int .i64 kv.1))),.c (.d (.v kv.2))],_,by rw[hd];exact hN j kv.1 kv.2 e.born g1 hbj hmem.2,?_,?_⟩
   ·exact⟨[.bool true,e.key,e.val],rfl,.cons (DRep.v _ rfl) (.cons (by rw[g2];exact DRep.v _ rfl) (.cons (by rw[g3];exact DRep.v _ g4) .nil))⟩
   ·refine hB.swap q2 hl (fun cs T z e=>by cases e) (fun z hz=>?_) fun w' h5 h6=>⟨h6,h5⟩
    have hz':z∈K1++ .it r b since seen c0::K2:=by
     rcases List.mem_append.1 hz with h1|h1
     ·exact List.mem_append_left _ h1
     ·exact List.mem_append_right _ (List.mem_cons_of_mem _ h1)
    exact Sep.iter (hB.ob z hz') hit fun b m si se c e=>(hne z hz b m si se c e).elim
 ·cases h1
theorem VS.entry{d r b since c t j:Nat}{seen:Array Nat}{x':O}{ml:List (Int×Value)}{bs:List Nat}{k:Int}{v:Value}(hst:st.op= .opq 2 x')(hg:st.guard=none)(hd:st.dst=some d)(hx:s.evC x'=some (.d (.v (.pointer (some ⟨r,0,none⟩)))))
 (hK:Fact.it r b since (seen.push t) c∈K) (hm:Fact.mp b ml bs c∈K) (hj:ml[j]? =some (k,v)) (hb:bs[j]? =some t)
 (h:T ⟨(d,.tup [.c (.d (.v (.int .i64 k))),.c (.d (.v v))])::s.slots,s.heap⟩ l K):VS P n w0 F0 [st] T s l K:=by
 refine VS.one hg fun o φ F a w hop hB=>?_
 rw[hst]at hop
 rcases opq_inv hop with⟨h1,_⟩|⟨h1,_⟩|⟨_,x,ho,hxo⟩
 ·cases h1
 ·cases h1
 ·have he:=raw_val hB hxo hx
  obtain⟨hl,hit⟩:=hB.ob _ hK
  obtain⟨_,es,h2,h4,h3,hbs⟩:=hB.ob _ hm
  rw[←hbs,List.getElem?_map]at hb
  obtain⟨e,he1,rfl⟩:=Option.map_eq_some_iff.1 hb
  obtain⟨kv,g1,g2,g3,g4⟩:=h3.get he1
  rw[hj]at g1;cases g1
  have hrun:=run_entry_at (P:=P) w r b since seen es c e hit h2 (List.mem_of_getElem? he1) h4.2.1
  refine⟨_,w,.inl (exec_v (x:=Instr.entry (a.eval x)) (by simp only[execOp,ho]) (by rw[he];exact hrun)),.tup [.c (.d (.v (.int .i64 k))),.c (.d (.v v))],K,by rw[hd];exact h,?_,hB⟩
  exact⟨[e.key,e.val],rfl,.cons (by rw[g2];exact DRep.v _ rfl) (.cons (by rw[g3];exact DRep.v _ g4) .nil)⟩
end
end Go.Fw
namespace Go.Fw
open Go.ChangeMaps (setBlock)
section
variable {P:Program} {n:Nat} {w0:World} {F0:Nat→Prop} {s:St} {l:List (Option AE)} {K:Fks} {st:AStep} {T:St→List (Option AE)→Fks→Prop}
theorem VS.mset{K1 K2:Fks}{b c:Nat}{m' k' v':O}{ml:List (Int×Value)}{bs:List Nat}{k:Int}{x:Value}(hst:st.op= .mset 0 m' k' v')(hg:st.guard=none)(hd:st.dst=none)(hm:s.evC m'=some (.d (.v (.map (some b)))))(hk:s.evV k'=some (.int .i64 k))(hv:s.ev v'=some (.one (.c (.d (.v x)))))
 (hK:K=K1++ .mp b ml bs c::K2) (hne:∀z∈K1++K2,∀b' l bs c,z= .mp b' l bs c→b'≠b)
 (h:T s l (K1++ .mp b (putM k x ml) (if(getM k ml).isSome then bs else bs++[c]) (if(getM k ml).isSome then c else c+1)::K2)):VS P n w0 F0 [st] T s l K:=by
 subst hK
 refine VS.one hg fun o φ F a w hop hB=>?_
 rw[hst]at hop
 obtain⟨t,kt,et,mo,ko,vo,ho,hu,hkd,hmo,hko,hvo⟩:=mset_inv hop
 have he:=raw_val hB hmo hm
 have hkv:=evV_rep hB.rel hko hk
 have hxr:DRep w F (.v x) (a.eval vo):=cO_ev hB.rel hvo hv
 have hxc:a.eval vo=x∧isCell x=true:=by
  generalize a.eval vo=u at hxr
  cases hxr with
  |v _ hc=>exact⟨rfl,hc⟩
 obtain⟨hl,es,h2,h4,h3,hbs⟩:=hB.ob (.mp b ml bs c) (by simp)
 obtain⟨dd,hdd,hdk⟩:=kdT_key hkd
 have hents:EntsRep φ F (hp s.heap) w (eM1 (Value.int .i64) D.v ml) es.toList:=h3.ents
 have hxA:A1Rep φ F (hp s.heap) w (.c (.d (.v x))) (a.eval vo):=hxr
 have hfm:mfind (.int .i64 k) (eM1 (Value.int .i64) D.v ml)=(getM k ml).map fun x=> .c (.d (.v x)):=mfind_1 kkI k ml
 have hpm:mput (.int .i64 k) (.c (.d (.v x))) (eM1 (Value.int .i64) D.v ml)=eM1 (Value.int .i64) D.v (putM k x ml):=mput_1 kkI k x ml
 have key:∃es' c',MapKept.Stamped es' c'∧EE (putM k x ml) es'.toList∧es'.toList.map (·.born)=(if(getM k ml).isSome then bs else bs++[c])∧c'=(if(getM k ml).isSome then c else c+1)∧(Instr.mapUpdate t (a.eval mo) (a.eval ko) (a.eval vo)).run P w= .ok () (setBlock w b (.map es' c')):=by
  rcases ents_put (k:= .int .i64 k) (kkI.k k) hdk hxA hents (allK_1 kkI) 0 c with⟨q1,q2,q5⟩|⟨j,e,q1,q2,q3,q4⟩
  ·have hn:(getM k ml).isSome=false:=by
    rcases ents_find (k:= .int .i64 k) (kkI.k k) hdk hents (allK_1 kkI) 0 with⟨r1,r2⟩|⟨j,e,y,r1,_⟩
    ·rw[hfm]at r2;cases hgm:getM k ml<;>rw[hgm]at r2<;>first|rfl|cases r2
    ·rw[q1]at r1;cases r1
   refine⟨es.push {key:= .int .i64 k,val:=a.eval vo,born:=c},c+1,stamped_push h4 q5,EE.of (φ:=φ) (F:=F) (G:=hp s.heap) (w:=w) (by rw[←hpm];simpa using q2),by rw[hn];simp[hbs],by rw[hn];rfl,?_⟩
   simp only[Instr.mapUpdate,he,hkv,run_bind,run_underlying hu,run_pure,MapKept.run_getObj_map h2,MapKept.run_checkKey hdd (hdk _ (kkI.k k)),MapKept.run_findKey hdd q1,MapKept.run_setObj_map _ h2]
   rfl
  ·have hn:(getM k ml).isSome=true:=by
    rcases ents_find (k:= .int .i64 k) (kkI.k k) hdk hents (allK_1 kkI) 0 with⟨r1,r2⟩|⟨j,e,y,r1,_,_,r2,_⟩
    ·rw[q1]at r1;cases r1
    ·rw[hfm]at r2;cases hgm:getM k ml<;>rw[hgm]at r2<;>first|rfl|cases r2
   refine⟨es.modify j fun e=>{e with key:= .int .i64 k,val:=a.eval vo},c,stamped_modify h4 (by simpa using q2) q3,EE.of (φ:=φ) (F:=F) (G:=hp s.heap) (w:=w) (by rw[←hpm,Array.toList_modify];exact q4),?_,by rw[hn];rfl,?_⟩
   ·rw[hn,if_pos rfl,←hbs,Array.toList_modify]
    apply List.ext_getElem?
    intro i
    simp only[List.getElem?_map,List.getElem?_modify]
    split<;>cases es.toList[i]? <;>rfl
   ·have hjk:((es[j]?).map (·.key)).getD (.int .i64 k)= .int .i64 k:=by
     have:es[j]? =some e:=by simpa using q2
     rw[this,←q3];rfl
    simp only[Instr.mapUpdate,he,hkv,run_bind,run_underlying hu,run_pure,MapKept.run_getObj_map h2,MapKept.run_checkKey hdd (hdk _ (kkI.k k)),MapKept.run_findKey hdd q1,Nat.zero_add,hjk,MapKept.run_keyThatStays (hdk _ (kkI.k k)),MapKept.run_setObj_map _ h2]
    rfl
 obtain⟨es',c',k1,k2,k3,k4,hrun⟩:=key
 subst k4
 refine⟨undef,_,.inr ⟨exec_u (x:=Instr.mapUpdate t (a.eval mo) (a.eval ko) (a.eval vo)) (by simp only[execOp,ho]) hrun,rfl⟩,.tup [],_,by rw[hd];exact h,⟨[],rfl,.nil⟩,?_⟩
 refine hB.swap (.inl rfl) hl (fun cs T z e=>by cases e) (fun z hz=>?_) fun w' h5 h6=>⟨h6,es',h5,k1,k2,k3⟩
 have hz':z∈K1++ .mp b ml bs c::K2:=by
  rcases List.mem_append.1 hz with h1|h1
  ·exact List.mem_append_left _ h1
  ·exact List.mem_append_right _ (List.mem_cons_of_mem _ h1)
 exact Sep.map (hB.ob z hz') h2 fun b' l bs c e=>hne z hz b' l bs c e
theorem VB.drawL{R:RVb}{steps:List AStep}{K1:St→Prop}(hd:st.dst=none)(hall:∀j,j<steps.length→j∈st.bef)(hne:0<steps.length)
 (hv:vcD P s.heap steps 0 s.slots [] K1) (hT:∀s',K1 s'→Tel n w0 F0 (VS P n w0 F0 [st] (R .normal)) s' l K):VB P n w0 F0 (.regd (steps++[st])) R s l K:=by
 intro c hc φ F a w hs
 cases c with
 |region id ops draw=>
  cases draw with
  |false=>
   simp only[cCode,AC.er,Bool.false_eq_true,if_false,Option.map_eq_some_iff]at hc
   obtain⟨_,_,hc⟩:=hc;cases hc
  |true=>
   simp only[cCode,AC.er,if_true,cDraw,Option.bind_eq_some_iff]at hc
   obtain⟨steps',hsteps,hc⟩:=hc
   split at hc
   ·rename_i hB
    cases hc
    simp only[Bool.and_eq_true]at hB
    refine wp_region_any hB.2 ?_
    have hdr:=drawB_ok hsteps hB.1
    have hsz:ops.size≠0:=by have:=hdr.len;simp at this;omega
    obtain⟨ops0,o,rfl⟩:=Array.eq_push_of_size_ne_zero hsz
    have hlen:steps.length=ops0.size:=by have:=hdr.len;simp at this;exact this
    have stp0:Stp φ F (hp s.heap) w φ F (hp s.heap) {w with drawn:=w.drawn+1}:=⟨fun b hb=>⟨hb,rfl⟩,fun id=>BStp.same rfl fun _ _ _=>rfl⟩
    have fr0:Fr φ F w φ F {w with drawn:=w.drawn+1}:=⟨Nat.le_refl _,fun _ _ _=>rfl,fun id b o hi=> .inl ⟨id,o,hi⟩,fun b hb=> .inl hb,⟨rfl,rfl⟩⟩
    have hs1:SRel n φ F s a {w with drawn:=w.drawn+1}:=
     ⟨hs.rel.size,hs.rel.defers,⟨fun id blk hb=>BRep.mono stp0 rfl (fun _ _ _=>rfl) (hs.rel.rel.blk id blk hb),hs.rel.rel.dom,hs.rel.rel.inj,hs.rel.rel.frz⟩,fun t av ht=>(hs.rel.slot t av ht).mono stp0⟩
    have hs2:=hs.step (m:=0) hs1 fr0 stp0.m
    rw[Array.size_push,show Array.replicate (ops0.size+1) false=(Array.replicate ops0.size false).push false by apply Array.ext_getElem?;intro j;rw[Array.getElem?_push,Array.getElem?_replicate,Array.getElem?_replicate];simp only[Array.size_replicate];split<;>split<;>(try split)<;>first|rfl|omega]
    refine wpAny_last (n:=n) hdr hd (fun j hj=>hall j (by omega)) (by omega) ops0.size _ a _ (by simp) (by simp[Array.count_replicate]) (fun i x hi=>by rw[Array.getElem?_replicate]at hi;split at hi<;>cases hi) ?_
    refine region_draw_sound (m:=0) (hdr.pop hd) hv hs1 fun a' w' hp'=>?_
    obtain⟨s',φ',F',hK,q2,q3,q4⟩:=hp'
    obtain⟨s2,l2,K2,φ2,F2,hvs,h5⟩:=hT s' hK φ' F' a' w' (hs2.step q2 q3 q4)
    obtain⟨_,c2⟩:=steps_cut _ _ steps.length _ _ _ hsteps (by simp;omega)
    rw[List.drop_left]at c2
    have hdrop:(ops0.push o).toList.drop steps.length=[o]:=by rw[Array.toList_push,hlen,←Array.length_toList,List.drop_left]
    rw[hdrop,Nat.zero_add]at c2
    have:=hvs (ops0.push o) _ (XV n w0 F0 R) [] [o] steps.length (fun j hj=>by
     have:j=0:=by simpa using hj
     subst this;rw[Nat.add_zero,hlen];simp) (by simp;omega) c2 φ2 F2 a' w' h5 fun a2 w2 s3 l3 K3 φ3 F3 hR h6=>⟨s3,l3,K3,φ3,F3,hR,h6⟩
    show wpOp P (ops0.push o) (XV n w0 F0 R) ops0.size (fun a w=>XV n w0 F0 R .normal a w) a' w'
    rw[hlen]at this
    rw[List.append_nil]at this
    have e:List.range' ops0.size [o].length=[ops0.size]:=rfl
    rw[e,wpOps_cons]at this
    exact this
   ·cases hc
 |seq=>simp only[cCode,AC.er,Option.bind_eq_some_iff,Option.map_eq_some_iff]at hc;obtain⟨_,_,_,_,hc⟩:=hc;cases hc
 |cond=>simp only[cCode,AC.er,Option.bind_eq_some_iff,Option.map_eq_some_iff]at hc;obtain⟨_,_,_,_,_,_,hc⟩:=hc;cases hc
 |block=>simp only[cCode,AC.er,Option.map_eq_some_iff]at hc;obtain⟨_,_,hc⟩:=hc;cases hc
 |loop=>simp only[cCode,AC.er,Option.map_eq_some_iff]at hc;obtain⟨_,_,hc⟩:=hc;cases hc
 |_=>cases hc
end
end Go.Fw
namespace Go.Fw
theorem mfind_mput(k:Int)(a:A1):∀R:List (Value×A1),mfind (.int .i64 k) (mput (.int .i64 k) a R)=some a
 |[]=>by simp[mput,mfind,keyEq]
 |e::r=>by
  simp only[mput]
  split
  ·simp[mfind,keyEq]
  ·rename_i h
   simp only[mfind,h,if_false]
   exact mfind_mput k a r
theorem mput_mput(k:Int)(a b:A1):∀R:List (Value×A1),mput (.int .i64 k) b (mput (.int .i64 k) a R)=mput (.int .i64 k) b R
 |[]=>by simp[mput,keyEq]
 |e::r=>by
  simp only[mput]
  split
  ·rename_i h;simp[mput,keyEq]
  ·rename_i h
   simp only[mput,h,if_false]
   rw[mput_mput k a b r]
   rfl
theorem allK_mput(k:Int)(a:A1):∀{R:List (Value×A1)},allK 0 R=true→allK 0 (mput (.int .i64 k) a R)=true
 |[],_=>rfl
 |e::r,h=>by
  simp only[allK,List.all_cons,Bool.and_eq_true]at h
  simp only[mput]
  split
  ·simp only[allK,List.all_cons,Bool.and_eq_true];exact⟨rfl,h.2⟩
  ·simp only[allK,List.all_cons,Bool.and_eq_true];exact⟨h.1,allK_mput k a h.2⟩
theorem All2.put{φ φ':Phi}{F F':Nat→Prop}{G G':Heap}{w w':World}{k:Int}{a b:A1}(hm:∀x v,A1Rep φ F G w x v→A1Rep φ' F' G' w' x v)(hc:∀v,A1Rep φ F G w a v→A1Rep φ' F' G' w' b v){R:List (Value×A1)}{es:List MapEntry}
 (hk:allK 0 R=true) (hf:mfind (.int .i64 k) R=some a) (h:All2 (fun(e:Value×A1) (m:MapEntry)=>m.key=e.1∧A1Rep φ F G w e.2 m.val) R es):
 All2 (fun(e:Value×A1) (m:MapEntry)=>m.key=e.1∧A1Rep φ' F' G' w' e.2 m.val) (mput (.int .i64 k) b R) es:=by
 induction h with
 |nil=>cases hf
 |@cons e m R es he ht ih=>
  simp only[allK,List.all_cons,Bool.and_eq_true]at hk
  simp only[mfind]at hf
  simp only[mput]
  split at hf
  ·rename_i hq
   cases hf
   rw[if_pos hq]
   have hk1:=hk.1
   cases hv:e.1 with
   |int kk i=>
    rw[hv]at hk1 hq
    cases kk<;>first|cases hk1|skip
    simp only[keyEq,decide_eq_true_eq]at hq
    subst hq
    exact .cons ⟨he.1.trans hv,hc _ he.2⟩ (ht.imp fun a b h=>⟨h.1,hm _ _ h.2⟩)
   |_=>rw[hv]at hk1;cases hk1
  ·rename_i hq
   rw[if_neg hq]
   exact .cons ⟨he.1,hm _ _ he.2⟩ (ih hk.2 hf)
theorem reMapPut{φ F G w}(h:Rel φ F G w){o:Nat}{R:List (Value×A1)}{k:Int}{a b:A1}(hG:G o=some (.map R))(hk:allK 0 R=true)(hf:mfind (.int .i64 k) R=some a)(hc:∀u,A1Rep φ F G w a u→A1Rep φ F G w b u):
 Rel φ F (upd G o (some (.map (mput (.int .i64 k) b R)))) w∧Stp φ F G w φ F (upd G o (some (.map (mput (.int .i64 k) b R)))) w:=by
 have key:=h.update o (φ o) (.map (mput (.int .i64 k) b R)) w (Nat.le_refl _) (Io.refl _) (fun _ _ _=>rfl) (fun b o hx=> .inl ⟨o,hx⟩) (by rw[hG];exact upd_same _ _ _) (fun stp=>by
  obtain⟨b0,es,c,h1,h2,h3,h4⟩:=h.blk o _ hG
  rw[upd_self]at stp⊢
  exact⟨b0,es,c,h1,h2,h3,All2.put (fun x v hx=>hx.mono stp) (fun v hv=>(hc v hv).mono stp) hk hf h4⟩)
 rw[upd_self]at key
 exact⟨key.1,key.2.1⟩
theorem reMap{φ F G w}(h:Rel φ F G w){o:Nat}{R R':List (Value×A1)}(hG:G o=some (.map R))(hc:∀(b:Nat) (es:Array MapEntry) (c:Nat),φ o=some (b,0)→w.heap[b]? =some (.map es c)→All2 (fun(e:Value×A1) (m:MapEntry)=>m.key=e.1∧A1Rep φ F G w e.2 m.val) R es.toList→All2 (fun(e:Value×A1) (m:MapEntry)=>m.key=e.1∧A1Rep φ F G w e.2 m.val) R' es.toList):
 Rel φ F (upd G o (some (.map R'))) w∧Stp φ F G w φ F (upd G o (some (.map R'))) w:=by
 have key:=h.update o (φ o) (.map R') w (Nat.le_refl _) (Io.refl _) (fun _ _ _=>rfl) (fun b o hx=> .inl ⟨o,hx⟩) (by rw[hG];exact upd_same _ _ _) (fun stp=>by
  obtain⟨b0,es,c,h1,h2,h3,h4⟩:=h.blk o _ hG
  rw[upd_self]at stp⊢
  exact⟨b0,es,c,h1,h2,h3,(hc _ _ _ h1 h2 h4).imp fun a b h=>⟨h.1,h.2.mono stp⟩⟩)
 rw[upd_self]at key
 exact⟨key.1,key.2.1⟩
section
variable {n:Nat} {w0:World} {F0:Nat→Prop} {s:St} {l:List (Option AE)} {K:Fks}
theorem BS.nil{s l a w φ F}(h:AS n w0 F0 s l [] a w φ F):BS n w0 F0 s l [] a w φ F:=⟨h,fun x hx=>by cases hx⟩
theorem Tel.of{J:St→List (Option AE)→Prop}(h:Tell n w0 F0 (fun s' l' K'=>J s' l'∧K'=[]) s l []):Tel n w0 F0 (fun s' l' K'=>J s' l'∧K'=[]) s l K:=by
 intro φ F a w hs
 obtain⟨s',l',K',φ',F',⟨hJ,rfl⟩,h2⟩:=h φ F a w hs.asr
 exact⟨s',l',[],φ',F',⟨hJ,rfl⟩,.nil h2⟩
theorem Tel.expelC{t:Nat}{id e sz:Nat}{rows:List (List D)}(hs:lk s.slots t=some (.one (.c (.own id e 0 rows.length none))))(hG:hp s.heap id=some (.arr e sz rows)):
 Tel n w0 F0 (fun s' l' K'=>(∃u,s'=⟨(t,.one (.c (.d (.v u))))::s.slots,hset s.heap id (.arr (e+1) sz [])⟩∧l'=l++[some (u,sz,rows)])∧K'=[]) s l K:=by
 refine Tel.of ((Tell.expelC (l:=l) (K:=[]) hs hG).trans ?_)
 rintro _ _ _ ⟨u,rfl,rfl,rfl⟩
 exact Tell.refl ⟨⟨u,rfl,rfl⟩,rfl⟩
theorem Tel.adoptM{o i sz:Nat}{k:Int}{u:Value}{rows:List (List D)}{R:List (Value×A1)}(hG:hp s.heap o=some (.map R))(hk:allK 0 R=true)(hf:mfind (.int .i64 k) R=some (.c (.d (.v u))))(hi:l[i]? =some (some (u,sz,rows))):
 Tel n w0 F0 (fun s' l' K'=>(s'=⟨s.slots,hset (hset s.heap s.heap.length (.arr 0 sz rows)) o (.map (mput (.int .i64 k) (.c (.own s.heap.length 0 0 rows.length none)) R))⟩∧l'=l.set i none)∧K'=[]) s l K:=by
 refine Tel.of fun φ F a w h=>?_
 obtain⟨x,h1,h2,h3,h4,h5⟩:=Fw.adopt h.rel.rel (hp_len s.heap) h.al hi
 have hpne:o≠s.heap.length:=fun e=>by subst e;rw[hp_len]at hG;cases hG
 have hG':upd (hp s.heap) s.heap.length (some (.arr 0 sz rows)) o=some (.map R):=by rw[upd_ne _ _ hpne];exact hG
 obtain⟨g1,g2⟩:=reMapPut h1 (b:= .c (.own s.heap.length 0 0 rows.length none)) hG' hk hf (fun v hv=>by
  have hv':DRep w F (.v u) v:=hv
  cases hv'
  exact h3)
 have e0:hp (hset (hset s.heap s.heap.length (.arr 0 sz rows)) o (.map (mput (.int .i64 k) (.c (.own s.heap.length 0 0 rows.length none)) R)))=upd (upd (hp s.heap) s.heap.length (some (.arr 0 sz rows))) o (some (.map (mput (.int .i64 k) (.c (.own s.heap.length 0 0 rows.length none)) R))):=by
  rw[hp_hset,hp_hset]
 refine⟨_,_,_,upd φ s.heap.length x,F,⟨⟨rfl,rfl⟩,rfl⟩,h.re (by rw[e0];exact h2.trans g2) (by rw[e0];exact g1) (fun t av hav=>?_) h4 (fun y hy=>by cases hy) (fun k b o hk=>?_) h.frz⟩
 ·rw[e0];exact(h.rel.slot t av hav).mono (h2.trans g2)
 ·by_cases hk':k=s.heap.length
  ·subst hk';rw[upd_same]at hk;exact h5 b o hk
  ·rw[upd_ne _ _ hk']at hk;exact h.own k b o hk
theorem Tel.rawM{o:Nat}{k:Int}{c:C}{R:List (Value×A1)}(hG:hp s.heap o=some (.map (mput (.int .i64 k) (.c c) R)))(hk:allK 0 R=true):
 Tel n w0 F0 (fun s' l' K'=>(∃u,s'=⟨s.slots,hset s.heap o (.map (mput (.int .i64 k) (.c (.d (.v u))) R))⟩∧l'=l)∧K'=[]) s l K:=by
 refine Tel.of fun φ F a w h=>?_
 obtain⟨b0,es,cl,h1,h2,h3,h4⟩:=h.rel.rel.blk o _ hG
 have key:∀{R:List (Value×A1)} {es:List MapEntry},allK 0 R=true→All2 (fun(e:Value×A1) (m:MapEntry)=>m.key=e.1∧A1Rep φ F (hp s.heap) w e.2 m.val) (mput (.int .i64 k) (.c c) R) es→
  ∃u,All2 (fun(e:Value×A1) (m:MapEntry)=>m.key=e.1∧A1Rep φ F (hp s.heap) w e.2 m.val) (mput (.int .i64 k) (.c (.d (.v u))) R) es:=by
  intro R
  induction R with
  |nil=>
   intro es _ h
   simp only[mput]at h⊢
   cases h with
   |cons a t=>exact⟨_,.cons ⟨a.1,DRep.v _ (CRep.isCell (show CRep φ F (hp s.heap) w c _ from a.2))⟩ t⟩
  |cons e R ih=>
   intro es hk h
   simp only[allK,List.all_cons,Bool.and_eq_true]at hk
   simp only[mput]at h⊢
   split at h
   ·rename_i hq
    simp only[hq,if_true]
    cases h with
    |cons a t=>exact⟨_,.cons ⟨a.1,DRep.v _ (CRep.isCell (show CRep φ F (hp s.heap) w c _ from a.2))⟩ t⟩
   ·rename_i hq
    simp only[hq,if_false]
    cases h with
    |cons a t=>obtain⟨u,hu⟩:=ih hk.2 t;exact⟨u,.cons a hu⟩
 obtain⟨u,hu⟩:=key hk h4
 obtain⟨g1,g2⟩:=reMap h.rel.rel (R':=mput (.int .i64 k) (.c (.d (.v u))) R) hG (fun b' es' c' q1 q2 _=>by
  rw[h1]at q1;cases q1
  rw[h2]at q2;cases q2
  exact hu)
 have e0:hp (hset s.heap o (.map (mput (.int .i64 k) (.c (.d (.v u))) R)))=upd (hp s.heap) o (some (.map (mput (.int .i64 k) (.c (.d (.v u))) R))):=hp_hset _ _ _
 refine⟨_,_,_,φ,F,⟨⟨u,rfl,rfl⟩,rfl⟩,h.re (by rw[e0];exact g2) (by rw[e0];exact g1) (fun t av hav=>?_) h.al (fun y hy=>by cases hy) h.own h.frz⟩
 rw[e0];exact(h.rel.slot t av hav).mono g2
theorem raw_sl{w F d rows}{u v:Value}(h:DRep w F (.v u) v)(he:d= .sl rows)(hr:∀x,x=u→DRep w F (.sl rows) x):DRep w F d v:=by
 subst he;cases h;exact hr _ rfl
theorem Tel.giveUpM{o:Nat}{ol:List (Int×Value)}{α:Type}{enc:α→D}{ot:List (Int×α)}(hG:hp s.heap o=some (.map (eM1 (Value.int .i64) D.v ol)))
 (hc:All2 (fun(x:Int×Value) (y:Int×α)=>y.1=x.1∧∃(k sz:Nat) (rows:List (List D)),l[k]? =some (some (x.2,sz,rows))∧enc y.2= .sl rows) ol ot):
 Tel n w0 F0 (fun s' l' K'=>(s'=⟨s.slots,hset s.heap o (.map (eM1 (Value.int .i64) enc ot))⟩∧l'=[])∧K'=[]) s l K:=by
 refine Tel.of fun φ F a w h=>?_
 obtain⟨F',h1,h2,h3,h4⟩:=Fw.giveUp h.rel.rel h.al
 obtain⟨g1,g2⟩:=reMap h1 (R':=eM1 (Value.int .i64) enc ot) hG (fun b' es' c' _ _ q3=>by
  generalize es'.toList=es at q3
  clear hG
  induction hc generalizing es with
  |nil=>exact q3
  |cons a _ ih=>
   obtain⟨e1,k,sz,rows,hk,he⟩:=a
   cases q3 with
   |cons b t=>
    refine .cons ⟨b.1.trans (by simp only[e1]),?_⟩ (ih _ t)
    exact raw_sl b.2 he fun u hu=>h4 k _ sz rows (hu▸hk))
 have e0:hp (hset s.heap o (.map (eM1 (Value.int .i64) enc ot)))=upd (hp s.heap) o (some (.map (eM1 (Value.int .i64) enc ot))):=hp_hset _ _ _
 refine⟨_,_,_,φ,F',⟨⟨rfl,rfl⟩,rfl⟩,h.re (by rw[e0];exact h2.trans g2) (by rw[e0];exact g1) (fun t av hav=>?_) (Al.nil _ _ _ _) (fun y hy=>by cases hy) h.own (fun b hb=>?_)⟩
 ·rw[e0];exact(h.rel.slot t av hav).mono (h2.trans g2)
 ·rcases h3 b hb with hb|hb
  ·exact h.frz b hb
  ·exact .inr hb
theorem Tel.mapOut{t id:Nat}{ml:List (Int×Value)}{sl':List (Nat×AV)}{H':List (Option Blk)}(ht:lk s.slots t=some (.one (.c (.mref id))))(hG:hp s.heap id=some (.map (eM1 (Value.int .i64) D.v ml)))
 (hH:∀i,hp H' i=if i=id then none else hp s.heap i) (hb:∀i x,hp H' i=some x→∃ents,x= .map ents∧entsD ents=true)
 (hs:∀x∈sl',lk s.slots x.1=some x.2∧((∃d,x.2= .one (.c (.d d)))∨∃j,x.2= .one (.c (.mref j))∧j≠id)):
 Tel n w0 F0 (fun s' l' K'=>∃b bs c,s'=⟨(t,.one (.c (.d (.v (.map (some b))))))::sl',H'⟩∧l'=l∧K'=[.mp b ml bs c]∧bs.Nodup∧bs.length=ml.length∧∀t∈bs,t<c) s l K:=by
 intro φ F a w h
 obtain⟨b,es,c,h1,h2,h3,h4⟩:=h.rel.rel.blk id _ hG
 have hdn:∀j b o,upd φ id none j=some (b,o)→j≠id∧φ j=some (b,o):=by
  intro j b o hj
  by_cases hjj:j=id
  ·subst hjj;rw[upd_same]at hj;cases hj
  ·rw[upd_ne _ _ hjj]at hj;exact⟨hjj,hj⟩
 have fr:Fr φ F w (upd φ id none) F w:=⟨Nat.le_refl _,fun _ _ _=>rfl,fun j b o hj=> .inl ⟨j,o,(hdn j b o hj).2⟩,fun b hF=> .inl hF,Io.refl _⟩
 have hEE:EE ml es.toList:=EE.of (φ:=φ) (F:=F) (G:=hp s.heap) (w:=w) h4
 have slot:∀t' av,Fw.lk ((t,AV.one (.c (.d (.v (.map (some b))))))::sl') t'=some av→AVRep (upd φ id none) F (hp H') w av (a.tmps.getD t' undef):=by
  intro t' av hav
  simp only[lk_cons]at hav
  split at hav
  ·rename_i htt;subst htt;cases hav
   obtain⟨ents,b',g1,g2,g3⟩:=h.rel.slot t' _ ht
   rw[h1]at g2;cases g2
   show DRep w F _ _
   rw[g3];exact DRep.v _ rfl
  ·obtain⟨q1,q2⟩:=hs _ (lk_mem hav)
   have q3:=h.rel.slot t' av q1
   rcases q2 with⟨d,rfl⟩|⟨j,rfl,hj⟩
   ·exact q3
   ·obtain⟨ents,b',g1,g2,g3⟩:=q3
    exact⟨ents,b',by rw[hH,if_neg hj];exact g1,by rw[upd_ne _ _ hj];exact g2,g3⟩
 have hrel:Rel (upd φ id none) F (hp H') w:=by
  refine⟨fun j bl hj=>?_,fun j y hy=>?_,fun i j b o b' o' hi hj hbb=>h.rel.rel.inj i j b o b' o' (hdn i b o hi).2 (hdn j b' o' hj).2 hbb,fun b hF=>⟨(h.rel.rel.frz b hF).1,fun j b' o hj=>(h.rel.rel.frz b hF).2 j b' o (hdn j b' o hj).2⟩⟩
  ·obtain⟨ents,rfl,hd⟩:=hb j bl hj
   rw[hH]at hj
   split at hj
   ·cases hj
   ·rename_i hne
    obtain⟨b',es',c',g1,g2,g3,g4⟩:=h.rel.rel.blk j _ hj
    exact⟨b',es',c',by rw[upd_ne _ _ hne];exact g1,g2,g3,entsD_rep hd g4⟩
  ·obtain⟨hj,hy⟩:=hdn j y.1 y.2 hy
   rw[hH,if_neg hj];exact h.rel.rel.dom j _ hy
 refine⟨_,_,_,upd φ id none,F,⟨b,es.toList.map (·.born),c,rfl,rfl,rfl,h3.2.1,?_,fun t ht=>?_⟩,⟨⟨⟨h.rel.size,h.rel.defers,hrel,slot⟩,h.asr.al.keep fr (fun b hb=>⟨hb,rfl⟩),(fun x hx=>by cases hx),h.asr.size,h.asr.rest,fun j b o hj=>h.asr.own j b o (hdn j b o hj).2,h.asr.frz,h.asr.mono,h.asr.io⟩,fun x hx=>?_⟩⟩
 ·rw[List.length_map];exact(All2.length hEE).symm
 ·obtain⟨m,hm,rfl⟩:=List.mem_map.1 ht
  exact h3.1 m hm
 ·rw[List.mem_singleton.1 hx]
  refine⟨⟨h.asr.own id b 0 h1,h.rel.rel.lt h1,fun hF=>(h.rel.rel.frz b hF).2 id b 0 h1 rfl,fun j o hj=>?_,fun cs T z e=>by rw[h2]at e;cases e⟩,es,h2,h3,hEE,rfl⟩
  obtain⟨q1,q2⟩:=hdn j b o hj
  exact q1 (h.rel.rel.inj j id b o b 0 q2 h1 rfl)
theorem Tel.mapIn{t b c:Nat}{bs:List Nat}{ml:List (Int×Value)}(hK:Fact.mp b ml bs c∈K)(ht:lk s.slots t=some (.one (.c (.d (.v (.map (some b))))))):
 Tel n w0 F0 (fun s' l' K'=>s'=⟨(t,.one (.c (.mref s.heap.length)))::s.slots,hset s.heap s.heap.length (.map (eM1 (Value.int .i64) D.v ml))⟩∧l'=l∧K'=[]) s l K:=by
 intro φ F a w h
 obtain⟨hl,es,h2,h3,h4,_⟩:=h.ob _ hK
 have hr:=h.rel.rel
 have hGn:hp s.heap s.heap.length=none:=hp_len s.heap
 have hφ:φ s.heap.length=none:=by
  cases hq:φ s.heap.length with
  |none=>rfl
  |some y=>have:=hr.dom _ y hq;rw[hGn]at this;cases this
 have stp:Stp φ F (hp s.heap) w (upd φ s.heap.length (some (b,0))) F (upd (hp s.heap) s.heap.length (some (.map (eM1 (Value.int .i64) D.v ml)))) w:=by
  refine⟨fun b hF=>⟨hF,rfl⟩,fun j=>?_⟩
  by_cases hj:j=s.heap.length
  ·subst hj;rw[hGn];trivial
  ·rw[upd_ne _ _ hj];exact BStp.same (upd_ne _ _ hj) fun b o hφ=>rfl
 have hup:∀j b' o,upd φ s.heap.length (some (b,0)) j=some (b',o)→(j=s.heap.length∧b'=b∧o=0)∨(j≠s.heap.length∧φ j=some (b',o)):=by
  intro j b' o hj
  by_cases hjj:j=s.heap.length
  ·subst hjj;rw[upd_same]at hj;cases hj;exact .inl ⟨rfl,rfl,rfl⟩
  ·rw[upd_ne _ _ hjj]at hj;exact .inr ⟨hjj,hj⟩
 have e0:hp (hset s.heap s.heap.length (.map (eM1 (Value.int .i64) D.v ml)))=upd (hp s.heap) s.heap.length (some (.map (eM1 (Value.int .i64) D.v ml))):=hp_hset _ _ _
 have hrel:Rel (upd φ s.heap.length (some (b,0))) F (upd (hp s.heap) s.heap.length (some (.map (eM1 (Value.int .i64) D.v ml)))) w:=by
  refine⟨fun j bl hj=>?_,fun j y hy=>?_,fun i j b1 o b2 o' hi hj hbb=>?_,fun b1 hF=>⟨(hr.frz b1 hF).1,fun j b' o hj=>?_⟩⟩
  ·by_cases hj':j=s.heap.length
   ·subst hj';rw[upd_same]at hj;cases hj
    exact⟨b,es,c,upd_same _ _ _,h2,h3,h4.ents⟩
   ·rw[upd_ne _ _ hj']at hj
    exact BRep.mono stp (upd_ne _ _ hj') (fun _ _ _=>rfl) (hr.blk j bl hj)
  ·by_cases hj:j=s.heap.length
   ·subst hj;simp
   ·rw[upd_ne _ _ hj]at hy⊢;exact hr.dom j y hy
  ·subst hbb
   rcases hup i _ _ hi with⟨a1,a2,_⟩|⟨a1,a2⟩<;>rcases hup j _ _ hj with⟨c1,c2,_⟩|⟨c1,c2⟩
   ·rw[a1,c1]
   ·subst a2;exact(hl.nn _ _ c2).elim
   ·subst c2;exact(hl.nn _ _ a2).elim
   ·exact hr.inj i j _ _ _ _ a2 c2 rfl
  ·rcases hup j _ _ hj with⟨_,a2,_⟩|⟨_,a2⟩
   ·subst a2;exact fun e=>hl.nf (e▸hF)
   ·exact(hr.frz b1 hF).2 j b' o a2
 have hal:Al (upd φ s.heap.length (some (b,0))) F w w0.heap.size l:=by
  obtain⟨xs,g1,g2⟩:=h.asr.al.ex
  refine⟨⟨xs,fun i e hi=>?_,g2⟩⟩
  have ho:=g1 i e hi
  refine⟨ho.val,ho.blk,fun b1 o hx=>?_⟩
  obtain⟨q1,q2,q3,q4⟩:=ho.out b1 o hx
  refine⟨q1,q2,q3,fun k o' hk=>?_⟩
  rcases hup k _ _ hk with⟨_,a2,_⟩|⟨_,a2⟩
  ·subst a2
   rcases ho.blk with⟨e1,_⟩|⟨b2,o2,cs,T,e1,e2,_⟩
   ·rw[e1]at hx;cases hx
   ·rw[e1]at hx;cases hx
    exact hl.nc cs T (0,0) e2
  ·exact q4 k o' a2
 refine⟨_,_,_,upd φ s.heap.length (some (b,0)),F,⟨rfl,rfl,rfl⟩,.nil (h.asr.re (K':=[]) (by rw[e0];exact stp) (by rw[e0];exact hrel) (fun t' av hav=>?_) hal (fun y hy=>by cases hy) (fun k b1 o hk=>?_) h.asr.frz)⟩
 ·rw[e0]
  simp only[lk_cons]at hav
  split at hav
  ·rename_i htt;subst htt;cases hav
   have hv:=h.rel.slot t' _ ht
   have hv':DRep w F (.v (.map (some b))) (a.tmps.getD t' undef):=hv
   generalize a.tmps.getD t' undef=v at hv'
   cases hv'
   exact⟨_,b,upd_same _ _ _,upd_same _ _ _,rfl⟩
  ·exact(h.rel.slot t' av hav).mono stp
 ·rcases hup k _ _ hk with⟨_,a2,_⟩|⟨_,a2⟩
  ·subst a2;exact hl.lo
  ·exact h.asr.own k b1 o a2
theorem Tel.sub{K':Fks}(hK:∀x∈K',x∈K):Tel n w0 F0 (fun s1 l1 K1=>s1=s∧l1=l∧K1=K') s l K:=fun φ F _ _ h=>
 ⟨s,l,K',φ,F,⟨rfl,rfl,rfl⟩,⟨h.asr,fun x hx=>h.ob x (hK x hx)⟩⟩
variable {P:Program} {T:St→List (Option AE)→Fks→Prop} {st:AStep}
theorem VS.tell{J:St→List (Option AE)→Fks→Prop}{steps:List AStep}(h:Tel n w0 F0 J s l K)(h2:∀s' l' K',J s' l' K'→VS P n w0 F0 steps T s' l' K'):VS P n w0 F0 steps T s l K:=by
 intro ops mask Q rest0 os k h1 h3 h4 φ F a w hs hQ
 obtain⟨s',l',K',φ',F',hJ,h5⟩:=h φ F a w hs
 exact h2 s' l' K' hJ ops mask Q rest0 os k h1 h3 h4 φ' F' a w h5 hQ
theorem VS.ext{d d' i:Nat}{L:List A1}{x:A1}(hst:st.op= .ext (.t d') i)(hg:st.guard=none)(hd:st.dst=some d)(hs:lk s.slots d'=some (.tup L))(hi:L[i]? =some x)
 (h:T ⟨(d,.one x)::s.slots,s.heap⟩ l K):VS P n w0 F0 [st] T s l K:=by
 refine VS.ops (K1:=fun s'=>s'=⟨(d,.one x)::s.slots,s.heap⟩) ?_ (fun s' e=>by subst e;exact Tel.refl h)
 simp only[vcOps,hg,hst,opS,op1,opA,op0,St.ev,hs,hi,hd,St.apply]
 rfl
theorem VS.mv{d d':Nat}{v:AV}(hst:st.op= .mv (.t d'))(hg:st.guard=none)(hd:st.dst=some d)(hs:lk s.slots d'=some v)
 (h:T ⟨(d,v)::s.slots,s.heap⟩ l K):VS P n w0 F0 [st] T s l K:=by
 refine VS.ops (K1:=fun s'=>s'=⟨(d,v)::s.slots,s.heap⟩) ?_ (fun s' e=>by subst e;exact Tel.refl h)
 simp only[vcOps,hg,hst,opS,op1,opA,op0,St.ev,hs,hd,St.apply]
 rfl
end
section
variable {P:Program}
theorem callD_vb{f:FuncId}{A:AFn}(hf:afn P f=some A.er){args:List A1}{H':List (Option Blk)}{res:List A1}(hlen:args.length≤A.ntmps)
 (h:∀w0 F0,VB P A.ntmps w0 F0 A.code (fun e s _ _=>endQ 0 A.rvs res H' e s) ⟨argSlots 0 args,[]⟩ [] []):CallD P f args [] (tupV res) H':=by
 refine callD_of (A:=⟨A.ntmps,A.rvs,.sem A.code⟩) (H:=[]) hf hlen ?_
 show WpC P A.ntmps 0 A.code (endQ 0 A.rvs res H') ⟨argSlots 0 args,[]⟩
 intro c hc φ F a w hs
 have hφ:∀id,φ id=none:=fun id=>by
  cases h:φ id with
  |none=>rfl
  |some y=>have:=hs.rel.dom id y h;simp[hp]at this
 have h0:BS A.ntmps w F ⟨argSlots 0 args,[]⟩ [] [] a w φ F:= .nil ⟨hs,Al.nil _ _ _ _,(fun x hx=>by cases hx),Nat.le_refl _,fun _ _=>rfl,(fun id b o hi=>by rw[hφ id]at hi;cases hi),fun b hb=> .inl hb,fun b hb=>hb,Io.refl _⟩
 refine wp_mono (h w F c hc φ F a w h0) fun e a' w' hx=>?_
 have go:∀e,(∃s l K φ' F',endQ 0 A.rvs res H' e s∧BS A.ntmps w F s l K a' w' φ' F')→Post A.ntmps 0 φ F ⟨argSlots 0 args,[]⟩ w (endQ 0 A.rvs res H' e) a' w':=by
  rintro e ⟨s1,l1,K1,φ1,F1,h1,⟨h2,_⟩⟩
  refine⟨s1,φ1,F1,h1,h2.rel,⟨h2.size,fun b hb _=>h2.rest b hb,fun id b o hi=> .inr (h2.own id b o hi),fun b hb=>(h2.frz b hb).imp id .inr,h2.io⟩,⟨fun b hb=>⟨h2.mono b hb,h2.rest b (hs.rel.frz b hb).1⟩,fun id hid=>by omega⟩⟩
 cases e with
 |normal=>exact go _ hx
 |exit id=>exact go _ hx
 |ret=>exact go _ hx
 |_=>exact hx.elim
end
end Go.Fw
namespace Go.Fw
section
variable {P:Program} {s:St} {K:Out→Prop}
theorem t_mgetR{id:Nat}{zero a:A1}{m k:O}{key:Int}{R:List (Value×A1)}(hm:s.evC m=some (.mref id))(hH:hp s.heap id=some (.map R))(hkk:s.evV k=some (.int .i64 key))(ha:allK 0 R=true)
 (hf:(mfind (.int .i64 key) R).getD zero=a) (hk:K ⟨some (.one a),[]⟩):s1 P (.mget 0 false zero m k) s K:=by
 rw[s1_mget,hm]
 simp only[hH,hkk]
 refine⟨⟨rfl,ha⟩,?_⟩
 simp only[mres,Bool.false_eq_true,if_false,hf]
 exact hk
def noneM{κ α:Type}[DecidableEq κ](k:κ)(l:List (κ×α)):Option Unit:=match getM k l with
 |none=>some ()
 |some _=>none
theorem noneM_some{κ α:Type}[DecidableEq κ]{k:κ}{l:List (κ×α)}{u:Unit}(h:noneM k l=some u):getM k l=none:=by
 unfold noneM at h;split at h
 ·assumption
 ·cases h
theorem t_mget1E{κ α:Type}[DecidableEq κ]{kd id:Nat}{zero:A1}{m k:O}{ek:κ→Value}{key:κ}{l:List (κ×α)}{enc:α→D}{y:α}(h:KK ek kd)(hm:s.evC m=some (.mref id))(hH:hp s.heap id=some (.map (eM1 ek enc l)))(hkk:s.evV k=some (ek key))
 (hy:getM key l=some y) (hk:K ⟨some (.one (.c (.d (enc y)))),[]⟩):s1 P (.mget kd false zero m k) s K:=by
 rw[s1_mget,hm]
 simp only[hH,hkk]
 refine⟨⟨h.k _,allK_1 h⟩,?_⟩
 rw[mfind_1 h,hy]
 exact hk
theorem t_mget1N{κ α:Type}[DecidableEq κ]{kd id:Nat}{zero:A1}{m k:O}{ek:κ→Value}{key:κ}{l:List (κ×α)}{enc:α→D}{u:Unit}(h:KK ek kd)(hm:s.evC m=some (.mref id))(hH:hp s.heap id=some (.map (eM1 ek enc l)))(hkk:s.evV k=some (ek key))
 (hy:noneM key l=some u) (hk:K ⟨some (.one zero),[]⟩):s1 P (.mget kd false zero m k) s K:=by
 rw[s1_mget,hm]
 simp only[hH,hkk]
 refine⟨⟨h.k _,allK_1 h⟩,?_⟩
 rw[mfind_1 h,noneM_some hy]
 exact hk
end
section
variable {n:Nat} {w0:World} {F0:Nat→Prop} {s:St} {l:List (Option AE)} {K:Fks}
variable {P:Program} {T:St→List (Option AE)→Fks→Prop} {st:AStep}
theorem VS.msetN{o:Nat}{m' k' v':O}{k:Int}{d:D}{R:List (Value×A1)}(hst:st.op= .mset 0 m' k' v')(hg:st.guard=none)(hd:st.dst=none)(hm:s.evC m'=some (.mref o))(hG:hp s.heap o=some (.map R))(hk:s.evV k'=some (.int .i64 k))
 (hv:s.ev v'=some (.one (.c (.d d)))) (ha:allK 0 R=true) (h:T ⟨s.slots,hset s.heap o (.map (mput (.int .i64 k) (.c (.d d)) R))⟩ l K):VS P n w0 F0 [st] T s l K:=by
 refine VS.ops (K1:=fun s'=>s'=⟨s.slots,hset s.heap o (.map (mput (.int .i64 k) (.c (.d d)) R))⟩) ?_ (fun s' e=>by subst e;exact Tel.refl h)
 simp only[vcOps,hg,hst,opS,op1,hm,hG,hk,hv,hd,St.apply]
 exact⟨⟨rfl,ha,rfl⟩,rfl⟩
theorem VS.addI{d d':Nat}{y:O}{a b:Int}(hst:st.op= .bin .add (.t d') y)(hg:st.guard=none)(hd:st.dst=some d)(hx:s.evV (.t d')=some (.int .i64 a))(hy:s.evV y=some (.int .i64 b))
 (h:T ⟨(d,.one (.c (.d (.v (.int .i64 (IntKind.i64.wrap (a+b)))))))::s.slots,s.heap⟩ l K):VS P n w0 F0 [st] T s l K:=by
 refine VS.ops (K1:=fun s'=>s'=⟨(d,.one (.c (.d (.v (.int .i64 (IntKind.i64.wrap (a+b)))))))::s.slots,s.heap⟩) ?_ (fun s' e=>by subst e;exact Tel.refl h)
 simp only[vcOps,hg,hst,opS,op1,opA,op0,hx,hy,hd,St.apply,binK]
 exact⟨trivial,rfl⟩
theorem VS.cons{r:List AStep}(h:VS P n w0 F0 [st] (fun s' l' K'=>VS P n w0 F0 r T s' l' K') s l K):VS P n w0 F0 (st::r) T s l K:=VS.append (s1:=[st]) h
theorem piece_q{m:Nat}{ops:List AStep}{Q:XT→St→Prop}(h:sK P n m (.regd ops) [] Q s):vcD P s.heap ops 0 s.slots [] fun s'=>Q .normal s':=by
 rw[sK_eq]at h;exact h
end
end Go.Fw
