/- The plain law. -/
import Derived.Test.YtedgocbpegllaaaEP
import Derived.Test.YtedgocbpegllaaaFP
import Derived.KernelRfl
set_option linter.unusedVariables false
set_option linter.unusedSimpArgs false
namespace Go.Proofs.Ytedgocbpegllaaa
open Go Go.Fw
set_option maxRecDepth 100000
set_option linter.unusedVariables false
set_option linter.unusedSimpArgs false
section
variable {α:Type}
def S(c:α→Int)(l:List α):Prop:=l.Pairwise fun a b=>c b≤0→c a<0
def plc(c:α→Int):List α→Nat
 |[]=>0
 |y::l=>if c y<0 then plc c l+1 else 0
theorem plc_le(c:α→Int):∀l,plc c l≤l.length
 |[]=>Nat.le_refl _
 |y::l=>by have:=plc_le c l;unfold plc;split<;>simp<;>omega
theorem plc_iff{c:α→Int}:∀{l:List α},S c l→∀i (h:i<l.length),c l[i]<0↔i<plc c l
 |[],_,i,h=>absurd h (by simp)
 |y::l,hs,0,h=>by
  unfold plc
  by_cases hc:c y<0<;>simp[hc]
 |y::l,hs,i+1,h=>by
  have hs2:=List.pairwise_cons.1 hs
  have ih:=plc_iff hs2.2 i (by simpa using h)
  simp only[List.getElem_cons_succ]
  unfold plc
  by_cases hc:c y<0
  ·rw[if_pos hc,ih];omega
  ·rw[if_neg hc]
   exact⟨fun hi=>absurd (hs2.1 _ (List.getElem_mem (by simpa using h)) (Int.le_of_lt hi)) hc,fun hi=>by omega⟩
def mid(a b:Int):Int:=IntKind.i64.wrap (shrV .u64 (IntKind.u64.wrap (IntKind.i64.wrap (a+b))) 1)
theorem mid_eq{a b:Nat}(h:a+b≤4000000):mid (a:Int) (b:Int)=(((a+b)/2:Nat):Int):=by
 unfold mid shrV
 rw[show IntKind.i64.wrap ((a:Int)+b)=(a:Int)+b from wrapI (by omega) (by omega)]
 have e:IntKind.u64.wrap ((a:Int)+b)=((a+b:Nat):Int):=by simp[IntKind.wrap,IntKind.bits,IntKind.signed];omega
 rw[e]
 have e2:((a+b:Nat):Int).fdiv (2^(min (1:Int).toNat IntKind.u64.bits))=(((a+b)/2:Nat):Int):=by
  show((a+b:Nat):Int).fdiv 2=_
  rw[Int.fdiv_eq_ediv_of_nonneg _ (by omega)];omega
 rw[e2,wrapI (by omega) (by omega)]
def bsL(c:α→Int)(xs:List α):Nat→Int→Int→Option Int
 |0,_,_=>none
 |k+1,a,b=>if a<b then(rdI xs (mid a b)).bind fun y=>if c y<0 then bsL c xs k (IntKind.i64.wrap (mid a b+1)) b else bsL c xs k a (mid a b)else some a
theorem bsL_spec{c:α→Int}{xs:List α}(hs:S c xs)(hl:xs.length≤1000000):∀(k a b:Nat),b-a<k→a≤plc c xs→plc c xs≤b→b≤xs.length→bsL c xs k (a:Int) (b:Int)=some (plc c xs:Int)
 |0,a,b,h,_,_,_=>by omega
 |k+1,a,b,h,h1,h2,h3=>by
  unfold bsL
  by_cases hab:a<b
  ·have hm:(a+b)/2<xs.length:=by omega
   rw[if_pos (by omega),mid_eq (by omega),rdI_at hm,Option.bind_some]
   have hi:=plc_iff hs ((a+b)/2) hm
   by_cases hc:c xs[(a+b)/2]<0
   ·rw[if_pos hc]
    have e:IntKind.i64.wrap ((((a+b)/2:Nat):Int)+1)=(((a+b)/2+1:Nat):Int):=wrapN (by omega)
    rw[e]
    exact bsL_spec hs hl k _ b (by omega) (by have:=hi.1 hc;omega) h2 h3
   ·rw[if_neg hc]
    exact bsL_spec hs hl k a _ (by omega) h1 (by have:=mt hi.2 hc;omega) (by omega)
  ·rw[if_neg (by omega)];congr 1;omega
def hasC(c:α→Int)(l:List α):Bool:=l.any fun y=>decide (c y=0)
theorem hasC_cons(c:α→Int)(y:α)(l:List α):hasC c (y::l)=(decide (c y=0)||hasC c l):=by simp[hasC]
theorem hasC_gt{c:α→Int}{l:List α}(h:∀y∈l,0<c y):hasC c l=false:=by
 simp only[hasC,List.any_eq_false,decide_eq_true_eq]
 intro y hy;have:=h y hy;omega
theorem find_at{c:α→Int}:∀{l:List α},S c l→((l[plc c l]?).map fun y=>decide (c y=0)).getD false=hasC c l
 |[],_=>rfl
 |y::l,hs=>by
  have hs2:=List.pairwise_cons.1 hs
  have ih:=find_at hs2.2
  rw[hasC_cons]
  unfold plc
  by_cases hc:c y<0
  ·rw[if_pos hc,List.getElem?_cons_succ,ih];simp;omega
  ·rw[if_neg hc]
   simp only[List.getElem?_cons_zero,Option.map_some,Option.getD_some]
   rw[hasC_gt];·simp
   intro z hz
   have:=hs2.1 z hz
   omega
theorem find_t{c:α→Int}{l:List α}(hs:S c l):(if(plc c l:Int)<(l.length:Int)then(rdI l (plc c l:Int)).bind fun y=>some (decide (c y=0))else some false)=some (hasC c l):=by
 have h:=find_at hs
 by_cases hp:plc c l<l.length
 ·rw[if_pos (by omega),rdI_at hp,Option.bind_some]
  rw[List.getElem?_eq_getElem hp]at h
  simp only[Option.map_some,Option.getD_some]at h
  rw[h]
 ·rw[if_neg (by omega)]
  rw[List.getElem?_eq_none (by omega)]at h
  simp only[Option.map_none,Option.getD_none]at h
  rw[←h]
def insC(c:α→Int)(x:α):List α→List α
 |[]=>[x]
 |y::l=>if c y<0 then y::insC c x l else x::y::l
theorem insC_plc(c:α→Int)(x:α):∀l,l.take (plc c l)++x::l.drop (plc c l)=insC c x l
 |[]=>rfl
 |y::l=>by
  unfold insC plc
  split
  ·rw[←insC_plc c x l];simp
  ·simp
theorem insC_len(c:α→Int)(x:α)(l:List α):(insC c x l).length=l.length+1:=by
 rw[←insC_plc];have:=plc_le c l;simp;omega
theorem insC_mem(c:α→Int)(x z:α):∀l,z∈insC c x l↔z=x∨z∈l
 |[]=>by simp[insC]
 |y::l=>by
  have:=insC_mem c x z l
  unfold insC
  split
  ·simp only[List.mem_cons,this];exact⟨fun h=>h.elim (fun h=> .inr (.inl h)) fun h=>h.elim .inl fun h=> .inr (.inr h),fun h=>h.elim (fun h=> .inr (.inl h)) fun h=>h.elim .inl fun h=> .inr (.inr h)⟩
  ·simp
theorem insC_pw{R:α→α→Prop}{c:α→Int}{x:α}(ht:∀a b d,R a b→R b d→R a d):∀{l:List α},(∀y∈l,c y<0→R y x)→(∀y∈l,¬c y<0→R x y)→l.Pairwise R→(insC c x l).Pairwise R
 |[],_,_,_=>by simp[insC]
 |y::l,h1,h2,hp=>by
  have hp2:=List.pairwise_cons.1 hp
  unfold insC
  split
  ·rename_i hc
   refine List.pairwise_cons.2 ⟨fun z hz=>?_,insC_pw ht (fun z hz=>h1 z (List.mem_cons_of_mem _ hz)) (fun z hz=>h2 z (List.mem_cons_of_mem _ hz)) hp2.2⟩
   rcases(insC_mem c x z l).1 hz with rfl|hz
   ·exact h1 y (List.mem_cons_self ..) hc
   ·exact hp2.1 z hz
  ·rename_i hc
   have hxy:=h2 y (List.mem_cons_self ..) hc
   refine List.pairwise_cons.2 ⟨fun z hz=>?_,hp⟩
   rcases List.mem_cons.1 hz with rfl|hz
   ·exact hxy
   ·exact ht _ _ _ hxy (hp2.1 z hz)
end
theorem scmp_neg(a b:ByteArray):scmp a b<0↔lt a b:=by
 unfold scmp
 by_cases h:lt a b
 ·simp[h]
 ·rw[if_neg h]
  by_cases h2:a=b
  ·rw[if_pos h2];simp[h]
  ·rw[if_neg h2];simp[h]
theorem scmp_zero(a b:ByteArray):scmp a b=0↔a=b:=by
 unfold scmp
 by_cases h:lt a b
 ·simp[h,lt_ne h]
 ·rw[if_neg h]
  by_cases h2:a=b<;>simp[h2]
theorem scmp_np(a b:ByteArray):scmp a b≤0↔lt a b∨a=b:=by
 rw[←scmp_neg,←scmp_zero];omega
theorem exb{α β:Type}{e:Option α}{f:α→Option β}(h:∃a,e=some a)(hf:∀a,e=some a→∃r,f a=some r):∃r,e.bind f=some r:=by
 obtain⟨a,ha⟩:=h;obtain⟨r,hr⟩:=hf a ha;exact⟨r,by rw[ha];exact hr⟩
theorem exif{α:Type}{p:Prop}[Decidable p]{a b:Option α}(h1:p→∃r,a=some r)(h2:¬p→∃r,b=some r):∃r,(if p then a else b)=some r:=by
 by_cases h:p
 ·rw[if_pos h];exact h1 h
 ·rw[if_neg h];exact h2 h
theorem exmap{α β:Type}{e:Option α}{f:α→β}(h:∃a,e=some a):∃r,e.map f=some r:=by
 obtain⟨a,ha⟩:=h;exact⟨f a,by rw[ha];rfl⟩
theorem exck{p:Prop}[Decidable p](h:p):∃r,ck p=some r:=⟨(),ck_t h⟩
theorem byI_ex{b:ByteArray}{i:Int}(h:0≤i)(h2:i<b.size):∃y,byI b i=some y:=by
 obtain⟨n,rfl⟩:∃n:Nat,i=n:=⟨i.toNat,by omega⟩
 have hs:n<b.size:=by omega
 exact⟨(b[n].toNat:Int),by unfold byI;rw[if_pos (by omega)];simp[hs]⟩
theorem rdI_ex{α:Type}{l:List α}{i:Int}(h:0≤i)(h2:i<l.length):∃y,rdI l i=some y:=by
 obtain⟨n,rfl⟩:∃n:Nat,i=n:=⟨i.toNat,by omega⟩
 exact⟨_,rdI_at (by omega)⟩
theorem apI_ex{α:Type}{xs ys:List α}(h:xs.length+ys.length≤4294967290):∃y,apI xs ys=some y:=⟨_,apI_t h⟩
theorem rdI_val{α:Type}{l:List α}{i:Nat}{y:α}(h:l[i]? =some y):rdI l (i:Int)=some y:=by rw[rdI_nat];exact h
theorem drop_hd{α:Type}{l:List α}{i:Nat}{x:α}{xs:List α}(e:l.drop i=x::xs):l[i]? =some x:=by rw[←List.head?_drop,e];rfl
theorem drop_tl{α:Type}{l:List α}{i:Nat}{x:α}{xs:List α}(e:l.drop i=x::xs):l.drop (i+1)=xs:=by
 rw[←List.drop_drop,e];rfl
theorem set_same{α:Type}:∀{l:List α} {i:Nat} {x:α},l[i]? =some x→l.set i x=l
 |[],_,_,h=>by simp at h
 |y::l,0,x,h=>by simp at h;simp[h]
 |y::l,i+1,x,h=>by simp at h;simp[set_same h]
theorem cl_t{α:Type}{l:List α}(h:l.length≤4294967290):cloneI l=some l:=if_pos h
theorem catI_t{a b:ByteArray}(h:a.size+b.size≤9223372036854775807):catI a b=some (a++b):=if_pos h
theorem bsize(a b:ByteArray):(a++b).size=a.size+b.size:=ByteArray.size_append
theorem wr_p{i:Nat}(h:0<(i:Int))(h2:i≤4294967296):IntKind.i64.wrap ((i:Int)-1)=((i-1:Nat):Int):=by rw[wrapI (by omega) (by omega)];omega
theorem wL_mem{α:Type}{w:α→Nat}{x:α}:∀{l:List α},x∈l→w x+1≤wL w l
 |[],h=>by cases h
 |y::l,h=>by
  unfold wL
  simp only[List.map_cons,List.sum_cons]
  rcases List.mem_cons.1 h with rfl|h
  ·omega
  ·have:=wL_mem (w:=w) h;unfold wL at this;omega
open Go Go.Fw
set_option maxRecDepth 100000
set_option linter.unusedVariables false
set_option linter.unusedSimpArgs false
def keyB(m:Meta):ByteArray:=(((m.Kind++(⟨#[47]⟩:ByteArray))++m.Namespace)++(⟨#[47]⟩:ByteArray))++m.Name
theorem sl1:(⟨#[47]⟩:ByteArray).size=1:=rfl
theorem KeyOf_t{m:Meta}(h:m.Kind.size+m.Namespace.size+m.Name.size≤4000000):F26 m=some (keyB m):=by
 rw[F26,F59,catI_t (by rw[sl1];omega),Option.bind_some,catI_t (by rw[bsize,sl1];omega),Option.bind_some,catI_t (by rw[bsize,bsize,sl1];omega),Option.bind_some,catI_t (by rw[bsize,bsize,bsize,sl1];omega)]
 rfl
theorem rKeyOf_t{m:Meta}(h:m.Kind.size+m.Namespace.size+m.Name.size≤4000000):F20 m=some (keyB m):=KeyOf_t h
theorem lget_l1(k:ByteArray):∀(l:List Label) (i:Nat),∃r,F75_l1 k l i=some r
 |[],i=>⟨_,by rw[F75_l1]⟩
 |x::l,i=>by
  rw[F75_l1]
  have ih:=lget_l1 k l (i+1)
  repeat'(first|exact⟨_,rfl⟩|exact ih|exact exck (by omega)|exact byI_ex (by omega) (by omega)|exact rdI_ex (by omega) (by omega)|exact apI_ex (by omega)|with_reducible refine exif (fun _=>?_) (fun _=>?_)|with_reducible refine exb ?_ (fun _ _=>?_)|with_reducible refine exmap ?_|split)
theorem lget_ex{l:List Label}(k:ByteArray)(hl:l.length≤4000000):∃r,F75 l k=some r:=by
 rw[F75]
 have g:=lget_l1 k l 0
 repeat'(first|exact⟨_,rfl⟩|exact g|exact exck (by omega)|exact byI_ex (by omega) (by omega)|exact rdI_ex (by omega) (by omega)|exact apI_ex (by omega)|with_reducible refine exif (fun _=>?_) (fun _=>?_)|with_reducible refine exb ?_ (fun _ _=>?_)|with_reducible refine exmap ?_|split)
theorem idx_l1(k:ByteArray):∀(l:List ByteArray) (i:Nat),∃r,F80_l1 k l i=some r
 |[],i=>⟨_,by rw[F80_l1]⟩
 |x::l,i=>by
  rw[F80_l1]
  have ih:=idx_l1 k l (i+1)
  repeat'(first|exact⟨_,rfl⟩|exact ih|exact exck (by omega)|exact byI_ex (by omega) (by omega)|exact rdI_ex (by omega) (by omega)|exact apI_ex (by omega)|with_reducible refine exif (fun _=>?_) (fun _=>?_)|with_reducible refine exb ?_ (fun _ _=>?_)|with_reducible refine exmap ?_|split)
theorem cont_ex{l:List ByteArray}(k:ByteArray)(hl:l.length≤4000000):∃r,F76 l k=some r:=by
 rw[F76,F80]
 have g:=idx_l1 k l 0
 repeat'(first|exact⟨_,rfl⟩|exact g|exact exck (by omega)|exact byI_ex (by omega) (by omega)|exact rdI_ex (by omega) (by omega)|exact apI_ex (by omega)|with_reducible refine exif (fun _=>?_) (fun _=>?_)|with_reducible refine exb ?_ (fun _ _=>?_)|with_reducible refine exmap ?_|split)
theorem holds_ex{r:Requirement}{l:List Label}(h1:r.Values.length≤4000000)(hl:l.length≤4000000):∃b,F70 r l=some b:=by
 rw[F70]
 have g:=lget_ex r.Key hl
 have g2:=fun k=>cont_ex (l:=r.Values) k h1
 repeat'(first|exact⟨_,rfl⟩|exact g|exact g2 _|exact exck (by omega)|exact byI_ex (by omega) (by omega)|exact rdI_ex (by omega) (by omega)|exact apI_ex (by omega)|with_reducible refine exif (fun _=>?_) (fun _=>?_)|with_reducible refine exb ?_ (fun _ _=>?_)|with_reducible refine exmap ?_|split)
theorem mat_l1{l:List Label}(hl:l.length≤4000000):∀(sel:List Requirement) (i:Nat),(∀r∈sel,r.Values.length≤4000000)→∃b,F61_l1 l sel i=some b
 |[],i,_=>⟨_,by rw[F61_l1]⟩
 |x::sel,i,h=>by
  rw[F61_l1]
  have ih:=mat_l1 hl sel (i+1) fun r hr=>h r (List.mem_cons_of_mem _ hr)
  have g:=holds_ex (h x (List.mem_cons_self ..)) hl
  repeat'(first|exact⟨_,rfl⟩|exact ih|exact g|exact exck (by omega)|exact byI_ex (by omega) (by omega)|exact rdI_ex (by omega) (by omega)|exact apI_ex (by omega)|with_reducible refine exif (fun _=>?_) (fun _=>?_)|with_reducible refine exb ?_ (fun _ _=>?_)|with_reducible refine exmap ?_|split)
def selOk(sel:List Requirement):Prop:=sel.length≤4000000∧∀r∈sel,r.Values.length≤4000000
def matB(sel:List Requirement)(l:List Label):Bool:=(F61 sel l).getD false
theorem mat_t{sel:List Requirement}{l:List Label}(h:selOk sel)(hl:l.length≤4000000):F61 sel l=some (matB sel l):=by
 have:∃b,F61 sel l=some b:=by
  rw[F61]
  have g:=mat_l1 hl sel 0 h.2
  have:=h.1
  repeat'(first|exact⟨_,rfl⟩|exact g|exact exck (by omega)|exact byI_ex (by omega) (by omega)|exact rdI_ex (by omega) (by omega)|exact apI_ex (by omega)|with_reducible refine exif (fun _=>?_) (fun _=>?_)|with_reducible refine exb ?_ (fun _ _=>?_)|with_reducible refine exmap ?_|split)
 obtain⟨b,hb⟩:=this
 unfold matB;rw[hb];rfl
theorem rlget_l1(k:ByteArray):∀(l:List Label) (i:Nat),F77_l1 k l i=F75_l1 k l i
 |[],i=>by rw[F77_l1,F75_l1]
 |x::l,i=>by rw[F77_l1,F75_l1,rlget_l1 k l]
theorem rlget(l:List Label)(k:ByteArray):F77 l k=F75 l k:=by
 rw[F77,F75]
 simp only[rlget_l1]<;>rfl
theorem among_l1(k:ByteArray):∀(l:List ByteArray) (i:Nat),(k∈l→F78_l1 k l i=some (.inl true)∧∃j:Nat,i≤j∧j<i+l.length∧F80_l1 k l i=some (.inl (j:Int)))∧(k∉l→F78_l1 k l i=some (.inr ())∧F80_l1 k l i=some (.inr ()))
 |[],i=>⟨fun h=>(by cases h),fun _=>⟨by rw[F78_l1],by rw[F80_l1]⟩⟩
 |x::l,i=>by
  rw[F78_l1,F80_l1]
  obtain⟨a,b⟩:=among_l1 k l (i+1)
  by_cases hx:x=k
  ·subst hx
   simp only[if_true]
   exact⟨fun _=>⟨rfl,i,by omega,by simp,rfl⟩,fun h=>(h (List.mem_cons_self ..)).elim⟩
  ·have hk:¬k=x:=fun e=>hx e.symm
   simp only[hx,hk,if_false]
   refine⟨fun h=>?_,fun h=>?_⟩
   ·have h2:k∈l:=(List.mem_cons.1 h).resolve_left hk
    obtain⟨c,j,j1,j2,d⟩:=a h2
    exact⟨c,j,by omega,by simp only[List.length_cons];omega,d⟩
   ·have h2:k∉l:=fun hh=>h (List.mem_cons_of_mem _ hh)
    exact b h2
theorem among_eq(l:List ByteArray)(k:ByteArray):F78 l k=F76 l k:=by
 rw[F78,F76,F80]
 obtain⟨a,b⟩:=among_l1 k l 0
 by_cases hk:k∈l
 ·obtain⟨c,j,j1,j2,d⟩:=a hk
  rw[c,d]
  unfold ck
  split
  ·simp
  ·rfl
 ·obtain⟨c,d⟩:=b hk
  rw[c,d]
  unfold ck
  split
  ·simp
  ·rfl
theorem rholds_eq(r:Requirement)(l:List Label):F72 r l=F70 r l:=by
 rw[F72,F70,rlget]
 congr 1;funext t
 simp only[among_eq]
 by_cases h1:r.Op=1
 ·simp only[if_pos h1]
 by_cases h2:r.Op=2
 ·simp only[if_neg h1,if_pos h2]
 by_cases h3:r.Op=3
 ·have h4:¬r.Op=4:=by omega
  simp only[if_neg h1,if_neg h2,if_pos h3,if_neg h4]
  cases t.2<;>rfl
 simp only[if_neg h1,if_neg h2,if_neg h3]
 split<;>rfl
theorem rmat_l1(l:List Label):∀(sel:List Requirement) (i:Nat),F65_l1 l sel i=F61_l1 l sel i
 |[],i=>by rw[F65_l1,F61_l1]
 |x::sel,i=>by rw[F65_l1,F61_l1,rholds_eq,rmat_l1 l sel]
theorem rmat_eq(sel:List Requirement)(l:List Label):F65 sel l=F61 sel l:=by
 rw[F65,F61]
 simp only[rmat_l1]<;>rfl
structure MW(m:Meta):Prop where
 key:m.Kind.size+m.Namespace.size+m.Name.size≤4000000
 labels:m.Labels.length≤4000000
 owners:m.Owners.length≤4000000
 fins:m.Finalizers.length≤4000000
 mans:m.Managers.length≤4000000
 man:∀x∈m.Managers,x.Fields.length≤4000000
theorem mW{m:Meta}(h:wMeta m≤4000000):MW m:=by
 unfold wMeta at h
 have a1:=wL_len (w:=wLabel) (fun a=>by unfold wLabel;omega) m.Labels
 have a2:=wL_len (w:=wOwner) (fun a=>by unfold wOwner;omega) m.Owners
 have a3:=wL_len (w:=wS) (fun a=>by unfold wS;omega) m.Finalizers
 have a4:=wL_len (w:=wManager) (fun a=>by unfold wManager;omega) m.Managers
 refine⟨?_,by omega,by omega,by omega,by omega,fun x hx=>?_⟩
 ·unfold wS at h;omega
 ·have b1:=wL_mem (w:=wManager) hx
  unfold wManager at b1
  have b2:=wL_len (w:=wS) (fun a=>by unfold wS;omega) x.Fields
  unfold wManager at h
  omega
open Go Go.Fw
set_option maxRecDepth 100000
set_option linter.unusedVariables false
set_option linter.unusedSimpArgs false
def dis(l:List WorkItem)(k:ByteArray):Bool:=l.any fun x=>decide (x.Key=k)
def sel(b:Budget)(p:Pod):Bool:=decide (b.Meta.Namespace=p.Meta.Namespace)&&matB b.Selector p.Meta.Labels
def act(p:Pod):Bool:=(decide (p.Status.Phase=0)||decide (p.Status.Phase=1))&& !p.Meta.Deleting
def hea(p:Pod):Bool:=p.Status.Ready&&act p
structure BW(b:Budget):Prop where
 m:MW b.Meta
 s:selOk b.Selector
 d:b.Disrupted.length≤2000000
 mi:b.MinAvailable.length≤4000000
 ma:b.MaxUnavailable.length≤4000000
theorem bW{b:Budget}(h:wBudget b≤1500000):BW b:=by
 unfold wBudget at h
 have a1:=wL_len (w:=wRequirement) (fun a=>by unfold wRequirement;omega) b.Selector
 have a2:=wL_len (w:=wAmount) (fun a=>by unfold wAmount;omega) b.MinAvailable
 have a3:=wL_len (w:=wAmount) (fun a=>by unfold wAmount;omega) b.MaxUnavailable
 have a4:=wL_len (w:=wWorkItem) (fun a=>by unfold wWorkItem;omega) b.Disrupted
 refine⟨mW (by omega),⟨by omega,fun r hr=>?_⟩,by omega,by omega,by omega⟩
 have b1:=wL_mem (w:=wRequirement) hr
 unfold wRequirement at b1
 have b2:=wL_len (w:=wS) (fun a=>by unfold wS;omega) r.Values
 unfold wRequirement at h
 omega
theorem pW{p:Pod}(h:wPod p≤1500000):MW p.Meta:=mW (by unfold wPod at h;omega)
theorem bWs{l:List Budget}(h:wL wBudget l≤1500000):∀b∈l,BW b:=fun b hb=>bW (by have:=wL_mem (w:=wBudget) hb;omega)
theorem pWs{l:List Pod}(h:wL wPod l≤1500000):∀p∈l,MW p.Meta:=fun p hp=>pW (by have:=wL_mem (w:=wPod) hp;omega)
theorem sel_t{b:Budget}{p:Pod}(hb:BW b)(hp:MW p.Meta):F29 b p=some (sel b p):=by
 rw[F29,mat_t hb.s hp.labels,sel]
 by_cases h:b.Meta.Namespace=p.Meta.Namespace<;>simp[h]
theorem rsel_t{b:Budget}{p:Pod}(hb:BW b)(hp:MW p.Meta):F35 b p=some (sel b p):=by
 rw[F35,rmat_eq,mat_t hb.s hp.labels,sel]
 by_cases h:b.Meta.Namespace=p.Meta.Namespace<;>simp[h]
theorem act_t(p:Pod):F42 p=some (act p):=by
 rw[F42,act]
 by_cases h:p.Status.Phase=0<;>by_cases h2:p.Status.Phase=1<;>simp[h,h2,nb_not]
theorem ract_t(p:Pod):F47 p=some (act p):=by
 rw[F47,act]
 by_cases h:p.Status.Phase=0<;>by_cases h2:p.Status.Phase=1<;>simp[h,h2,nb_not]
theorem hea_t(p:Pod):F30 p=some (hea p):=by
 rw[F30,act_t,hea]
 cases p.Status.Ready<;>rfl
theorem rhea_t(p:Pod):F36 p=some (hea p):=by
 rw[F36,ract_t,hea]
 cases act p<;>cases p.Status.Ready<;>rfl
theorem dis_l1(k:ByteArray):∀(l:List WorkItem) (i:Nat),(dis l k=true→∃j:Nat,F60_l1 k l i=some (.inl (j:Int)))∧(dis l k=false→F60_l1 k l i=some (.inr ()))
 |[],i=>⟨fun h=>(by cases h),fun _=>(by rw[F60_l1])⟩
 |x::l,i=>by
  have ih:=dis_l1 k l (i+1)
  rw[F60_l1,F63,Option.bind_some]
  by_cases h:x.Key=k
  ·rw[if_pos h]
   exact⟨fun _=>⟨i,rfl⟩,fun hd=>by simp[dis,h]at hd⟩
  ·rw[if_neg h]
   have e:dis (x::l) k=dis l k:=by simp[dis,h]
   rw[e];exact ih
theorem dis_t{l:List WorkItem}(k:ByteArray)(hl:l.length≤4000000):F62 l k=some (dis l k):=by
 rw[F62,F60,ck_t (by omega),Option.bind_some]
 have h:=dis_l1 k l 0
 cases hd:dis l k with
 |true=>obtain⟨j,hj⟩:=h.1 hd;rw[hj];simp
 |false=>rw[h.2 hd];rfl
theorem dis31{b:Budget}(k:ByteArray)(hb:BW b):F31 b k=some (dis b.Disrupted k):=by
 rw[F31,dis_t k (by have:=hb.d;omega)];rfl
theorem rdis_l1(k:ByteArray):∀(l:List WorkItem) (i:Nat),F37_l1 k l i=some (if dis l k=true then .inl true else .inr ())
 |[],i=>by rw[F37_l1];rfl
 |x::l,i=>by
  rw[F37_l1]
  by_cases h:x.Key=k
  ·rw[if_pos h];simp[dis,h]
  ·rw[if_neg h,rdis_l1 k l (i+1)];simp[dis,h]
theorem rdis_t{l:List WorkItem}(k:ByteArray)(hl:l.length≤4000000):F37 l k=some (dis l k):=by
 rw[F37,ck_t (by omega),Option.bind_some,rdis_l1]
 cases dis l k<;>rfl
theorem key_t{p:Pod}(h:MW p.Meta):F26 p.Meta=some (keyB p.Meta):=KeyOf_t h.key
theorem rkey_t{m:Meta}(h:MW m):F20 m=some (keyB m):=rKeyOf_t h.key
theorem mans_l5(o:List Manager)(ho:∀x∈o,x.Fields.length≤4000000):∀(xs:List Manager) (i:Nat),o.drop i=xs→F24_l5 xs i o=some o
 |[],i,_=>by rw[F24_l5]
 |x::xs,i,e=>by
  have hx:=drop_hd e
  rw[F24_l5,rdI_val hx,Option.bind_some,cl_t (by have:=ho x (List.mem_of_getElem? hx);omega),Option.bind_some,Option.bind_some,Int.toNat_natCast]
  rw[set_same hx]
  exact mans_l5 o ho xs (i+1) (drop_tl e)
theorem reqs_l12(o:List Requirement)(ho:∀x∈o,x.Values.length≤4000000):∀(xs:List Requirement) (i:Nat),o.drop i=xs→F24_l12 xs i o=some o
 |[],i,_=>by rw[F24_l12]
 |x::xs,i,e=>by
  have hx:=drop_hd e
  rw[F24_l12,rdI_val hx,Option.bind_some,cl_t (by have:=ho x (List.mem_of_getElem? hx);omega),Option.bind_some,Option.bind_some,Int.toNat_natCast]
  rw[set_same hx]
  exact reqs_l12 o ho xs (i+1) (drop_tl e)
def parts(b:Budget):(List Label)×(List Owner)×(List ByteArray)×(List Manager)×(List Requirement)×(List Amount)×(List Amount)×(List WorkItem):=
 (b.Meta.Labels,b.Meta.Owners,b.Meta.Finalizers,b.Meta.Managers,b.Selector,b.MinAvailable,b.MaxUnavailable,b.Disrupted)
theorem copy_t{b:Budget}(h:BW b):F24 b=some (parts b):=by
 have h1:=h.m;have h2:=h1.labels;have h3:=h1.owners;have h4:=h1.fins;have h5:=h1.mans;have h6:=h.s.1;have h7:=h.d;have h8:=h.mi;have h9:=h.ma
 rw[F24,cl_t (by omega),Option.bind_some,cl_t (by omega),Option.bind_some,cl_t (by omega),Option.bind_some,cl_t (by omega),Option.bind_some,ck_t (by omega),Option.bind_some,mans_l5 _ h1.man _ 0 (List.drop_zero ..),Option.bind_some,
  cl_t (by omega),Option.bind_some,ck_t (by omega),Option.bind_some,reqs_l12 _ h.s.2 _ 0 (List.drop_zero ..),Option.bind_some,cl_t (by omega),Option.bind_some,cl_t (by omega),Option.bind_some,cl_t (by omega),Option.bind_some]
 rfl
theorem copies_t:∀{l:List Budget},(∀b∈l,BW b)→F14copy l=some l
 |[],_=>rfl
 |b::l,h=>by
  rw[F14copy,copy_t (h b (List.mem_cons_self ..)),Option.bind_some,copies_t (l:=l) fun x hx=>h x (List.mem_cons_of_mem _ hx)];rfl
theorem hv_l6(b:Budget)(hl:b.Selector.length≤4000000):∀(m k i:Nat),b.Selector.length≤i+m→i≤4000000→m<k→∃r,F8_l6 b k (i:Int)=some r
 |0,k+1,i,h1,_,_=>by rw[F8_l6,if_neg (by omega)];exact⟨_,rfl⟩
 |m+1,k+1,i,h1,h2,h3=>by
  rw[F8_l6]
  by_cases hi:(i:Int)<(b.Selector.length:Int)
  ·rw[if_pos hi,wrapN (by omega),rdI_at (by omega),Option.bind_some]
   have ih:=hv_l6 b hl m k (i+1) (by omega) (by omega) (by omega)
   split
   ·exact⟨_,rfl⟩
   ·exact ih
  ·rw[if_neg hi];exact⟨_,rfl⟩
theorem hv_l1:∀(l:List Budget) (i:Nat),(∀b∈l,BW b)→∃r,F8_l1 l i=some r
 |[],i,_=>⟨_,by rw[F8_l1]⟩
 |x::l,i,h=>by
  have hx:=h x (List.mem_cons_self ..)
  rw[F8_l1]
  have ih:=hv_l1 l (i+1) fun b hb=>h b (List.mem_cons_of_mem _ hb)
  have g:=hv_l6 x hx.s.1 x.Selector.length 1099511627776 0 (by omega) (by omega) (by have:=hx.s.1;omega)
  repeat'(first|exact⟨_,rfl⟩|exact ih|exact g|exact exck (by omega)|exact byI_ex (by omega) (by omega)|exact rdI_ex (by omega) (by omega)|exact apI_ex (by omega)|with_reducible refine exif (fun _=>?_) (fun _=>?_)|with_reducible refine exb ?_ (fun _ _=>?_)|with_reducible refine exmap ?_|split)
theorem hv_l11:∀(l:List Pod) (i:Nat),∃r,F8_l11 l i=some r
 |[],i=>⟨_,by rw[F8_l11]⟩
 |x::l,i=>by
  rw[F8_l11]
  have ih:=hv_l11 l (i+1)
  repeat'(first|exact⟨_,rfl⟩|exact ih|exact exck (by omega)|exact byI_ex (by omega) (by omega)|exact rdI_ex (by omega) (by omega)|exact apI_ex (by omega)|with_reducible refine exif (fun _=>?_) (fun _=>?_)|with_reducible refine exb ?_ (fun _ _=>?_)|with_reducible refine exmap ?_|split)
theorem heavy_ex{l:List Budget}{pods:List Pod}(h:∀b∈l,BW b)(hl:l.length≤4000000)(hp:pods.length≤4000000):∃r,F8 l pods=some r:=by
 rw[F8]
 have g1:=hv_l1 l 0 h
 have g2:=hv_l11 pods 0
 repeat'(first|exact⟨_,rfl⟩|exact g1|exact g2|exact exck (by omega)|exact byI_ex (by omega) (by omega)|exact rdI_ex (by omega) (by omega)|exact apI_ex (by omega)|with_reducible refine exif (fun _=>?_) (fun _=>?_)|with_reducible refine exb ?_ (fun _ _=>?_)|with_reducible refine exmap ?_|split)
theorem awake_t:F9=some true:=by rfl
open Go Go.Fw
set_option maxRecDepth 100000
set_option linter.unusedVariables false
set_option linter.unusedSimpArgs false
theorem get_put{α:Type}(k k':ByteArray)(v:α):∀l:List (ByteArray×α),getM k (putM k' v l)=if k'=k then some v else getM k l
 |[]=>by rw[putM,getM];rfl
 |e::r=>by
  rw[putM]
  by_cases h:e.1=k'
  ·rw[if_pos h,getM,getM]
   by_cases h2:k'=k
   ·rw[if_pos h2,if_pos h2]
   ·rw[if_neg h2,if_neg h2,if_neg (by rw[h];exact h2)]
  ·rw[if_neg h,getM,getM,get_put k k' v r]
   by_cases h2:e.1=k
   ·rw[if_pos h2,if_pos h2,if_neg (fun h3=>h (h2.trans h3.symm))]
   ·rw[if_neg h2,if_neg h2]
def stay(pods:List Pod)(k:ByteArray):Bool:=pods.any fun p=>decide (keyB p.Meta=k)&& !p.Meta.Deleting
theorem there_l3:∀(l:List Pod) (i:Nat) (m:List (ByteArray×Bool)),(∀p∈l,MW p.Meta)→∃m',F11_l3 l i m=some m'∧∀k,(getM k m').getD false=((getM k m).getD false||stay l k)
 |[],i,m,_=>⟨m,by rw[F11_l3],fun k=>by simp[stay]⟩
 |p::l,i,m,h=>by
  rw[F11_l3]
  have hp:=h p (List.mem_cons_self ..)
  have hr:=fun x hx=>h x (List.mem_cons_of_mem p hx)
  cases hd:p.Meta.Deleting with
  |true=>
   obtain⟨m',h1,h2⟩:=there_l3 l (i+1) m hr
   refine⟨m',by simpa[nb_not]using h1,fun k=>?_⟩
   rw[h2];simp[stay,hd]
  |false=>
   obtain⟨m',h1,h2⟩:=there_l3 l (i+1) (putM (keyB p.Meta) true m) hr
   refine⟨m',by simp only[nb_not,Bool.not_false,if_true];rw[key_t hp];exact h1,fun k=>?_⟩
   rw[h2,get_put]
   by_cases hk:keyB p.Meta=k
   ·simp[stay,hd,hk]
   ·simp[stay,hd,hk]
def clampT(n:Int):Int:=if(1000000000000:Int)<(if n<0 then 0 else n)then(1000000000000:Int)else(if n<0 then 0 else n)
theorem clampT_b(n:Int):0≤clampT n∧clampT n≤1000000000000:=by unfold clampT;split<;>(try split)<;>omega
def gone(pods:List Pod)(t:Int)(x:WorkItem):Bool:= !(stay pods x.Key)||decide (x.At<t-120)
theorem gone_t{pods:List Pod}{m:List (ByteArray×Bool)}{t:Int}(hm:∀k,(getM k m).getD false=stay pods k)(ht:0≤t∧t≤1000000000000)(x:WorkItem):F28 x t m=some (gone pods t x):=by
 rw[F28,hm,wrapI (by omega) (by omega),gone,nb_not]
 cases stay pods x.Key<;>simp
theorem find_v1{t:Int}{m:List (ByteArray×Bool)}{g:WorkItem→Bool}(hg:∀x,F28 x t m=some (g x))(o:List WorkItem):∀(xs:List WorkItem) (i:Nat),o.drop i=xs→
 (xs.all (fun x=> !g x)=true→F60v1_l1 t m o xs i=some (.inr ()))∧(xs.all (fun x=> !g x)=false→∃a x b,xs=a++x::b∧a.all (fun x=> !g x)=true∧g x=true∧F60v1_l1 t m o xs i=some (.inl ((i+a.length:Nat):Int)))
 |[],i,_=>⟨fun _=>(by rw[F60v1_l1]),fun h=>(by cases h)⟩
 |x::xs,i,e=>by
  have hx:=drop_hd e
  have ih:=find_v1 hg o xs (i+1) (drop_tl e)
  rw[F60v1_l1,rdI_val hx,Option.bind_some,hg,Option.bind_some]
  cases hgx:g x with
  |true=>
   refine⟨fun h=>?_,fun _=>⟨[],x,xs,rfl,rfl,hgx,by simp⟩⟩
   simp[hgx]at h
  |false=>
   simp only[Bool.false_eq_true,if_false]
   refine⟨fun h=>ih.1 (by simpa[hgx]using h),fun h=>?_⟩
   obtain⟨a,y,b,h1,h2,h3,h4⟩:=ih.2 (by simpa[hgx]using h)
   refine⟨x::a,y,b,by rw[h1];rfl,by simpa[hgx]using h2,h3,?_⟩
   rw[h4];simp only[List.length_cons];congr 3;omega
theorem del_l3{t:Int}{m:List (ByteArray×Bool)}{g:WorkItem→Bool}(hg:∀x,F28 x t m=some (g x)):∀(r:List WorkItem) (k:Nat) (a c:List WorkItem),a.length+c.length+r.length≤2000000→0<c.length→r.length<k→
 ∃c',F27_l3 t m k (a++c++r) (a.length:Nat) ((a.length+c.length:Nat):Int)=some (a++r.filter (fun x=> !g x)++c',((a.length+(r.filter (fun x=> !g x)).length:Nat):Int))∧(r.filter (fun x=> !g x)).length+c'.length=c.length+r.length
 |[],k+1,a,c,h1,h2,h3=>by
  refine⟨c,?_,by simp⟩
  rw[F27_l3,if_neg (by simp<;>omega)]
  simp
 |x::r,k+1,a,c,h1,h2,h3=>by
  obtain⟨c0,c,rfl⟩:∃c0 c1,c=c0::c1:=by cases c with
   |nil=>simp at h2
   |cons c0 c1=>exact⟨c0,c1,rfl⟩
  simp only[List.length_cons]at h1 h3
  rw[F27_l3,if_pos (by simp<;>omega)]
  have hx:(a++c0::c++x::r)[a.length+(c0::c).length]? =some x:=by
   rw[←List.length_append,List.getElem?_append_right (Nat.le_refl _),Nat.sub_self];rfl
  have h0:(a++c0::c++x::r)[a.length]? =some c0:=by
   rw[List.append_assoc,List.getElem?_append_right (Nat.le_refl _),Nat.sub_self];rfl
  rw[rdI_val hx,Option.bind_some,hg,Option.bind_some]
  cases hgx:g x with
  |true=>
   have ih:=del_l3 hg r k a (c0::c++[x]) (by simp;omega) (by simp) (by omega)
   obtain⟨c',h4,h5⟩:=ih
   refine⟨c',?_,by simp[hgx]at h5⊢;omega⟩
   simp only[nb_not,Bool.not_true,Bool.false_eq_true,if_false,Option.bind_some]
   rw[wrapN (by simp;omega)]
   simp only[List.filter_cons,hgx,Bool.not_true,Bool.false_eq_true,if_false]
   simp only[List.length_append,List.length_cons,List.length_nil,List.append_assoc,List.cons_append,List.nil_append,Nat.zero_add]at h4⊢
   rw[show a.length+(c.length+1)+1=a.length+(c.length+1+1)by omega,h4]
  |false=>
   have ih:=del_l3 hg r k (a++[x]) (c++[x]) (by simp;omega) (by simp) (by omega)
   obtain⟨c',h4,h5⟩:=ih
   refine⟨c',?_,by simp[hgx]at h5⊢;omega⟩
   simp only[nb_not,Bool.not_false,if_true]
   rw[rdI_val h0,Option.bind_some,Option.bind_some]
   simp only[]
   rw[wrapN (by omega),wrapN (by simp;omega),Int.toNat_natCast]
   have hs:(a++c0::c++x::r).set a.length x=a++[x]++(c++[x])++r:=by
    rw[List.append_assoc,List.set_append_right _ _ (Nat.le_refl _),Nat.sub_self];simp
   rw[hs]
   simp only[List.filter_cons,hgx,Bool.not_false,if_true]
   simp only[List.length_append,List.length_cons,List.length_nil,List.append_assoc,List.cons_append,List.nil_append,Nat.zero_add]at h4⊢
   rw[show a.length+(c.length+1)+1=a.length+1+(c.length+1)by omega,h4]
   congr 3;omega
theorem clrL_take{α:Type}(l:List α)(i n:Nat)(z:α)(h:i≤l.length):(clrL l i n z).take i=l.take i:=by
 unfold clrL
 rw[List.append_assoc,List.take_append_of_le_length (by simp;omega),List.take_take,Nat.min_self]
theorem del_t{t:Int}{m:List (ByteArray×Bool)}{g:WorkItem→Bool}(hg:∀x,F28 x t m=some (g x)){l:List WorkItem}(hl:l.length≤2000000):F27 l t m=some (l.filter fun x=> !g x):=by
 have h:=find_v1 hg l l 0 (List.drop_zero ..)
 rw[F27,F60v1,ck_t (by omega),Option.bind_some]
 cases ha:l.all (fun x=> !g x)with
 |true=>
  rw[h.1 ha]
  simp only[Option.bind_some,if_true]
  rw[List.filter_eq_self.2 (by simpa using ha)]
 |false=>
  obtain⟨a,x,b,h1,h2,h3,h4⟩:=h.2 ha
  rw[h4]
  simp only[Option.bind_some,Nat.zero_add]
  rw[if_neg (by omega),wrapN (by rw[h1]at hl;simp at hl;omega)]
  subst h1
  obtain⟨c',h5,h6⟩:=del_l3 hg b 1099511627776 a [x] (by simp at hl⊢;omega) (by simp) (by simp at hl;omega)
  have e1:a++x::b=a++[x]++b:=by simp
  have e2:((a.length+1:Nat):Int)=((a.length+[x].length:Nat):Int):=rfl
  rw[e2,e1,h5,Option.bind_some]
  simp only[]
  have hf:(a++[x]++b).filter (fun x=> !g x)=a++b.filter (fun x=> !g x):=by
   rw[List.filter_append,List.filter_append,List.filter_eq_self.2 (by simpa using h2)];simp[h3]
  rw[hf]
  generalize hw:b.filter (fun x=> !g x)=w at h5 h6⊢
  rw[slI_t (by simp<;>omega) (by simp),Option.bind_some]
  rw[show(0:Int)=((0:Nat):Int)from rfl,slI_t (Nat.zero_le _) ?_]
  ·simp only[Option.bind_some,Int.toNat_natCast,List.drop_zero,Nat.sub_zero]
   rw[clrL_take _ _ _ _ (by simp)]
   congr 1
   rw[←List.length_append,List.take_left]
  ·unfold clrL
   simp only[Int.toNat_natCast,List.length_append,List.length_take,List.length_drop,List.length_replicate]
   simp only[List.length_append]at*
   omega
open Go Go.Fw
set_option maxRecDepth 100000
set_option linter.unusedVariables false
set_option linter.unusedSimpArgs false
def clampN(n:Int):Int:=if(1000000000000000:Int)<(if n<0 then 0 else n)then(1000000000000000:Int)else(if n<0 then 0 else n)
theorem clampN_b(n:Int):0≤clampN n∧clampN n≤1000000000000000:=by unfold clampN;split<;>(try split)<;>omega
theorem mul_b{a b c:Int}(ha:0≤a)(hac:a≤c)(hb:0≤b):0≤a*b∧a*b≤c*b:=⟨Int.mul_nonneg ha hb,Int.mul_le_mul_of_nonneg_right hac hb⟩
theorem res_ex(a:Amount)(n:Int)(u:Bool):∃r,F64 a n u=some r∧0≤r∧r≤1000000000000000:=by
 have key:∀z:Int,0≤(if(1000000000000000:Int)<(if z<0 then 0 else z)then(1000000000000000:Int)else(if z<0 then 0 else z))∧(if(1000000000000000:Int)<(if z<0 then 0 else z)then(1000000000000000:Int)else(if z<0 then 0 else z))≤1000000000000000:=clampN_b
 have hex:∃r,F64 a n u=some r:=by
  rw[F64,F71,F71]
  repeat'(first|exact⟨_,rfl⟩|exact exck (by omega)|exact exck (by omega)|exact byI_ex (by omega) (by omega)|exact rdI_ex (by omega) (by omega)|exact apI_ex (by omega)|with_reducible refine exif (fun _=>?_) (fun _=>?_)|with_reducible refine exb ?_ (fun _ _=>?_)|with_reducible refine exmap ?_|split)
 obtain⟨r,hr⟩:=hex
 refine⟨r,hr,?_⟩
 rw[F64,F71,F71]at hr
 have hN:=key a.N
 have hE:=key n
 generalize (if(1000000000000000:Int)<(if a.N<0 then 0 else a.N)then(1000000000000000:Int)else(if a.N<0 then 0 else a.N))=N at hr hN
 generalize (if(1000000000000000:Int)<(if n<0 then 0 else n)then(1000000000000000:Int)else(if n<0 then 0 else n))=E at hr hE
 simp only[Option.bind_some]at hr
 rw[Int.tdiv_eq_ediv_of_nonneg hE.1,Int.tmod_eq_emod_of_nonneg hE.1]at hr
 split at hr
 ·cases hr;exact hN
 ·obtain⟨o4,ho4,hr⟩:=Option.bind_eq_some_iff.1 hr
  have hq:0≤E/100∧E/100≤10000000000000:=by omega
  have hm:0≤E%100∧E%100≤99:=by omega
  generalize E/100=q at hr ho4 hq
  generalize E%100=m at hr hm
  rw[wrapI (n:=q) (by omega) (by omega)]at hr ho4
  split at hr
  ·cases hr;omega
  ·rename_i h4
   have hqn:0≤q*N∧q*N≤1000000000000000:=by
    refine⟨Int.mul_nonneg hq.1 hN.1,?_⟩
    by_cases h0:0<q
    ·rw[if_pos h0,ck_t (by omega),Option.bind_some,Int.tdiv_eq_ediv_of_nonneg (by omega)]at ho4
     have h5:1000000000000000/q≤1000000000000000:=Int.ediv_le_self _ (by omega)
     have h6:0≤1000000000000000/q:=Int.ediv_nonneg (by omega) hq.1
     rw[wrapI (by omega) (by omega)]at ho4
     have h7:N≤1000000000000000/q:=by
      cases ho4
      simpa using h4
     rw[Int.mul_comm]
     exact(Int.le_ediv_iff_mul_le h0).1 h7
    ·have:q=0:=by omega
     rw[this];simp
   have hmn:=mul_b hm.1 hm.2 hN.1
   obtain⟨o8,ho8,hr⟩:=Option.bind_eq_some_iff.1 hr
   have hb8:0≤o8∧o8≤99000000000000099:=by
    rw[wrapI (n:=m*N) (by omega) (by omega)]at ho8
    split at ho8
    ·cases ho8;rw[wrapI (by omega) (by omega)];omega
    ·cases ho8;omega
   have hd:0≤o8.tdiv 100∧o8.tdiv 100≤1000000000000000:=by rw[Int.tdiv_eq_ediv_of_nonneg hb8.1];omega
   cases hr
   rw[wrapI (n:=q*N) (by omega) (by omega),wrapI (n:=o8.tdiv 100) (by omega) (by omega),wrapI (by omega) (by omega)]
   split<;>omega
def want(b:Budget)(e:Int):Int:=match b.MinAvailable,b.MaxUnavailable with
 |a::_,_=>(F64 a e true).getD 0
 |[],a::_=>if e-(F64 a e true).getD 0<0 then 0 else e-(F64 a e true).getD 0
 |[],[]=>0
theorem want_b(b:Budget){e:Int}(he:0≤e∧e≤1000000000000000):0≤want b e∧want b e≤1000000000000000:=by
 unfold want
 cases b.MinAvailable with
 |cons a _=>
  obtain⟨r,h1,h2⟩:=res_ex a e true
  simp only[h1];exact h2
 |nil=>
  cases b.MaxUnavailable with
  |cons a _=>
   obtain⟨r,h1,h2⟩:=res_ex a e true
   simp only[h1,Option.getD_some]
   split<;>omega
  |nil=>simp
theorem want_t{b:Budget}(he:0≤b.Expected∧b.Expected≤1000000000000000):F32 b=some (want b b.Expected):=by
 rw[F32,want]
 cases h1:b.MinAvailable with
 |cons a r=>
  obtain⟨r,h2,h3⟩:=res_ex a b.Expected true
  simp[rdI,h2]
 |nil=>
  cases h2:b.MaxUnavailable with
  |cons a r=>
   obtain⟨r,h3,h4⟩:=res_ex a b.Expected true
   simp[rdI,h3]
   rw[wrapI (by omega) (by omega)]
  |nil=>simp
def items(b:Budget)(pods:List Pod)(now:Int):List WorkItem:=b.Disrupted.filter fun x=> !(gone pods (clampT now) x)
def cntB(b:Budget)(d:List WorkItem)(p:Pod):Bool:=sel b p&&(hea p&& !(dis d (keyB p.Meta)))
theorem cnt_l11{b:Budget}(hb:BW b){d:List WorkItem}(hd:d.length≤2000000)(e:Int):∀(l:List Pod) (i n:Nat),(∀p∈l,MW p.Meta)→n+l.length≤4000000→F11_l11 (parts b) d b e l i (n:Int)=some ((n+(l.filter (cntB b d)).length:Nat):Int)
 |[],i,n,_,_=>by rw[F11_l11];simp
 |p::l,i,n,h,hl=>by
  have hp:=h p (List.mem_cons_self ..)
  have hr:=fun x hx=>h x (List.mem_cons_of_mem p hx)
  simp only[List.length_cons]at hl
  rw[F11_l11,sel_t hb hp,hea_t,key_t hp,wrapN (by omega)]
  have ih1:=cnt_l11 hb hd e l (i+1) (n+1) hr (by omega)
  have ih0:=cnt_l11 hb hd e l (i+1) n hr (by omega)
  simp only[Option.bind_some,F31,dis_t (keyB p.Meta) (show d.length≤4000000 by omega),List.filter_cons,cntB]
  rcases Bool.eq_false_or_eq_true (sel b p)with g1|g1<;>rcases Bool.eq_false_or_eq_true (hea p)with g2|g2<;>rcases Bool.eq_false_or_eq_true (dis d (keyB p.Meta))with g3|g3<;>simp only[g1,g2,g3,Bool.and_false,Bool.and_true,Bool.true_and,Bool.false_and,Bool.not_true,Bool.not_false,nb_not,if_true,if_false,Bool.false_eq_true,Option.bind_some,List.length_cons]<;>
   first|exact ih0|(rw[ih1];congr 2;omega)
structure St where
 healthy:Int
 desired:Int
 allowed:Int
 gone:List WorkItem
def stat(b:Budget)(pods:List Pod)(e now:Int):St:=
 ⟨((pods.filter (cntB b (items b pods now))).length:Int),want b (clampN e),if((pods.filter (cntB b (items b pods now))).length:Int)-want b (clampN e)<0 then 0 else((pods.filter (cntB b (items b pods now))).length:Int)-want b (clampN e),items b pods now⟩
theorem items_len(b:Budget)(pods:List Pod)(now:Int):(items b pods now).length≤b.Disrupted.length:=List.length_filter_le ..
theorem status_t{b:Budget}{pods:List Pod}{e now:Int}(hb:BW b)(hp:∀p∈pods,MW p.Meta)(hl:pods.length≤4000000):
 F11 b pods e now=some (b.Meta.Labels,b.Meta.Owners,b.Meta.Finalizers,b.Meta.Managers,b.Selector,b.MinAvailable,b.MaxUnavailable,(stat b pods e now).healthy,(stat b pods e now).desired,(stat b pods e now).allowed,(stat b pods e now).gone):=by
 obtain⟨m,hm,hm2⟩:=there_l3 pods 0 [] hp
 have hm3:∀k,(getM k m).getD false=stay pods k:=fun k=>by rw[hm2];simp[getM]
 have hd:=items_len b pods now
 have hbd:=hb.d
 rw[F11,copy_t hb,Option.bind_some,F25,Option.bind_some,ck_t (by omega),Option.bind_some,hm,Option.bind_some]
 have hdel:=del_t (gone_t hm3 (clampT_b now)) (l:=b.Disrupted) (by omega)
 unfold clampT at hdel
 have e1:(parts b).2.2.2.2.2.2.2=b.Disrupted:=rfl
 rw[e1,hdel,Option.bind_some,F25,Option.bind_some,Option.bind_some]
 have hc:=cnt_l11 hb (d:=items b pods now) (by omega) e pods 0 0 hp (by omega)
 have e2:b.Disrupted.filter (fun x=> !gone pods (if(1000000000000:Int)<(if now<0 then 0 else now)then(1000000000000:Int)else(if now<0 then 0 else now)) x)=items b pods now:=rfl
 rw[e2]
 rw[show((0:Nat):Int)=0 from rfl]at hc
 rw[hc,Option.bind_some,Nat.zero_add]
 have hf:=List.length_filter_le (cntB b (items b pods now)) pods
 rw[want_t (clampN_b e),Option.bind_some]
 have hw:=want_b b (clampN_b e)
 show some (_,_,_,_,_,_,_,_,want b (clampN e),(if IntKind.i64.wrap (_-want b (clampN e))<0 then 0 else IntKind.i64.wrap (_-want b (clampN e))),_)=_
 rw[wrapI (by omega) (by omega)]
 rfl
open Go Go.Fw
set_option maxRecDepth 100000
set_option linter.unusedVariables false
set_option linter.unusedSimpArgs false
def setS(b:Budget)(e:Int)(s:St):Budget:=⟨b.Meta,b.Selector,b.MinAvailable,b.MaxUnavailable,b.Meta.Generation,s.healthy,s.desired,clampN e,s.allowed,s.gone⟩
theorem len_w{α:Type}{w:α→Nat}(hw:∀a,1≤w a){l:List α}{n:Nat}(h:wL w l≤n):l.length≤n:=by have:=wL_len hw l;omega
theorem wPod_pos(p:Pod):1≤wPod p:=by unfold wPod;omega
theorem wBudget_pos(b:Budget):1≤wBudget b:=by unfold wBudget;omega
open Go Go.Fw
set_option maxRecDepth 100000
set_option linter.unusedVariables false
set_option linter.unusedSimpArgs false
def cW(k:ByteArray)(x:WorkItem):Int:=scmp x.Key k
def SW(l:List WorkItem):Prop:=l.Pairwise fun a b=>lt a.Key b.Key
theorem S_of{l:List WorkItem}(h:SW l)(k:ByteArray):S (cW k) l:=by
 refine List.Pairwise.imp ?_ h
 intro a b hab hb
 rw[cW,scmp_neg]
 rcases(scmp_np b.Key k).1 hb with h1|h1
 ·exact lt_trans hab h1
 ·exact h1▸hab
theorem ord_l3(b:Budget)(hl:b.Disrupted.length≤4000000):∀(m k i:Nat),b.Disrupted.length≤i+m→i≤4000001→m<k→1≤i→∃r,F13_l3 b k (i:Int)=some r∧(r= .inl (.inl false)∨(r= .inr ()∧∀j x y,i≤j→b.Disrupted[j]? =some y→b.Disrupted[j-1]? =some x→lt x.Key y.Key))
 |0,k+1,i,h1,_,_,_=>by
  rw[F13_l3,if_neg (by omega)]
  refine⟨_,rfl,.inr ⟨rfl,fun j x y hj hy _=>?_⟩⟩
  have:=(List.getElem?_eq_some_iff.1 hy).1;omega
 |m+1,k+1,i,h1,h2,h3,h4=>by
  rw[F13_l3]
  by_cases hi:i<b.Disrupted.length
  ·have ih:=ord_l3 b hl m k (i+1) (by omega) (by omega) (by omega) (by omega)
   obtain⟨r,hr,hr2⟩:=ih
   rw[if_pos (by omega),rdI_at hi,Option.bind_some,wr_p (by omega) (by omega),rdI_at (show i-1<b.Disrupted.length by omega),Option.bind_some,bl_le,wrapN (by omega)]
   by_cases hc:lt b.Disrupted[i-1].Key b.Disrupted[i].Key
   ·rw[if_neg (by simpa using hc)]
    refine⟨r,hr,hr2.imp id fun⟨e,h⟩=>⟨e,fun j x y hj hy hx=>?_⟩⟩
    by_cases hji:j=i
    ·subst hji
     rw[List.getElem?_eq_getElem hi]at hy
     rw[List.getElem?_eq_getElem (by omega)]at hx
     cases hy;cases hx;exact hc
    ·exact h j x y (by omega) hy hx
   ·rw[if_pos (by simpa using hc)]
    exact⟨_,rfl,.inl rfl⟩
  ·rw[if_neg (by omega)]
   refine⟨_,rfl,.inr ⟨rfl,fun j x y hj hy _=>?_⟩⟩
   have:=(List.getElem?_eq_some_iff.1 hy).1;omega
theorem SW_adj:∀{l:List WorkItem},(∀(j:Nat) x y,1≤j→l[j]? =some y→l[j-1]? =some x→lt x.Key y.Key)→SW l
 |[],_=>List.Pairwise.nil
 |[x],_=>by simp[SW]
 |x::y::l,h=>by
  have h1:SW (y::l):=SW_adj fun j a b hj hb ha=>by
   refine h (j+1) a b (by omega) (by simpa using hb) ?_
   obtain⟨i,rfl⟩:∃i,j=i+1:=⟨j-1,by omega⟩
   simpa using ha
  have hxy:lt x.Key y.Key:=h 1 x y (by omega) rfl rfl
  refine List.pairwise_cons.2 ⟨fun z hz=>?_,h1⟩
  rcases List.mem_cons.1 hz with rfl|hz
  ·exact hxy
  ·exact lt_trans hxy ((List.pairwise_cons.1 h1).1 z hz)
theorem ord_l1:∀(l:List Budget) (i:Nat),(∀b∈l,b.Disrupted.length≤4000000)→∃r,F13_l1 l i=some r∧(r= .inl false∨r= .inr ()∧∀b∈l,SW b.Disrupted)
 |[],i,_=>⟨_,by rw[F13_l1],.inr ⟨rfl,fun b hb=>by cases hb⟩⟩
 |b::l,i,h=>by
  obtain⟨r,h1,h2⟩:=ord_l3 b (h b (List.mem_cons_self ..)) b.Disrupted.length 1099511627776 1 (by omega) (by omega) (by have:=h b (List.mem_cons_self ..);omega) (Nat.le_refl _)
  obtain⟨r2,h3,h4⟩:=ord_l1 l (i+1) fun x hx=>h x (List.mem_cons_of_mem _ hx)
  rw[F13_l1,show(1:Int)=((1:Nat):Int)from rfl,h1,Option.bind_some]
  rcases h2 with rfl|⟨rfl,h5⟩
  ·exact⟨_,rfl,.inl rfl⟩
  ·refine⟨r2,h3,h4.imp id fun⟨e,h6⟩=>⟨e,fun x hx=>?_⟩⟩
   rcases List.mem_cons.1 hx with rfl|hx
   ·exact SW_adj fun j a c hj=>h5 j a c hj
   ·exact h6 x hx
theorem ord_t{l:List Budget}(h:∀b∈l,b.Disrupted.length≤4000000)(hl:l.length≤4000000):∃r,F13 l=some r∧(r=true→∀b∈l,SW b.Disrupted):=by
 obtain⟨r,h1,h2⟩:=ord_l1 l 0 h
 rw[F13,ck_t (by omega),Option.bind_some,h1,Option.bind_some]
 rcases h2 with rfl|⟨rfl,h3⟩
 ·exact⟨_,rfl,fun h=>by cases h⟩
 ·exact⟨_,rfl,fun _=>h3⟩
theorem cmp_t(a b:ByteArray):F45 a b=some (scmp a b):=by
 rw[F45]
 first|rfl|(rw[F66];rfl)
theorem bs_l1(l:List WorkItem)(it:WorkItem):∀(n:Nat) (a b:Int),F43_l1 l it n a b=bsL (cW it.Key) l n a b
 |0,a,b=>by rw[F43_l1,bsL]
 |n+1,a,b=>by
  rw[F43_l1,bsL]
  have ih:=bs_l1 l it n
  show(if a<b then(rdI l (mid a b)).bind (fun y3=>(F44 y3 it).bind fun t4=>if t4<0 then F43_l1 l it n (IntKind.i64.wrap (mid a b+1)) b else F43_l1 l it n a (mid a b))else some a)=_
  simp only[ih]
  have e:∀y,F44 y it=some (cW it.Key y):=fun y=>by rw[F44,cmp_t];rfl
  simp only[e,Option.bind_some]
theorem bs_t{l:List WorkItem}(it:WorkItem)(hs:SW l)(hl:l.length≤1000000):∃f,F43 l it=some ((plc (cW it.Key) l:Int),f):=by
 have hp:=plc_le (cW it.Key) l
 have h:=bsL_spec (S_of hs it.Key) hl 1099511627776 0 l.length (by omega) (by omega) hp (Nat.le_refl _)
 rw[F43,bs_l1,show(0:Int)=((0:Nat):Int)from rfl,h,Option.bind_some]
 have e:∀y,F44 y it=some (cW it.Key y):=fun y=>by rw[F44,cmp_t];rfl
 have g:=find_t (S_of hs it.Key)
 simp only[e,Option.bind_some]
 rw[show((0:Nat):Int)=0 from rfl,g]
 exact⟨_,rfl⟩
theorem ins_t{l:List WorkItem}(it:WorkItem)(hl:l.length≤1000000):insI l (plc (cW it.Key) l:Int) it=some (insC (cW it.Key) it l):=by
 have hp:=plc_le (cW it.Key) l
 rw[←insC_plc]
 unfold insI
 rw[if_pos (by omega)]
 simp
open Go Go.Fw
set_option maxRecDepth 100000
set_option linter.unusedVariables false
set_option linter.unusedSimpArgs false
def blk(p:Pod)(b:Budget):Bool:=sel b p&&(decide (b.Allowed≤0)&& !(dis b.Disrupted (keyB p.Meta)))
def allow(l:List Budget)(p:Pod):Bool:= !(hea p)|| !(l.any (blk p))
theorem blk_t{b:Budget}{p:Pod}(hb:BW b)(hp:MW p.Meta):F50 b p (keyB p.Meta)=some (blk p b):=by
 rw[F50,sel_t hb hp,dis31 _ hb,blk]
 by_cases h:b.Allowed≤0
 ·rcases Bool.eq_false_or_eq_true (sel b p)with g|g<;>simp[g,h,nb_not]
 ·rcases Bool.eq_false_or_eq_true (sel b p)with g|g<;>simp[g,h,nb_not]
theorem al_l1{p:Pod}(hp:MW p.Meta):∀(l:List Budget) (i:Nat),(∀b∈l,BW b)→(l.any (blk p)=true→∃j:Nat,F69_l1 p (keyB p.Meta) l i=some (.inl (j:Int)))∧(l.any (blk p)=false→F69_l1 p (keyB p.Meta) l i=some (.inr ()))
 |[],i,_=>⟨fun h=>(by cases h),fun _=>(by rw[F69_l1])⟩
 |b::l,i,h=>by
  have ih:=al_l1 hp l (i+1) fun x hx=>h x (List.mem_cons_of_mem _ hx)
  rw[F69_l1,blk_t (h b (List.mem_cons_self ..)) hp,Option.bind_some]
  rcases Bool.eq_false_or_eq_true (blk p b)with g|g
  ·rw[if_pos g]
   exact⟨fun _=>⟨i,rfl⟩,fun hd=>by simp[g]at hd⟩
  ·rw[if_neg (by simp[g])]
   have e:(b::l).any (blk p)=l.any (blk p):=by simp[g]
   rw[e];exact ih
theorem allow_t{l:List Budget}{pods:List Pod}{p:Pod}(hb:∀b∈l,BW b)(hl:l.length≤4000000)(hp:MW p.Meta):F16 l pods p=some (allow l p):=by
 rw[F16,key_t hp,Option.bind_some,hea_t,Option.bind_some,F49,F69,ck_t (by omega),Option.bind_some,allow]
 have h:=al_l1 hp l 0 hb
 rcases Bool.eq_false_or_eq_true (hea p)with g|g
 ·rw[if_neg (by simp[g,nb_not])]
  rcases Bool.eq_false_or_eq_true (l.any (blk p))with g2|g2
  ·obtain⟨j,hj⟩:=h.1 g2;rw[hj,g2];simp[g,nb_not]
  ·rw[h.2 g2,g2];simp[nb_not]
 ·rw[if_pos (by simp[g,nb_not])];simp[g]
theorem idx_yes{k:ByteArray}{p:Pod}(hp:keyB p.Meta=k)(b:List Pod):∀(a:List Pod) (i:Nat),(∀q∈a++p::b,MW q.Meta)→(∀q∈a,keyB q.Meta≠k)→F40_l1 k (a++p::b) i=some (.inl ((i+a.length:Nat):Int))
 |[],i,h,_=>by
  rw[List.nil_append,F40_l1,F41,key_t (h p (List.mem_cons_self ..)),Option.bind_some,Option.bind_some,if_pos (by simpa using hp)];rfl
 |q::a,i,h,hk=>by
  rw[List.cons_append,F40_l1,F41,key_t (h q (List.mem_cons_self ..)),Option.bind_some,Option.bind_some,if_neg (by simpa using hk q (List.mem_cons_self ..)),idx_yes hp b a (i+1) (fun x hx=>h x (List.mem_cons_of_mem _ hx)) fun x hx=>hk x (List.mem_cons_of_mem _ hx)]
  simp only[List.length_cons];congr 3;omega
def chg(p:Pod)(it:WorkItem)(b:Budget):Budget:=if(sel b p&& !(dis b.Disrupted it.Key))=true then F14one b (insC (cW it.Key) it b.Disrupted)else b
def ev(l:List Budget)(p:Pod)(it:WorkItem):List Budget×Int:=
 if act p=false then(l,7)else if allow l p=false then(l,16)else if hea p=false then(l,0)else(l.map (chg p it),0)
theorem rdI_pre{α:Type}{a b:List α}{x:α}:rdI (a++x::b) (a.length:Int)=some x:=rdI_val (by simp)
theorem c3_t{pods:List Pod}{at_:Int}{p:Pod}{b:Budget}{key:ByteArray}{it:WorkItem}(hat:rdI pods at_=some p)(hb:BW b)(hp:MW p.Meta):F14c3 pods key [] at_ it 0 0 b b.Disrupted=some (if(sel b p&& !(dis b.Disrupted key))=true then .inr ()else .inl ()):=by
 rw[F14c3,hat,Option.bind_some]
 show((F29 b p).bind fun t3=>(if nb t3=true then some true else(F31 b key).bind fun t5=>some t5)).bind _=_
 rw[sel_t hb hp,dis31 _ hb]
 rcases Bool.eq_false_or_eq_true (sel b p)with g|g<;>rcases Bool.eq_false_or_eq_true (dis b.Disrupted key)with g2|g2<;>simp[g,g2,nb_not]
theorem loop_t{pods:List Pod}{at_:Int}{p:Pod}{it:WorkItem}(hat:rdI pods at_=some p)(hp:MW p.Meta):∀{l:List Budget},(∀b∈l,BW b∧SW b.Disrupted∧b.Disrupted.length≤1000000)→F14loop pods it.Key at_ it l=some (l.map (chg p it))
 |[],_=>rfl
 |b::l,h=>by
  obtain⟨hb,hs,hd⟩:=h b (List.mem_cons_self ..)
  have ih:=loop_t (it:=it) hat hp (l:=l) fun x hx=>h x (List.mem_cons_of_mem _ hx)
  rw[F14loop,c3_t hat hb hp,Option.bind_some,List.map_cons,chg]
  by_cases hc:(sel b p&& !(dis b.Disrupted it.Key))=true
  ·rw[if_pos hc,if_pos hc]
   obtain⟨f,hf⟩:=bs_t it hs hd
   show(F43 b.Disrupted it).bind _=_
   rw[hf,Option.bind_some,ins_t it hd,Option.bind_some,ih];rfl
  ·rw[if_neg hc,if_neg hc]
   show(F14loop pods it.Key at_ it l).bind _=_
   rw[ih];rfl
structure EW(l:List Budget)(pods:List Pod):Prop where
 b:∀b∈l,BW b
 d:∀b∈l,b.Disrupted.length≤1000000
 p:∀p∈pods,MW p.Meta
 l:l.length≤2000000
 n:pods.length≤2000000
theorem evict_p{l:List Budget}{pods:List Pod}{key:ByteArray}{now:Int}(h:EW l pods){a b:List Pod}{p:Pod}(e:pods=a++p::b)(ha:∀q∈a,keyB q.Meta≠key)(hk:keyB p.Meta=key)(hs:∀b∈l,SW b.Disrupted):
 F14 l pods key now=some (ev l p (F14it key now)):=by
 have hl:=h.l;have hn:=h.n
 have hp:MW p.Meta:=h.p p (by rw[e];simp)
 have hrd:rdI pods (a.length:Int)=some p:=by rw[e];exact rdI_pre
 have hall:∀b∈l,BW b∧SW b.Disrupted∧b.Disrupted.length≤1000000:=fun x hx=>⟨h.b x hx,hs x hx,h.d x hx⟩
 have hlen:pods.length=a.length+(b.length+1):=by rw[e];simp
 have hi:=idx_yes hk b a 0 (by rw[←e];exact h.p) ha
 rw[←e,Nat.zero_add]at hi
 rw[F14,cl_t (by omega),Option.bind_some,ck_t (by omega),Option.bind_some,copies_t h.b,Option.bind_some,F40,ck_t (by omega),Option.bind_some,hi]
 simp only[Option.bind_some]
 rw[F14m2,if_neg (by omega),hrd]
 simp only[Option.bind_some]
 rw[act_t]
 simp only[Option.bind_some]
 rw[allow_t h.b (by omega) hp]
 simp only[Option.bind_some]
 rw[hea_t,ev]
 have hlp:=loop_t (it:=F14it key now) hrd hp hall
 have ek:(F14it key now).Key=key:=rfl
 rw[ek]at hlp
 rcases Bool.eq_false_or_eq_true (act p)with g|g
 ·rcases Bool.eq_false_or_eq_true (allow l p)with g2|g2
  ·rcases Bool.eq_false_or_eq_true (hea p)with g3|g3
   ·simp[g,g2,g3,nb_not,F25,hlp]
   ·simp[g,g2,g3,nb_not]
  ·simp[g,g2,nb_not]
 ·simp[g,nb_not]
open Go Go.Fw
set_option maxRecDepth 100000
set_option linter.unusedVariables false
set_option linter.unusedSimpArgs false
theorem wsum3{α:Type}{w:α→Nat}(hw:∀a,3≤w a):∀l:List α,3*l.length≤(l.map w).sum
 |[]=>by simp
 |a::l=>by have:=wsum3 hw l;have:=hw a;simp;omega
theorem wD{b:Budget}:3*b.Disrupted.length≤wBudget b:=by
 have h:=wsum3 (w:=wWorkItem) (fun a=>by unfold wWorkItem wS wN;omega) b.Disrupted
 unfold wBudget wL;omega
theorem eW{l:List Budget}{pods:List Pod}(h:wL wBudget l+wL wPod pods≤1048576):EW l pods:=by
 have h1:=len_w wBudget_pos (l:=l) (n:=1048576) (by omega)
 have h2:=len_w wPod_pos (l:=pods) (n:=1048576) (by omega)
 refine⟨bWs (by omega),fun b hb=>?_,pWs (by omega),by omega,by omega⟩
 have:=wL_mem (w:=wBudget) hb
 have:=@wD b
 omega
theorem ap_l3(pods:List Pod)(h:∀p∈pods,MW p.Meta)(x:Pod)(hx:MW x.Meta)(i:Nat)(hi:i≤pods.length)(hl:pods.length≤4000000):∀(m n k:Nat),i≤k+m→m<n→∃r,F19_l3 i pods x n (k:Int)=some r∧(r= .inl (.inl false)∨r= .inr ()∧∀j y,k≤j→j<i→pods[j]? =some y→keyB x.Meta≠keyB y.Meta)
 |0,n+1,k,h1,_=>by
  rw[F19_l3,if_neg (by omega)]
  exact⟨_,rfl,.inr ⟨rfl,fun j y h2 h3=>by omega⟩⟩
 |m+1,n+1,k,h1,h2=>by
  rw[F19_l3]
  by_cases hk:k<i
  ·obtain⟨r,hr,hr2⟩:=ap_l3 pods h x hx i hi hl m n (k+1) (by omega) (by omega)
   have hkl:k<pods.length:=by omega
   rw[if_pos (by omega),rkey_t hx,Option.bind_some,rdI_at hkl,Option.bind_some,rkey_t (h _ (List.getElem_mem _)),Option.bind_some,wrapN (by omega)]
   by_cases hc:keyB x.Meta=keyB pods[k].Meta
   ·rw[if_pos hc];exact⟨_,rfl,.inl rfl⟩
   ·rw[if_neg hc]
    refine⟨r,hr,hr2.imp id fun⟨e,g⟩=>⟨e,fun j y h3 h4 h5=>?_⟩⟩
    by_cases hj:j=k
    ·subst hj;rw[List.getElem?_eq_getElem hkl]at h5;cases h5;exact hc
    ·exact g j y (by omega) h4 h5
  ·rw[if_neg (by omega)]
   exact⟨_,rfl,.inr ⟨rfl,fun j y h2 h3=>by omega⟩⟩
theorem ap_l1(pods:List Pod)(h:∀p∈pods,MW p.Meta)(hl:pods.length≤4000000):∀(xs:List Pod) (i:Nat),pods.drop i=xs→i≤pods.length→∃r,F19_l1 pods xs i=some r∧(r= .inl false∨r= .inr ()∧∀(k j:Nat) (x y:Pod),i≤k→j<k→pods[k]? =some x→pods[j]? =some y→keyB x.Meta≠keyB y.Meta)
 |[],i,e,hi=>by
  rw[F19_l1]
  refine⟨_,rfl,.inr ⟨rfl,fun k j x y h1 _ h3=>?_⟩⟩
  have:pods.length≤i:=by simpa using e
  have:=(List.getElem?_eq_some_iff.1 h3).1;omega
 |x::xs,i,e,hi=>by
  have hy:=drop_hd e
  have hlt:=(List.getElem?_eq_some_iff.1 hy).1
  obtain⟨r,h1,h2⟩:=ap_l3 pods h x (h x (List.mem_of_getElem? hy)) i hi hl i 1099511627776 0 (by omega) (by omega)
  obtain⟨r2,h3,h4⟩:=ap_l1 pods h hl xs (i+1) (drop_tl e) (by omega)
  rw[show((0:Nat):Int)=0 from rfl]at h1
  rw[F19_l1,h1,Option.bind_some]
  rcases h2 with rfl|⟨rfl,h5⟩
  ·exact⟨_,rfl,.inl rfl⟩
  ·refine⟨r2,h3,h4.imp id fun⟨e2,g⟩=>⟨e2,fun k j a b g1 g2 g3 g4=>?_⟩⟩
   by_cases hk:k=i
   ·subst hk;rw[hy]at g3;cases g3
    exact h5 j b (Nat.zero_le _) g2 g4
   ·exact g k j a b (by omega) g2 g3 g4
theorem apart_t{pods:List Pod}(h:∀p∈pods,MW p.Meta)(hl:pods.length≤4000000):∃r,F19 pods=some r∧(r=true→∀(k j:Nat) (x y:Pod),j<k→pods[k]? =some x→pods[j]? =some y→keyB x.Meta≠keyB y.Meta):=by
 obtain⟨r,h1,h2⟩:=ap_l1 pods h hl pods 0 (List.drop_zero ..) (Nat.zero_le _)
 rw[F19,ck_t (by omega),Option.bind_some,h1,Option.bind_some]
 rcases h2 with rfl|⟨rfl,h3⟩
 ·exact⟨_,rfl,fun h=>by cases h⟩
 ·exact⟨_,rfl,fun _ k j x y=>h3 k j x y (Nat.zero_le _)⟩
theorem first_at{pods:List Pod}(ha:∀(k j:Nat) (x y:Pod),j<k→pods[k]? =some x→pods[j]? =some y→keyB x.Meta≠keyB y.Meta){i:Nat}{p:Pod}(hp:pods[i]? =some p):∃a b,pods=a++p::b∧(∀q∈a,keyB q.Meta≠keyB p.Meta):=by
 have hlt:=(List.getElem?_eq_some_iff.1 hp).1
 refine⟨pods.take i,pods.drop (i+1),?_,fun q hq=>?_⟩
 ·have e:pods.drop i=p::pods.drop (i+1):=by
   rw[List.drop_eq_getElem_cons hlt]
   rw[List.getElem?_eq_getElem hlt]at hp;cases hp;rfl
  rw[←e,List.take_append_drop]
 ·obtain⟨j,hj,rfl⟩:=List.mem_iff_getElem.1 hq
  simp only[List.length_take]at hj
  have h2:j<i:=Nat.lt_of_lt_of_le hj (Nat.min_le_left _ _)
  exact fun he=>ha i j p _ h2 hp (by rw[List.getElem_take];exact List.getElem?_eq_getElem (by omega)) he.symm
open Go Go.Fw
set_option maxRecDepth 100000
set_option linter.unusedVariables false
set_option linter.unusedSimpArgs false
theorem dis_app(l:List WorkItem)(x:WorkItem)(k:ByteArray):dis (l++[x]) k=(dis l k||decide (x.Key=k)):=by simp[dis]
theorem dis_ins(c:WorkItem→Int)(x:WorkItem)(k:ByteArray)(l:List WorkItem):dis (insC c x l) k=(decide (x.Key=k)||dis l k):=by
 rw[Bool.eq_iff_iff]
 simp only[dis,List.any_eq_true,Bool.or_eq_true,decide_eq_true_eq,insC_mem]
 constructor
 ·rintro⟨y,rfl|hy,h⟩
  ·exact .inl h
  ·exact .inr ⟨y,hy,h⟩
 ·rintro(h|⟨y,hy,h⟩)
  ·exact⟨x,.inl rfl,h⟩
  ·exact⟨y,.inr hy,h⟩
theorem SW_ins{l:List WorkItem}{x:WorkItem}(h:SW l)(hn:dis l x.Key=false):SW (insC (cW x.Key) x l):=by
 refine insC_pw (R:=fun a b:WorkItem=>lt a.Key b.Key) (fun a b d h1 h2=>lt_trans h1 h2) (fun y hy hc=>?_) (fun y hy hc=>?_) h
 ·exact(scmp_neg _ _).1 hc
 ·simp only[dis,List.any_eq_false,decide_eq_true_eq]at hn
  exact lt_of_not (fun hl=>hc ((scmp_neg _ _).2 hl)) (hn y hy)
theorem sel_same{b f:Budget}(hm:b.Meta=f.Meta)(hs:b.Selector=f.Selector)(p:Pod):sel b p=sel f p:=by unfold sel;rw[hm,hs]
def cntL(f:Budget)(pods:List Pod)(d:List WorkItem):Nat:=(pods.filter (cntB f d)).length
structure J(pods:List Pod)(j:Nat)(f b:Budget)(g:List WorkItem):Prop where
 m:b.Meta=f.Meta
 s:b.Selector=f.Selector
 mi:b.MinAvailable.length≤4000000
 ma:b.MaxUnavailable.length≤4000000
 w:MW f.Meta
 so:selOk f.Selector
 d:b.Disrupted.length≤400000+j
 gl:g.length≤400000+j
 o:SW b.Disrupted
 e:∀p∈pods,sel f p=true→hea p=true→dis g (keyB p.Meta)=dis b.Disrupted (keyB p.Meta)
 c:f.Desired≤f.Healthy→0≤b.Allowed∧b.Allowed≤4000000000∧b.Allowed+f.Desired=(cntL f pods b.Disrupted:Int)
theorem J.mono{pods:List Pod}{j:Nat}{f b:Budget}{g:List WorkItem}(h:J pods j f b g):J pods (j+1) f b g:=
 ⟨h.m,h.s,h.mi,h.ma,h.w,h.so,by have:=h.d;omega,by have:=h.gl;omega,h.o,h.e,h.c⟩
structure One(pods:List Pod)(q:Pod):Prop where
 ex:∃a b,pods=a++q::b∧(∀x∈a,keyB x.Meta≠keyB q.Meta)∧∀x∈b,keyB x.Meta≠keyB q.Meta
theorem One.eq{pods:List Pod}{q p:Pod}(h:One pods q)(hp:p∈pods)(hk:keyB p.Meta=keyB q.Meta):p=q:=by
 obtain⟨a,b,rfl,h1,h2⟩:=h.ex
 rcases List.mem_append.1 hp with g|g
 ·exact(h1 p g hk).elim
 ·rcases List.mem_cons.1 g with g|g
  ·exact g
  ·exact(h2 p g hk).elim
theorem one_at{pods:List Pod}(ha:∀(k j:Nat) (x y:Pod),j<k→pods[k]? =some x→pods[j]? =some y→keyB x.Meta≠keyB y.Meta){i:Nat}{p:Pod}(hp:pods[i]? =some p):One pods p:=by
 have hlt:=(List.getElem?_eq_some_iff.1 hp).1
 refine⟨pods.take i,pods.drop (i+1),?_,fun q hq=>?_,fun q hq=>?_⟩
 ·have e:pods.drop i=p::pods.drop (i+1):=by
   rw[List.drop_eq_getElem_cons hlt]
   rw[List.getElem?_eq_getElem hlt]at hp;cases hp;rfl
  rw[←e,List.take_append_drop]
 ·obtain⟨j,hj,rfl⟩:=List.mem_iff_getElem.1 hq
  simp only[List.length_take]at hj
  have h2:j<i:=Nat.lt_of_lt_of_le hj (Nat.min_le_left _ _)
  exact fun he=>ha i j p _ h2 hp (by rw[List.getElem_take];exact List.getElem?_eq_getElem (by omega)) he.symm
 ·obtain⟨j,hj,rfl⟩:=List.mem_iff_getElem.1 hq
  simp only[List.length_drop]at hj
  exact ha (i+1+j) i _ p (by omega) (by rw[List.getElem_drop];exact List.getElem?_eq_getElem (by omega)) hp
theorem J.un{pods:List Pod}{j:Nat}{f b:Budget}{g:List WorkItem}{q:Pod}(h:J pods j f b g)(hq:One pods q)(hh:hea q=false):J pods (j+1) f b (g++[⟨keyB q.Meta,0⟩]):=by
 refine⟨h.m,h.s,h.mi,h.ma,h.w,h.so,by have:=h.d;omega,by have:=h.gl;simp;omega,h.o,fun p hp h1 h2=>?_,h.c⟩
 rw[dis_app,←h.e p hp h1 h2]
 have hne:keyB q.Meta≠keyB p.Meta:=fun he=>by
  rw[hq.eq hp he.symm,hh]at h2;cases h2
 simp[hne]
theorem J.ch{pods:List Pod}{j:Nat}{f b:Budget}{g:List WorkItem}{q:Pod}{it:WorkItem}(h:J pods j f b g)(hq:One pods q)(hh:hea q=true)(hk:it.Key=keyB q.Meta)(hb:blk q b=false):J pods (j+1) f (chg q it b) (g++[⟨keyB q.Meta,0⟩]):=by
 have hsel:=sel_same h.m h.s
 unfold chg
 by_cases hc:(sel b q&& !(dis b.Disrupted it.Key))=true
 ·rw[if_pos hc]
  simp only[Bool.and_eq_true,Bool.not_eq_true']at hc
  obtain⟨c1,c2⟩:=hc
  refine⟨h.m,h.s,h.mi,h.ma,h.w,h.so,?_,by have:=h.gl;simp;omega,SW_ins h.o c2,fun p hp h1 h2=>?_,fun hd=>?_⟩
  ·show(insC _ _ _).length≤_
   rw[insC_len];have:=h.d;omega
  ·show _=dis (insC _ _ _) _
   rw[dis_app,dis_ins,h.e p hp h1 h2,hk,Bool.or_comm]
  ·obtain⟨g1,g2,g3⟩:=h.c hd
   have hpos:0<b.Allowed:=by
    unfold blk at hb
    rw[c1,←hk,c2]at hb
    simp at hb;exact hb
   have e1:(F14one b (insC (cW it.Key) it b.Disrupted)).Allowed=b.Allowed-1:=by
    show IntKind.i64.wrap (b.Allowed-1)=_
    rw[wrapI (by omega) (by omega)]
   have e2:(F14one b (insC (cW it.Key) it b.Disrupted)).Disrupted=insC (cW it.Key) it b.Disrupted:=rfl
   rw[e1,e2]
   have e3:cntL f pods (insC (cW it.Key) it b.Disrupted)+1=cntL f pods b.Disrupted:=by
    obtain⟨a,r,rfl,n1,n2⟩:=hq.ex
    have key:∀x:Pod,keyB x.Meta≠keyB q.Meta→cntB f (insC (cW it.Key) it b.Disrupted) x=cntB f b.Disrupted x:=fun x hx=>by
     unfold cntB
     rw[dis_ins,hk]
     have:decide (keyB q.Meta=keyB x.Meta)=false:=by simpa using fun he=>hx he.symm
     rw[this,Bool.false_or]
    have k1:cntB f b.Disrupted q=true:=by
     unfold cntB
     rw[←hsel q,c1,hh,←hk,c2];rfl
    have k2:cntB f (insC (cW it.Key) it b.Disrupted) q=false:=by
     unfold cntB
     rw[dis_ins,hk];simp
    unfold cntL
    rw[List.filter_append,List.filter_append,List.filter_cons_of_pos k1,List.filter_cons_of_neg (by simp[k2]),List.filter_congr (fun x hx=>key x (n1 x hx)),List.filter_congr (fun x hx=>key x (n2 x hx))]
    simp;omega
   refine⟨by omega,by omega,by omega⟩
 ·rw[if_neg hc]
  refine⟨h.m,h.s,h.mi,h.ma,h.w,h.so,by have:=h.d;omega,by have:=h.gl;simp;omega,h.o,fun p hp h1 h2=>?_,h.c⟩
  rw[dis_app,←h.e p hp h1 h2]
  by_cases hne:keyB q.Meta=keyB p.Meta
  ·have hpq:=hq.eq hp hne.symm
   subst hpq
   have:dis b.Disrupted (keyB p.Meta)=true:=by
    rw[hsel,h1,hk]at hc
    simpa using hc
   rw[h.e p hp h1 h2,this];rfl
  ·simp[hne]
theorem J.bw{pods:List Pod}{j:Nat}{f b:Budget}{g:List WorkItem}(h:J pods j f b g)(hj:j≤100):BW b:=
 ⟨by rw[h.m];exact h.w,by rw[h.s];exact h.so,by have:=h.d;omega,h.mi,h.ma⟩
def Inv(pods:List Pod)(j:Nat)(fs st:List Budget)(gs:List (List WorkItem)):Prop:=st.length=fs.length∧gs.length=fs.length∧∀(i:Nat) f b g,fs[i]? =some f→st[i]? =some b→gs[i]? =some g→J pods j f b g
theorem Inv.ew{pods:List Pod}{j:Nat}{fs st:List Budget}{gs:List (List WorkItem)}(h:Inv pods j fs st gs)(hj:j≤100)(hp:∀p∈pods,MW p.Meta)(hl:fs.length≤2000000)(hn:pods.length≤2000000):EW st pods∧∀b∈st,SW b.Disrupted:=by
 obtain⟨h1,h2,h3⟩:=h
 have key:∀b∈st,∃f g,J pods j f b g:=fun b hb=>by
  obtain⟨i,hi,rfl⟩:=List.mem_iff_getElem.1 hb
  exact⟨_,_,h3 i _ _ _ (List.getElem?_eq_getElem (by omega)) (List.getElem?_eq_getElem hi) (List.getElem?_eq_getElem (by omega))⟩
 refine⟨⟨fun b hb=>?_,fun b hb=>?_,hp,by omega,hn⟩,fun b hb=>?_⟩
 ·obtain⟨f,g,hJ⟩:=key b hb;exact hJ.bw hj
 ·obtain⟨f,g,hJ⟩:=key b hb;have:=hJ.d;omega
 ·obtain⟨f,g,hJ⟩:=key b hb;exact hJ.o
theorem add_t{key:ByteArray}:∀{gs:List (List WorkItem)},(∀g∈gs,g.length≤4000000)→F5add key gs=some (gs.map fun g=>g++[⟨key,0⟩])
 |[],_=>rfl
 |g::r,h=>by
  have:=h g (List.mem_cons_self ..)
  rw[F5add,apI_t (by simp;omega),Option.bind_some,add_t fun x hx=>h x (List.mem_cons_of_mem _ hx)];rfl
def Good(pods:List Pod)(f:Budget)(g:List WorkItem):Prop:=g.length≤500000∧(f.Desired≤f.Healthy→f.Desired≤(cntL f pods g:Int))
theorem J.good{pods:List Pod}{j:Nat}{f b:Budget}{g:List WorkItem}(h:J pods j f b g)(hj:j≤100):Good pods f g:=by
 refine⟨by have:=h.gl;omega,fun hd=>?_⟩
 obtain⟨g1,g2,g3⟩:=h.c hd
 have:cntL f pods g=cntL f pods b.Disrupted:=by
  unfold cntL
  congr 1
  refine List.filter_congr fun p hp=>?_
  unfold cntB
  rcases Bool.eq_false_or_eq_true (sel f p)with a|a
  ·rcases Bool.eq_false_or_eq_true (hea p)with c|c
   ·rw[h.e p hp a c]
   ·rw[c];simp
  ·rw[a];simp
 rw[this];omega
theorem run_t{pods:List Pod}{order:List Int}{now:Int}{fs:List Budget}(hp:∀p∈pods,MW p.Meta)(hl:fs.length≤2000000)(hn:pods.length≤2000000)(hn0:pods.length≠0)(ho:order.length≤60)(hok:∀y∈order,0≤y∧y≤255)
 (ha:∀(k j:Nat) (x y:Pod),j<k→pods[k]? =some x→pods[j]? =some y→keyB x.Meta≠keyB y.Meta):∀(m j:Nat) (st:List Budget) (gs:List (List WorkItem)),j+m=order.length→Inv pods j fs st gs→
   ∃gw,F5run pods order now m j st gs=some gw∧gw.length=fs.length∧∀(i:Nat) f g,fs[i]? =some f→gw[i]? =some g→Good pods f g
 |0,j,st,gs,hj,h=>by
  obtain⟨h1,h2,h3⟩:=h
  refine⟨gs,rfl,h2,fun i f g hf hg=>?_⟩
  have hi:=(List.getElem?_eq_some_iff.1 hf).1
  exact(h3 i f _ g hf (List.getElem?_eq_getElem (by omega)) hg).good (by omega)
 |m+1,j,st,gs,hj,h=>by
  obtain⟨hew,hsw⟩:=h.ew (by omega) hp hl hn
  have hjl:j<order.length:=by omega
  have hy:=hok _ (List.getElem_mem hjl)
  have hmod:0≤order[j]%(pods.length:Int)∧order[j]%(pods.length:Int)<pods.length:=⟨Int.emod_nonneg _ (by omega),Int.emod_lt_of_pos _ (by omega)⟩
  obtain⟨i,hi⟩:∃i:Nat,order[j]%(pods.length:Int)=i:=⟨(order[j]%(pods.length:Int)).toNat,by omega⟩
  have hlt:i<pods.length:=by omega
  have hq:pods[i]? =some pods[i]:=List.getElem?_eq_getElem hlt
  have hkn:F5kn pods order now [] [] st (j:Int)=some (keyB pods[i].Meta):=by
   rw[F5kn,rdI_at hjl,Option.bind_some,ck_t (by omega),Option.bind_some,wrapI (by omega) (by omega),Int.tmod_eq_emod_of_nonneg hy.1,hi,rdI_at hlt,Option.bind_some,rkey_t (hp _ (List.getElem_mem hlt))];rfl
  generalize pods[i]=q at hq hkn
  have hone:=one_at ha hq
  obtain⟨a,b,g1,g2⟩:=first_at ha hq
  have hev:=evict_p (now:=now) hew g1 g2 rfl hsw
  rw[F5run,hkn,Option.bind_some,hev,Option.bind_some]
  obtain⟨h1,h2,h3⟩:=h
  have hgl:∀g∈gs,g.length≤4000000:=fun g hg=>by
   obtain⟨k,hk,rfl⟩:=List.mem_iff_getElem.1 hg
   have:=(h3 k _ _ _ (List.getElem?_eq_getElem (by omega)) (List.getElem?_eq_getElem (by omega)) (List.getElem?_eq_getElem hk)).gl
   omega
  have stay0:Inv pods (j+1) fs st gs:=⟨h1,h2,fun k f b g hf hb hg=>(h3 k f b g hf hb hg).mono⟩
  unfold ev
  by_cases c1:act q=false
  ·rw[if_pos c1]
   simp only[]
   rw[if_neg (by decide)]
   exact run_t hp hl hn hn0 ho hok ha m (j+1) st gs (by omega) stay0
  rw[if_neg c1]
  by_cases c2:allow st q=false
  ·rw[if_pos c2]
   simp only[]
   rw[if_neg (by decide)]
   exact run_t hp hl hn hn0 ho hok ha m (j+1) st gs (by omega) stay0
  rw[if_neg c2]
  by_cases c3:hea q=false
  ·rw[if_pos c3]
   simp only[]
   rw[if_pos trivial,add_t hgl,Option.bind_some]
   refine run_t hp hl hn hn0 ho hok ha m (j+1) st _ (by omega) ⟨h1,by simpa using h2,fun k f b g hf hb hg=>?_⟩
   rw[List.getElem?_map]at hg
   obtain⟨g0,hg0,rfl⟩:=Option.map_eq_some_iff.1 hg
   exact(h3 k f b g0 hf hb hg0).un hone c3
  ·rw[if_neg c3]
   simp only[]
   rw[if_pos trivial,add_t hgl,Option.bind_some]
   refine run_t hp hl hn hn0 ho hok ha m (j+1) _ _ (by omega) ⟨by simpa using h1,by simpa using h2,fun k f b g hf hb hg=>?_⟩
   rw[List.getElem?_map]at hg hb
   obtain⟨g0,hg0,rfl⟩:=Option.map_eq_some_iff.1 hg
   obtain⟨b0,hb0,rfl⟩:=Option.map_eq_some_iff.1 hb
   have c3':hea q=true:=by simpa using c3
   refine(h3 k f b0 g0 hf hb0 hg0).ch hone c3' rfl ?_
   have:(st.any (blk q))=false:=by
    unfold allow at c2
    rw[c3']at c2
    simpa using c2
   simp only[List.any_eq_false]at this
   simpa using this b0 (List.mem_of_getElem? hb0)
def fb(pods:List Pod)(ex now:Int)(b:Budget):Budget:=setS b ex (stat b pods ex now)
theorem firsts_l1{pods:List Pod}{ex now:Int}(hp:∀p∈pods,MW p.Meta)(hl:pods.length≤4000000):∀(l:List Budget) (i:Nat) (a:List Budget),(∀b∈l,BW b)→a.length+l.length≤4000000→F5kd_l1 ex now pods l i a=some (a++l.map (fb pods ex now))
 |[],i,a,_,_=>by rw[F5kd_l1];simp
 |b::l,i,a,h,hal=>by
  simp only[List.length_cons]at hal
  rw[F5kd_l1,status_t (h b (List.mem_cons_self ..)) hp hl,Option.bind_some,apI_t (by simp;omega),Option.bind_some]
  have:=firsts_l1 (ex:=ex) (now:=now) hp hl l (i+1) (a++[fb pods ex now b]) (fun x hx=>h x (List.mem_cons_of_mem _ hx)) (by simp;omega)
  rw[List.map_cons,List.append_assoc]at*
  exact this
theorem init_t:∀{fs:List Budget},(∀f∈fs,f.Disrupted.length≤4000000)→F5init fs=some (fs.map fun f=>f.Disrupted)
 |[],_=>rfl
 |f::r,h=>by
  have:=h f (List.mem_cons_self ..)
  rw[F5init,apI_t (by simp;omega),Option.bind_some,init_t fun x hx=>h x (List.mem_cons_of_mem _ hx)];rfl
theorem lft_l1{b:Budget}(hb:BW b){d:List WorkItem}(hd:d.length≤2000000):∀(l:List Pod) (i n:Nat),(∀p∈l,MW p.Meta)→n+l.length≤4000000→F21_l1 b d l i (n:Int)=some ((n+(l.filter (cntB b d)).length:Nat):Int)
 |[],i,n,_,_=>by rw[F21_l1];simp
 |p::l,i,n,h,hl=>by
  have hp:=h p (List.mem_cons_self ..)
  have hr:=fun x hx=>h x (List.mem_cons_of_mem p hx)
  simp only[List.length_cons]at hl
  rw[F21_l1,rsel_t hb hp,rhea_t,rkey_t hp,wrapN (by omega)]
  have ih1:=lft_l1 hb hd l (i+1) (n+1) hr (by omega)
  have ih0:=lft_l1 hb hd l (i+1) n hr (by omega)
  simp only[Option.bind_some,rdis_t (keyB p.Meta) (show d.length≤4000000 by omega),List.filter_cons,cntB]
  rcases Bool.eq_false_or_eq_true (sel b p)with g1|g1<;>rcases Bool.eq_false_or_eq_true (hea p)with g2|g2<;>rcases Bool.eq_false_or_eq_true (dis d (keyB p.Meta))with g3|g3<;>simp only[g1,g2,g3,Bool.and_false,Bool.and_true,Bool.true_and,Bool.false_and,Bool.not_true,Bool.not_false,nb_not,if_true,if_false,Bool.false_eq_true,Option.bind_some,List.length_cons]<;>
   first|exact ih0|(rw[ih1];congr 2;omega)
theorem lft_t{b:Budget}(hb:BW b){pods:List Pod}{d:List WorkItem}(hd:d.length≤2000000)(hp:∀p∈pods,MW p.Meta)(hl:pods.length≤4000000):F21 b pods d=some (cntL b pods d:Int):=by
 have:=lft_l1 hb hd pods 0 0 hp (by omega)
 rw[show((0:Nat):Int)=0 from rfl,Nat.zero_add]at this
 rw[F21,ck_t (by omega),Option.bind_some,this];rfl
theorem last_l1{pods:List Pod}{gw:List (List WorkItem)}{fs:List Budget}(hp:∀p∈pods,MW p.Meta)(hn:pods.length≤4000000)(hb:∀f∈fs,BW f)(hl:gw.length=fs.length)(hg:∀(i:Nat) f g,fs[i]? =some f→gw[i]? =some g→Good pods f g):∀(xs:List Budget) (i:Nat),fs.drop i=xs→F5ky_l1 gw pods xs i=some (.inr ())
 |[],i,_=>by rw[F5ky_l1]
 |f::xs,i,e=>by
  have hf:=drop_hd e
  have hi:=(List.getElem?_eq_some_iff.1 hf).1
  have hgi:gw[i]? =some (gw[i]'(by omega)):=List.getElem?_eq_getElem (by omega)
  have ih:=last_l1 hp hn hb hl hg xs (i+1) (drop_tl e)
  obtain⟨g1,g2⟩:=hg i f _ hf hgi
  rw[F5ky_l1,rdI_at (by omega),Option.bind_some,lft_t (hb f (List.mem_of_getElem? hf)) (by omega) hp hn,Option.bind_some]
  by_cases hd:f.Desired≤f.Healthy
  ·have:=g2 hd
   rw[if_pos hd,Option.bind_some,if_neg (by simp;omega)]
   exact ih
  ·rw[if_neg hd,Option.bind_some,if_neg (by simp)]
   exact ih
theorem BudgetKeeps_pure:BudgetKeeps.Pure:=by
 intro l pods order ex now _ _ hok _ _ hw
 have h:EW l pods:=eW (by omega)
 have hl:=h.l;have hn:=h.n
 obtain⟨r,hr⟩:=heavy_ex h.b (by omega) (by omega:pods.length≤4000000)
 obtain⟨o,ho,ho2⟩:=ord_t (l:=l) (fun b hb=>by have:=h.d b hb;omega) (by omega)
 obtain⟨u,hu,hu2⟩:=apart_t h.p (by omega)
 have wake:∀q:Option (Bool ⊕ Unit),q=some (.inl true)→(q.bind fun q=>match q with
  |Sum.inl b=>some b
  |Sum.inr _=>(F5kd l pods order ex now).bind fun fs=>(ck (fs.length≤4294967290∧order.length≤4294967290)).bind fun _=>(F5init fs).bind fun gs=>(F5run pods order now order.length 0 fs gs).bind fun gw=>(F5ky pods fs gw).bind fun r=>match r with
   |Sum.inl _=>some false
   |Sum.inr _=>F5kz)=some true:=fun q hq=>by rw[hq];rfl
 rw[F5]
 cases r with
 |true=>exact wake _ (by rw[F5kb,hr,Option.bind_some,if_pos rfl,Option.bind_some,if_pos rfl,awake_t];rfl)
 |false=>
  cases o with
  |false=>exact wake _ (by rw[F5kb,hr,Option.bind_some,if_neg (by simp),ho,Option.bind_some,if_pos (show nb false=true from rfl),Option.bind_some,if_pos rfl,awake_t];rfl)
  |true=>
   by_cases c1:60<(order.length:Int)
   ·exact wake _ (by rw[F5kb,hr,Option.bind_some,if_neg (by simp),ho,Option.bind_some,if_neg (by simp[nb_not]),if_pos c1,Option.bind_some,if_pos rfl,awake_t];rfl)
   by_cases c2:(pods.length:Int)=0
   ·exact wake _ (by rw[F5kb,hr,Option.bind_some,if_neg (by simp),ho,Option.bind_some,if_neg (by simp[nb_not]),if_neg c1,if_pos c2,Option.bind_some,if_pos rfl,awake_t];rfl)
   cases u with
   |false=>exact wake _ (by rw[F5kb,hr,Option.bind_some,if_neg (by simp),ho,Option.bind_some,if_neg (by simp[nb_not]),if_neg c1,if_neg c2,hu,Option.bind_some,Option.bind_some,if_pos (show nb false=true from rfl),awake_t];rfl)
   |true=>
    have e1:F5kb l pods order ex now=some (.inr ()):=by
     rw[F5kb,hr,Option.bind_some,if_neg (by simp),ho,Option.bind_some,if_neg (by simp[nb_not]),if_neg c1,if_neg c2,hu,Option.bind_some,Option.bind_some,if_neg (by simp[nb_not])]
    have hs:=ho2 rfl
    have ha:=hu2 rfl
    have hb0:∀f∈l.map (fb pods ex now),∃b∈l,f=fb pods ex now b:=fun f hf=>by
     obtain⟨b,hb,rfl⟩:=List.mem_map.1 hf
     exact⟨b,hb,rfl⟩
    have hfd:∀b,(fb pods ex now b).Disrupted=items b pods now:=fun _=>rfl
    have hwd:∀b∈l,b.Disrupted.length≤400000:=fun b hb=>by
     have:=wL_mem (w:=wBudget) hb
     have:=@wD b
     omega
    have hfb:∀f∈l.map (fb pods ex now),BW f∧f.Disrupted.length≤400000:=fun f hf=>by
     obtain⟨b,hb,rfl⟩:=hb0 f hf
     have hbw:=h.b b hb
     have h1:=items_len b pods now
     have h2:=hwd b hb
     exact⟨⟨hbw.m,hbw.s,by rw[hfd];omega,hbw.mi,hbw.ma⟩,by rw[hfd];omega⟩
    have e2:F5kd l pods order ex now=some (l.map (fb pods ex now)):=by
     rw[F5kd,ck_t (by omega),Option.bind_some,firsts_l1 h.p (by omega) l 0 [] h.b (by simp;omega)];rfl
    rw[e1,Option.bind_some]
    simp only[]
    rw[e2,Option.bind_some,ck_t (by simp;omega),Option.bind_some,init_t (fun f hf=>by have:=(hfb f hf).2;omega),Option.bind_some]
    have hinv:Inv pods 0 (l.map (fb pods ex now)) (l.map (fb pods ex now)) ((l.map (fb pods ex now)).map fun f=>f.Disrupted):=by
     refine⟨rfl,by simp,fun i f b g hf hb hg=>?_⟩
     rw[hf]at hb;cases hb
     rw[List.getElem?_map,hf]at hg
     cases hg
     obtain⟨b0,hb0,rfl⟩:=hb0 f (List.mem_of_getElem? hf)
     obtain⟨hbw,hbd⟩:=hfb _ (List.mem_of_getElem? hf)
     have hw2:=want_b b0 (clampN_b ex)
     have hfl:=List.length_filter_le (cntB b0 (items b0 pods now)) pods
     refine⟨rfl,rfl,hbw.mi,hbw.ma,hbw.m,hbw.s,by omega,by omega,List.Pairwise.filter _ (hs b0 hb0),fun _ _ _ _=>rfl,fun hd=>?_⟩
     have k1:(fb pods ex now b0).Healthy=((pods.filter (cntB b0 (items b0 pods now))).length:Int):=rfl
     have k2:(fb pods ex now b0).Desired=want b0 (clampN ex):=rfl
     have k3:(fb pods ex now b0).Allowed=if(fb pods ex now b0).Healthy-(fb pods ex now b0).Desired<0 then 0 else(fb pods ex now b0).Healthy-(fb pods ex now b0).Desired:=rfl
     have k4:(cntL (fb pods ex now b0) pods (fb pods ex now b0).Disrupted:Int)=(fb pods ex now b0).Healthy:=rfl
     rw[k4,k3,if_neg (by omega)]
     omega
    obtain⟨gw,e3,e4,e5⟩:=run_t (now:=now) h.p (by simp;omega) hn (by omega) (by omega) hok ha order.length 0 _ _ (by omega) hinv
    rw[e3,Option.bind_some,F5ky,ck_t (by simp;omega),Option.bind_some,last_l1 h.p (by omega) (fun f hf=>(hfb f hf).1) e4 e5 _ 0 (List.drop_zero ..)]
    simp only[Option.bind_some]
    rw[F5kz,awake_t];rfl
end Go.Proofs.Ytedgocbpegllaaa
