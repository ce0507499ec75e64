/- The plain law. -/
import Derived.Test.YtbopaemngpbdgaaGreatVP
import Derived.Test.YtbopaemngpbdgaaGreatFP
import Derived.KernelRfl
set_option linter.unusedVariables false
set_option linter.unusedSimpArgs false
namespace Go.Proofs.YtbopaemngpbdgaaGreat
open Go Go.Fw
set_option maxRecDepth 100000
set_option linter.unusedVariables false
set_option linter.unusedSimpArgs false
section
variable {α:Type}
def S(c:α→Int)(l:List α):Prop:=l.Pairwise fun a b=>c b≤0→c a<0
def plc(c:α→Int):List α→Nat
 |[]=>0
 |y::l=>if c y<0 then plc c l+1 else 0
theorem plc_le(c:α→Int):∀l,plc c l≤l.length
 |[]=>Nat.le_refl _
 |y::l=>by have:=plc_le c l;unfold plc;split<;>simp<;>omega
theorem plc_iff{c:α→Int}:∀{l:List α},S c l→∀i (h:i<l.length),c l[i]<0↔i<plc c l
 |[],_,i,h=>absurd h (by simp)
 |y::l,hs,0,h=>by
  unfold plc
  by_cases hc:c y<0<;>simp[hc]
 |y::l,hs,i+1,h=>by
  have hs2:=List.pairwise_cons.1 hs
  have ih:=plc_iff hs2.2 i (by simpa using h)
  simp only[List.getElem_cons_succ]
  unfold plc
  by_cases hc:c y<0
  ·rw[if_pos hc,ih];omega
  ·rw[if_neg hc]
   exact⟨fun hi=>absurd (hs2.1 _ (List.getElem_mem (by simpa using h)) (Int.le_of_lt hi)) hc,fun hi=>by omega⟩
def mid(a b:Int):Int:=IntKind.i64.wrap (shrV .u64 (IntKind.u64.wrap (IntKind.i64.wrap (a+b))) 1)
theorem mid_eq{a b:Nat}(h:a+b≤4000000):mid (a:Int) (b:Int)=(((a+b)/2:Nat):Int):=by
 unfold mid shrV
 rw[show IntKind.i64.wrap ((a:Int)+b)=(a:Int)+b from wrapI (by omega) (by omega)]
 have e:IntKind.u64.wrap ((a:Int)+b)=((a+b:Nat):Int):=by simp[IntKind.wrap,IntKind.bits,IntKind.signed];omega
 rw[e]
 have e2:((a+b:Nat):Int).fdiv (2^(min (1:Int).toNat IntKind.u64.bits))=(((a+b)/2:Nat):Int):=by
  show((a+b:Nat):Int).fdiv 2=_
  rw[Int.fdiv_eq_ediv_of_nonneg _ (by omega)];omega
 rw[e2,wrapI (by omega) (by omega)]
def bsL(c:α→Int)(xs:List α):Nat→Int→Int→Option Int
 |0,_,_=>none
 |k+1,a,b=>if a<b then(rdI xs (mid a b)).bind fun y=>if c y<0 then bsL c xs k (IntKind.i64.wrap (mid a b+1)) b else bsL c xs k a (mid a b)else some a
theorem bsL_spec{c:α→Int}{xs:List α}(hs:S c xs)(hl:xs.length≤1000000):∀(k a b:Nat),b-a<k→a≤plc c xs→plc c xs≤b→b≤xs.length→bsL c xs k (a:Int) (b:Int)=some (plc c xs:Int)
 |0,a,b,h,_,_,_=>by omega
 |k+1,a,b,h,h1,h2,h3=>by
  unfold bsL
  by_cases hab:a<b
  ·have hm:(a+b)/2<xs.length:=by omega
   rw[if_pos (by omega),mid_eq (by omega),rdI_at hm,Option.bind_some]
   have hi:=plc_iff hs ((a+b)/2) hm
   by_cases hc:c xs[(a+b)/2]<0
   ·rw[if_pos hc]
    have e:IntKind.i64.wrap ((((a+b)/2:Nat):Int)+1)=(((a+b)/2+1:Nat):Int):=wrapN (by omega)
    rw[e]
    exact bsL_spec hs hl k _ b (by omega) (by have:=hi.1 hc;omega) h2 h3
   ·rw[if_neg hc]
    exact bsL_spec hs hl k a _ (by omega) h1 (by have:=mt hi.2 hc;omega) (by omega)
  ·rw[if_neg (by omega)];congr 1;omega
def hasC(c:α→Int)(l:List α):Bool:=l.any fun y=>decide (c y=0)
theorem hasC_cons(c:α→Int)(y:α)(l:List α):hasC c (y::l)=(decide (c y=0)||hasC c l):=by simp[hasC]
theorem hasC_gt{c:α→Int}{l:List α}(h:∀y∈l,0<c y):hasC c l=false:=by
 simp only[hasC,List.any_eq_false,decide_eq_true_eq]
 intro y hy;have:=h y hy;omega
theorem find_at{c:α→Int}:∀{l:List α},S c l→((l[plc c l]?).map fun y=>decide (c y=0)).getD false=hasC c l
 |[],_=>rfl
 |y::l,hs=>by
  have hs2:=List.pairwise_cons.1 hs
  have ih:=find_at hs2.2
  rw[hasC_cons]
  unfold plc
  by_cases hc:c y<0
  ·rw[if_pos hc,List.getElem?_cons_succ,ih];simp;omega
  ·rw[if_neg hc]
   simp only[List.getElem?_cons_zero,Option.map_some,Option.getD_some]
   rw[hasC_gt];·simp
   intro z hz
   have:=hs2.1 z hz
   omega
theorem find_t{c:α→Int}{l:List α}(hs:S c l):(if(plc c l:Int)<(l.length:Int)then(rdI l (plc c l:Int)).bind fun y=>some (decide (c y=0))else some false)=some (hasC c l):=by
 have h:=find_at hs
 by_cases hp:plc c l<l.length
 ·rw[if_pos (by omega),rdI_at hp,Option.bind_some]
  rw[List.getElem?_eq_getElem hp]at h
  simp only[Option.map_some,Option.getD_some]at h
  rw[h]
 ·rw[if_neg (by omega)]
  rw[List.getElem?_eq_none (by omega)]at h
  simp only[Option.map_none,Option.getD_none]at h
  rw[←h]
def insC(c:α→Int)(x:α):List α→List α
 |[]=>[x]
 |y::l=>if c y<0 then y::insC c x l else x::y::l
theorem insC_plc(c:α→Int)(x:α):∀l,l.take (plc c l)++x::l.drop (plc c l)=insC c x l
 |[]=>rfl
 |y::l=>by
  unfold insC plc
  split
  ·rw[←insC_plc c x l];simp
  ·simp
theorem insC_len(c:α→Int)(x:α)(l:List α):(insC c x l).length=l.length+1:=by
 rw[←insC_plc];have:=plc_le c l;simp;omega
theorem insC_mem(c:α→Int)(x z:α):∀l,z∈insC c x l↔z=x∨z∈l
 |[]=>by simp[insC]
 |y::l=>by
  have:=insC_mem c x z l
  unfold insC
  split
  ·simp only[List.mem_cons,this];exact⟨fun h=>h.elim (fun h=> .inr (.inl h)) fun h=>h.elim .inl fun h=> .inr (.inr h),fun h=>h.elim (fun h=> .inr (.inl h)) fun h=>h.elim .inl fun h=> .inr (.inr h)⟩
  ·simp
theorem insC_pw{R:α→α→Prop}{c:α→Int}{x:α}(ht:∀a b d,R a b→R b d→R a d):∀{l:List α},(∀y∈l,c y<0→R y x)→(∀y∈l,¬c y<0→R x y)→l.Pairwise R→(insC c x l).Pairwise R
 |[],_,_,_=>by simp[insC]
 |y::l,h1,h2,hp=>by
  have hp2:=List.pairwise_cons.1 hp
  unfold insC
  split
  ·rename_i hc
   refine List.pairwise_cons.2 ⟨fun z hz=>?_,insC_pw ht (fun z hz=>h1 z (List.mem_cons_of_mem _ hz)) (fun z hz=>h2 z (List.mem_cons_of_mem _ hz)) hp2.2⟩
   rcases(insC_mem c x z l).1 hz with rfl|hz
   ·exact h1 y (List.mem_cons_self ..) hc
   ·exact hp2.1 z hz
  ·rename_i hc
   have hxy:=h2 y (List.mem_cons_self ..) hc
   refine List.pairwise_cons.2 ⟨fun z hz=>?_,hp⟩
   rcases List.mem_cons.1 hz with rfl|hz
   ·exact hxy
   ·exact ht _ _ _ hxy (hp2.1 z hz)
theorem rem_C{c:α→Int}:∀{l:List α},S c l→hasC c l=true→l.take (plc c l)++l.drop (plc c l+1)=l.filter fun y=>decide (c y≠0)
 |[],_,h=>by simp[hasC]at h
 |y::l,hs,h=>by
  have hs2:=List.pairwise_cons.1 hs
  rw[hasC_cons]at h
  unfold plc
  by_cases hc:c y<0
  ·rw[if_pos hc,List.filter_cons_of_pos (by simp;omega),←rem_C hs2.2 (by simp at h;rcases h with h|h<;>first|omega|exact h)]
   simp
  ·rw[if_neg hc]
   have hg:∀z∈l,0<c z:=fun z hz=>by have:=hs2.1 z hz;omega
   rw[hasC_gt hg]at h
   simp at h
   rw[List.filter_cons_of_neg (by simp[h]),List.filter_eq_self.2 fun z hz=>by have:=hg z hz;simp;omega]
   simp
end
theorem scmp_neg(a b:ByteArray):scmp a b<0↔lt a b:=by
 unfold scmp
 by_cases h:lt a b
 ·simp[h]
 ·rw[if_neg h]
  by_cases h2:a=b
  ·rw[if_pos h2];simp[h]
  ·rw[if_neg h2];simp[h]
theorem scmp_zero(a b:ByteArray):scmp a b=0↔a=b:=by
 unfold scmp
 by_cases h:lt a b
 ·simp[h,lt_ne h]
 ·rw[if_neg h]
  by_cases h2:a=b<;>simp[h2]
theorem scmp_np(a b:ByteArray):scmp a b≤0↔lt a b∨a=b:=by
 rw[←scmp_neg,←scmp_zero];omega
theorem exb{α β:Type}{e:Option α}{f:α→Option β}(h:∃a,e=some a)(hf:∀a,e=some a→∃r,f a=some r):∃r,e.bind f=some r:=by
 obtain⟨a,ha⟩:=h;obtain⟨r,hr⟩:=hf a ha;exact⟨r,by rw[ha];exact hr⟩
theorem exif{α:Type}{p:Prop}[Decidable p]{a b:Option α}(h1:p→∃r,a=some r)(h2:¬p→∃r,b=some r):∃r,(if p then a else b)=some r:=by
 by_cases h:p
 ·rw[if_pos h];exact h1 h
 ·rw[if_neg h];exact h2 h
theorem exmap{α β:Type}{e:Option α}{f:α→β}(h:∃a,e=some a):∃r,e.map f=some r:=by
 obtain⟨a,ha⟩:=h;exact⟨f a,by rw[ha];rfl⟩
theorem exck{p:Prop}[Decidable p](h:p):∃r,ck p=some r:=⟨(),ck_t h⟩
theorem byI_ex{b:ByteArray}{i:Int}(h:0≤i)(h2:i<b.size):∃y,byI b i=some y:=by
 obtain⟨n,rfl⟩:∃n:Nat,i=n:=⟨i.toNat,by omega⟩
 have hs:n<b.size:=by omega
 exact⟨(b[n].toNat:Int),by unfold byI;rw[if_pos (by omega)];simp[hs]⟩
theorem rdI_ex{α:Type}{l:List α}{i:Int}(h:0≤i)(h2:i<l.length):∃y,rdI l i=some y:=by
 obtain⟨n,rfl⟩:∃n:Nat,i=n:=⟨i.toNat,by omega⟩
 exact⟨_,rdI_at (by omega)⟩
theorem apI_ex{α:Type}{xs ys:List α}(h:xs.length+ys.length≤4294967290):∃y,apI xs ys=some y:=⟨_,apI_t h⟩
theorem rdI_val{α:Type}{l:List α}{i:Nat}{y:α}(h:l[i]? =some y):rdI l (i:Int)=some y:=by rw[rdI_nat];exact h
theorem drop_hd{α:Type}{l:List α}{i:Nat}{x:α}{xs:List α}(e:l.drop i=x::xs):l[i]? =some x:=by rw[←List.head?_drop,e];rfl
theorem drop_tl{α:Type}{l:List α}{i:Nat}{x:α}{xs:List α}(e:l.drop i=x::xs):l.drop (i+1)=xs:=by
 rw[←List.drop_drop,e];rfl
theorem cl_t{α:Type}{l:List α}(h:l.length≤4294967290):cloneI l=some l:=if_pos h
theorem catI_t{a b:ByteArray}(h:a.size+b.size≤9223372036854775807):catI a b=some (a++b):=if_pos h
theorem bsize(a b:ByteArray):(a++b).size=a.size+b.size:=ByteArray.size_append
theorem wr_p{i:Nat}(h:0<(i:Int))(h2:i≤4294967296):IntKind.i64.wrap ((i:Int)-1)=((i-1:Nat):Int):=by rw[wrapI (by omega) (by omega)];omega
theorem wL_mem{α:Type}{w:α→Nat}{x:α}:∀{l:List α},x∈l→w x+1≤wL w l
 |[],h=>by cases h
 |y::l,h=>by
  unfold wL
  simp only[List.map_cons,List.sum_cons]
  rcases List.mem_cons.1 h with rfl|h
  ·omega
  ·have:=wL_mem (w:=w) h;unfold wL at this;omega
open Go Go.Fw
set_option maxRecDepth 100000
set_option linter.unusedVariables false
set_option linter.unusedSimpArgs false
theorem wF_pos(f:TField):1≤wTField f:=by rw[wTField_u];omega
theorem wV_pos(v:TValue):1≤wTValue v:=by rw[wTValue_u];omega
theorem wV_list{v x:TValue}(h:x∈v.List_):wTValue x<wTValue v:=by
 rw[wTValue_u v];have:=wL_mem (w:=wTValue) h;unfold wN;omega
theorem wV_field{v:TValue}{x:TField}(h:x∈v.Fields):wTValue x.V<wTValue v:=by
 rw[wTValue_u v];have:=wL_mem (w:=wTField) h;rw[wTField_u]at this;unfold wN at*;omega
theorem wV_name{v:TValue}{x:TField}(h:x∈v.Fields):x.Name.size<wTValue v:=by
 rw[wTValue_u v];have:=wL_mem (w:=wTField) h;rw[wTField_u]at this;unfold wN wS at*;omega
theorem wV_ll(v:TValue):v.List_.length<wTValue v:=by
 rw[wTValue_u v];have:=wL_len wV_pos v.List_;unfold wN;omega
theorem wV_fl(v:TValue):v.Fields.length<wTValue v:=by
 rw[wTValue_u v];have:=wL_len wF_pos v.Fields;unfold wN;omega
theorem wV_s(v:TValue):v.S.size<wTValue v:=by
 rw[wTValue_u v];unfold wN wS;omega
theorem vsize_l1(rc:TValue→Option Int):∀(l:List TValue) (i:Nat) (n:Int),(∀y∈l,∃r,rc y=some r)→∃r,F111_l1 rc l i n=some r
 |[],i,n,_=>⟨n,by rw[F111_l1]⟩
 |x::l,i,n,h=>by
  rw[F111_l1]
  exact exb (h x (List.mem_cons_self ..)) fun _ _=>vsize_l1 rc l _ _ fun y hy=>h y (List.mem_cons_of_mem _ hy)
theorem vsize_l5(rc:TValue→Option Int):∀(l:List TField) (i:Nat) (n:Int),(∀y∈l,∃r,rc y.V=some r)→∃r,F111_l5 rc l i n=some r
 |[],i,n,_=>⟨n,by rw[F111_l5]⟩
 |x::l,i,n,h=>by
  rw[F111_l5]
  exact exb (h x (List.mem_cons_self ..)) fun _ _=>vsize_l5 rc l _ _ fun y hy=>h y (List.mem_cons_of_mem _ hy)
theorem vsize_ex:∀(k:Nat) (v:TValue),wTValue v≤k→wTValue v≤4294967290→∃r,F111k k v=some r
 |0,v,h,_=>by have:=wV_pos v;omega
 |k+1,v,h,h2=>by
  have l1:=wV_ll v
  have l2:=wV_fl v
  rw[F111k,F111]
  exact exb (exb (exck (by omega)) fun _ _=>vsize_l1 _ _ _ _ fun y hy=>vsize_ex k y (by have:=wV_list hy;omega) (by have:=wV_list hy;omega)) fun _ _=>exb (exb (exck (by omega)) fun _ _=>vsize_l5 _ _ _ _ fun y hy=>vsize_ex k y.V (by have:=wV_field hy;omega) (by have:=wV_field hy;omega)) fun _ _=>⟨_,rfl⟩
theorem size_same_l1(rc:TValue→Option Int):∀(l:List TValue) (i:Nat) (n:Int),F31_l1 rc l i n=F111_l1 rc l i n
 |[],i,n=>by rw[F111_l1,F31_l1]
 |x::l,i,n=>by
  rw[F111_l1,F31_l1];congr 1;funext a;exact size_same_l1 rc l _ _
theorem size_same_l5(rc:TValue→Option Int):∀(l:List TField) (i:Nat) (n:Int),F31_l5 rc l i n=F111_l5 rc l i n
 |[],i,n=>by rw[F111_l5,F31_l5]
 |x::l,i,n=>by
  rw[F111_l5,F31_l5];congr 1;funext a;exact size_same_l5 rc l _ _
theorem size_same:∀k:Nat,F31k k=F111k k
 |0=>rfl
 |k+1=>by
  funext v
  rw[F31k,F111k,F31,F111,size_same k]
  simp only[size_same_l1,size_same_l5]
theorem text_l1(s:ByteArray)(hs:s.size≤4294967290):∀(n i k:Nat),s.size=i+n→n<k→∃r,F145_l1 s k (i:Int)=some r
 |0,i,k+1,h,_=>by rw[F145_l1,if_neg (by omega)];exact⟨_,rfl⟩
 |n+1,i,k+1,h,hk=>by
  rw[F145_l1,if_pos (by omega),wrapN (by omega)]
  have ih:=text_l1 s hs n (i+1) k (by omega) (by omega)
  repeat'(first|exact⟨_,rfl⟩|exact ih|exact exck (by omega)|exact byI_ex (by omega) (by omega)|exact rdI_ex (by omega) (by omega)|exact apI_ex (by omega)|with_reducible refine exif (fun _=>?_) (fun _=>?_)|with_reducible refine exb ?_ (fun _ _=>?_)|with_reducible refine exmap ?_|split)
theorem text_ex(s:ByteArray)(hs:s.size≤4294967290):∃r,F145 s=some r:=by
 rw[F145]
 exact exb (by have:=text_l1 s hs s.size 0 1099511627776 (by omega) (by omega);exact this) fun o _=>by repeat'(first|exact⟨_,rfl⟩|exact exck (by omega)|exact byI_ex (by omega) (by omega)|exact rdI_ex (by omega) (by omega)|exact apI_ex (by omega)|with_reducible refine exif (fun _=>?_) (fun _=>?_)|with_reducible refine exb ?_ (fun _ _=>?_)|with_reducible refine exmap ?_|split)
theorem vname_l1(s:ByteArray)(hs:s.size≤4294967290):∀(n i k:Nat),s.size=i+n→n<k→∃r,F134_l1 s k (i:Int)=some r
 |0,i,k+1,h,_=>by rw[F134_l1,if_neg (by omega)];exact⟨_,rfl⟩
 |n+1,i,k+1,h,hk=>by
  rw[F134_l1,if_pos (by omega),wrapN (by omega)]
  have ih:=vname_l1 s hs n (i+1) k (by omega) (by omega)
  repeat'(first|exact⟨_,rfl⟩|exact ih|exact exck (by omega)|exact byI_ex (by omega) (by omega)|exact rdI_ex (by omega) (by omega)|exact apI_ex (by omega)|with_reducible refine exif (fun _=>?_) (fun _=>?_)|with_reducible refine exb ?_ (fun _ _=>?_)|with_reducible refine exmap ?_|split)
theorem vname_ex(s:ByteArray)(hs:s.size≤4294967290):∃r,F134 s=some r:=by
 rw[F134]
 exact exb (by have:=vname_l1 s hs s.size 0 1099511627776 (by omega) (by omega);exact this) fun o _=>by repeat'(first|exact⟨_,rfl⟩|exact exck (by omega)|exact byI_ex (by omega) (by omega)|exact rdI_ex (by omega) (by omega)|exact apI_ex (by omega)|with_reducible refine exif (fun _=>?_) (fun _=>?_)|with_reducible refine exb ?_ (fun _ _=>?_)|with_reducible refine exmap ?_|split)
theorem scalar_ex(v:TValue)(hs:v.S.size≤4294967290):∃r,F133 v=some r:=by
 rw[F133]
 have h:=text_ex v.S hs
 repeat'(first|exact⟨_,rfl⟩|exact h|exact exck (by omega)|exact byI_ex (by omega) (by omega)|exact rdI_ex (by omega) (by omega)|exact apI_ex (by omega)|with_reducible refine exif (fun _=>?_) (fun _=>?_)|with_reducible refine exb ?_ (fun _ _=>?_)|with_reducible refine exmap ?_|split)
theorem vvalid_l16(rc:TValue→Int→Option Bool)(d:Int):∀(l:List TValue) (i:Nat),(∀y∈l,∀d,∃r,rc y d=some r)→∃r,F110_l16 rc d l i=some r
 |[],i,_=>⟨_,by rw[F110_l16]⟩
 |x::l,i,h=>by
  rw[F110_l16]
  have ih:=vvalid_l16 rc d l (i+1) fun y hy=>h y (List.mem_cons_of_mem _ hy)
  exact exb (h x (List.mem_cons_self ..) _) fun _ _=>by repeat'(first|exact⟨_,rfl⟩|exact ih|exact exck (by omega)|exact byI_ex (by omega) (by omega)|exact rdI_ex (by omega) (by omega)|exact apI_ex (by omega)|with_reducible refine exif (fun _=>?_) (fun _=>?_)|with_reducible refine exb ?_ (fun _ _=>?_)|with_reducible refine exmap ?_|split)
theorem vvalid_l21(rc:TValue→Int→Option Bool)(v:TValue)(d:Int)(hv:wTValue v≤4294967290)(h:∀y∈v.Fields,∀d,∃r,rc y.V d=some r):∀(l:List TField) (i:Nat),v.Fields.drop i=l→∃r,F110_l21 rc v d l i=some r
 |[],i,_=>⟨_,by rw[F110_l21]⟩
 |x::l,i,e=>by
  rw[F110_l21]
  have ih:=vvalid_l21 rc v d hv h l (i+1) (drop_tl e)
  have hx:=List.mem_of_getElem? (drop_hd e)
  have hn:=vname_ex x.Name (by have:=wV_name hx;omega)
  have hr:=h x hx (IntKind.i64.wrap (d-1))
  have hi:=(List.getElem?_eq_some_iff.1 (drop_hd e)).1
  have hl:=wV_fl v
  by_cases h0:0<(i:Int)
  ·have hp:∃y,rdI v.Fields (IntKind.i64.wrap ((i:Int)-1))=some y:=by rw[wr_p h0 (by omega)];exact rdI_ex (by omega) (by omega)
   repeat'(first|exact⟨_,rfl⟩|exact ih|exact hn|exact hr|exact hp|exact exck (by omega)|exact byI_ex (by omega) (by omega)|exact rdI_ex (by omega) (by omega)|exact apI_ex (by omega)|with_reducible refine exif (fun _=>?_) (fun _=>?_)|with_reducible refine exb ?_ (fun _ _=>?_)|with_reducible refine exmap ?_|split)
  ·rw[if_neg h0]
   repeat'(first|exact⟨_,rfl⟩|exact ih|exact hn|exact hr|exact exck (by omega)|exact byI_ex (by omega) (by omega)|exact rdI_ex (by omega) (by omega)|exact apI_ex (by omega)|with_reducible refine exif (fun _=>?_) (fun _=>?_)|with_reducible refine exb ?_ (fun _ _=>?_)|with_reducible refine exmap ?_|split)
theorem vvalid_ex:∀(k:Nat) (v:TValue) (d:Int),wTValue v≤k→wTValue v≤4294967290→∃r,F110k k v d=some r
 |0,v,d,h,_=>by have:=wV_pos v;omega
 |k+1,v,d,h,h2=>by
  have l1:=wV_ll v
  have l2:=wV_fl v
  have l3:=wV_s v
  rw[F110k,F110]
  have g0:=scalar_ex v (by omega)
  have g1:=vvalid_l16 (F110k k) d v.List_ 0 fun y hy d=>vvalid_ex k y d (by have:=wV_list hy;omega) (by have:=wV_list hy;omega)
  have g2:=vvalid_l21 (F110k k) v d h2 (fun y hy d=>vvalid_ex k y.V d (by have:=wV_field hy;omega) (by have:=wV_field hy;omega)) v.Fields 0 (List.drop_zero ..)
  repeat'(first|exact⟨_,rfl⟩|exact g0|exact g1|exact g2|exact exck (by omega)|exact byI_ex (by omega) (by omega)|exact rdI_ex (by omega) (by omega)|exact apI_ex (by omega)|with_reducible refine exif (fun _=>?_) (fun _=>?_)|with_reducible refine exb ?_ (fun _ _=>?_)|with_reducible refine exmap ?_|split)
theorem vValid_ex(v:TValue)(h:wTValue v≤4000000):∃r,F80 v=some r:=by
 rw[F80]
 have g1:=vvalid_ex 1099511627776 v 12 (by omega) (by omega)
 have g2:=vsize_ex 1099511627776 v (by omega) (by omega)
 repeat'(first|exact⟨_,rfl⟩|exact g1|exact g2|exact exck (by omega)|exact byI_ex (by omega) (by omega)|exact rdI_ex (by omega) (by omega)|exact apI_ex (by omega)|with_reducible refine exif (fun _=>?_) (fun _=>?_)|with_reducible refine exb ?_ (fun _ _=>?_)|with_reducible refine exmap ?_|split)
open Go Go.Fw
set_option maxRecDepth 100000
set_option linter.unusedVariables false
set_option linter.unusedSimpArgs false
structure OW(o:Object):Prop where
 key:o.Meta.Kind.size+o.Meta.Namespace.size+o.Meta.Name.size≤4000000
 labels:o.Meta.Labels.length≤4000000
 owners:o.Meta.Owners.length≤4000000
 fins:o.Meta.Finalizers.length≤4000000
 mans:o.Meta.Managers.length≤4000000
 man:∀m∈o.Meta.Managers,m.Fields.length≤4000000∧m.Name.size≤4000000
 spec:wTValue o.Spec≤4000000
 status:wTValue o.Status≤4000000
 label:∀l∈o.Meta.Labels,l.Key.size≤4000000∧l.Value.size≤4000000
 owner:∀l∈o.Meta.Owners,l.Kind.size≤4000000∧l.Name.size≤4000000
 fin:∀l∈o.Meta.Finalizers,l.size≤4000000
theorem oW{o:Object}(h:wObject o≤4000000):OW o:=by
 unfold wObject wMeta at h
 have a1:=wL_len (w:=wLabel) (fun a=>by unfold wLabel;omega) o.Meta.Labels
 have a2:=wL_len (w:=wOwner) (fun a=>by unfold wOwner;omega) o.Meta.Owners
 have a3:=wL_len (w:=wS) wS_pos o.Meta.Finalizers
 have a4:=wL_len (w:=wManager) (fun a=>by unfold wManager;omega) o.Meta.Managers
 simp only[wN,wS]at h a3
 refine⟨by omega,by omega,by omega,by omega,by omega,fun m hm=>?_,by omega,by omega,fun l hl=>?_,fun l hl=>?_,fun l hl=>?_⟩
 ·have:=wL_mem (w:=wManager) hm
  unfold wManager at this
  have b:=wL_len (w:=wS) wS_pos m.Fields
  simp only[wS]at this b
  unfold wManager at h;simp only[wS]at h
  omega
 ·have:=wL_mem (w:=wLabel) hl
  unfold wLabel at this h;simp only[wS]at this h
  omega
 ·have:=wL_mem (w:=wOwner) hl
  unfold wOwner at this h;simp only[wS,wN]at this h
  omega
 ·have:wS l+1≤_:=wL_mem (w:=wS) hl
  have e:wS l=l.size+1:=rfl
  omega
def keyB(m:Meta):ByteArray:=(((m.Kind++(⟨#[47]⟩:ByteArray))++m.Namespace)++(⟨#[47]⟩:ByteArray))++m.Name
def keyO(o:Object):ByteArray:=keyB o.Meta
theorem sl1:(⟨#[47]⟩:ByteArray).size=1:=rfl
theorem KeyOf_t{m:Meta}(h:m.Kind.size+m.Namespace.size+m.Name.size≤4000000):F37 m=some (keyB m):=by
 rw[F37,F78,catI_t (by rw[sl1];omega),Option.bind_some,catI_t (by rw[bsize,sl1];omega),Option.bind_some,catI_t (by rw[bsize,bsize,sl1];omega),Option.bind_some,catI_t (by rw[bsize,bsize,bsize,sl1];omega)]
 rfl
theorem rKeyOf_t{m:Meta}(h:m.Kind.size+m.Namespace.size+m.Name.size≤4000000):F93 m=some (keyB m):=KeyOf_t h
theorem rkey_t{o:Object}(h:OW o):F56 o=some (keyO o):=by
 rw[F56,rKeyOf_t h.key];rfl
theorem mkind_l1(s:ByteArray)(hs:s.size≤4294967290):∀(n i k:Nat),s.size=i+n→n<k→∃r,F103_l1 s k (i:Int)=some r
 |0,i,k+1,h,_=>by rw[F103_l1,if_neg (by omega)];exact⟨_,rfl⟩
 |n+1,i,k+1,h,hk=>by
  rw[F103_l1,if_pos (by omega),wrapN (by omega)]
  have ih:=mkind_l1 s hs n (i+1) k (by omega) (by omega)
  repeat'(first|exact⟨_,rfl⟩|exact ih|exact exck (by omega)|exact byI_ex (by omega) (by omega)|exact rdI_ex (by omega) (by omega)|exact apI_ex (by omega)|with_reducible refine exif (fun _=>?_) (fun _=>?_)|with_reducible refine exb ?_ (fun _ _=>?_)|with_reducible refine exmap ?_|split)
theorem mkind_ex(s:ByteArray)(hs:s.size≤4294967290):∃r,F103 s=some r:=by
 rw[F103]
 exact exb (by have:=mkind_l1 s hs s.size 0 1099511627776 (by omega) (by omega);exact this) fun o _=>by repeat'(first|exact⟨_,rfl⟩|exact exck (by omega)|exact byI_ex (by omega) (by omega)|exact rdI_ex (by omega) (by omega)|exact apI_ex (by omega)|with_reducible refine exif (fun _=>?_) (fun _=>?_)|with_reducible refine exb ?_ (fun _ _=>?_)|with_reducible refine exmap ?_|split)
theorem mname_l1(s:ByteArray)(hs:s.size≤4294967290):∀(n i k:Nat),s.size=i+n→n<k→∃r,F105_l1 s k (i:Int)=some r
 |0,i,k+1,h,_=>by rw[F105_l1,if_neg (by omega)];exact⟨_,rfl⟩
 |n+1,i,k+1,h,hk=>by
  rw[F105_l1,if_pos (by omega),wrapN (by omega)]
  have ih:=mname_l1 s hs n (i+1) k (by omega) (by omega)
  repeat'(first|exact⟨_,rfl⟩|exact ih|exact exck (by omega)|exact byI_ex (by omega) (by omega)|exact rdI_ex (by omega) (by omega)|exact apI_ex (by omega)|with_reducible refine exif (fun _=>?_) (fun _=>?_)|with_reducible refine exb ?_ (fun _ _=>?_)|with_reducible refine exmap ?_|split)
theorem mname_ex(s:ByteArray)(hs:s.size≤4294967290):∃r,F105 s=some r:=by
 rw[F105]
 refine exb (by have:=mname_l1 s hs s.size 0 1099511627776 (by omega) (by omega);exact this) fun o _=>?_
 have hw:1≤(s.size:Int)→∃y,byI s (IntKind.i64.wrap ((s.size:Int)-1))=some y:=fun h=>by
  rw[wr_p (by omega) (by omega)];exact byI_ex (by omega) (by omega)
 repeat'(first|exact⟨_,rfl⟩|exact hw (by assumption)|exact exck (by omega)|exact byI_ex (by omega) (by omega)|exact rdI_ex (by omega) (by omega)|exact apI_ex (by omega)|with_reducible refine exif (fun _=>?_) (fun _=>?_)|with_reducible refine exb ?_ (fun _ _=>?_)|with_reducible refine exmap ?_|split)
theorem mspace_ex(s:ByteArray)(hs:s.size≤4294967290):∃r,F104 s=some r:=by
 rw[F104]
 have h:=mname_ex s hs
 repeat'(first|exact⟨_,rfl⟩|exact h|exact exck (by omega)|exact byI_ex (by omega) (by omega)|exact rdI_ex (by omega) (by omega)|exact apI_ex (by omega)|with_reducible refine exif (fun _=>?_) (fun _=>?_)|with_reducible refine exb ?_ (fun _ _=>?_)|with_reducible refine exmap ?_|split)
theorem wbyte_ex(n:Int):∃r,F144 n=some r:=by
 rw[F144]
 repeat'(first|exact⟨_,rfl⟩|exact exck (by omega)|exact byI_ex (by omega) (by omega)|exact rdI_ex (by omega) (by omega)|exact apI_ex (by omega)|with_reducible refine exif (fun _=>?_) (fun _=>?_)|with_reducible refine exb ?_ (fun _ _=>?_)|with_reducible refine exmap ?_|split)
theorem lkey_l8(s:ByteArray)(hs:s.size≤4294967290):∀(n i k:Nat),s.size=i+n→n<k→∃r,F130_l8 s k (i:Int)=some r
 |0,i,k+1,h,_=>by rw[F130_l8,if_neg (by omega)];exact⟨_,rfl⟩
 |n+1,i,k+1,h,hk=>by
  rw[F130_l8,if_pos (by omega),wrapN (by omega)]
  have ih:=lkey_l8 s hs n (i+1) k (by omega) (by omega)
  repeat'(first|exact⟨_,rfl⟩|exact ih|exact wbyte_ex _|exact exck (by omega)|exact byI_ex (by omega) (by omega)|exact rdI_ex (by omega) (by omega)|exact apI_ex (by omega)|with_reducible refine exif (fun _=>?_) (fun _=>?_)|with_reducible refine exb ?_ (fun _ _=>?_)|with_reducible refine exmap ?_|split)
theorem size_ne{s:ByteArray}(h:¬s=(⟨#[]⟩:ByteArray)):0<s.size:=by
 rcases Nat.eq_zero_or_pos s.size with h0|h0
 ·refine(h ?_).elim
  obtain⟨a⟩:=s
  have:a= #[]:=Array.size_eq_zero_iff.1 h0
  rw[this]
 ·exact h0
theorem lkey_ex(s:ByteArray)(hs:s.size≤4294967290):∃r,F130 s=some r:=by
 rw[F130]
 have h8:∃r,F130_l8 s 1099511627776 0=some r:=lkey_l8 s hs s.size 0 1099511627776 (by omega) (by omega)
 have h0:¬s=(⟨#[]⟩:ByteArray)→∃y,byI s 0=some y:=fun h=>byI_ex (by omega) (by have:=size_ne h;omega)
 repeat'(first|exact⟨_,rfl⟩|exact h8|exact h0 (by assumption)|exact exck (by omega)|exact byI_ex (by omega) (by omega)|exact rdI_ex (by omega) (by omega)|exact apI_ex (by omega)|with_reducible refine exif (fun _=>?_) (fun _=>?_)|with_reducible refine exb ?_ (fun _ _=>?_)|with_reducible refine exmap ?_|split)
theorem lval_l2(s:ByteArray)(hs:s.size≤4294967290):∀(n i k:Nat),s.size=i+n→n<k→∃r,F131_l2 s k (i:Int)=some r
 |0,i,k+1,h,_=>by rw[F131_l2,if_neg (by omega)];exact⟨_,rfl⟩
 |n+1,i,k+1,h,hk=>by
  rw[F131_l2,if_pos (by omega),wrapN (by omega)]
  have ih:=lval_l2 s hs n (i+1) k (by omega) (by omega)
  repeat'(first|exact⟨_,rfl⟩|exact ih|exact wbyte_ex _|exact exck (by omega)|exact byI_ex (by omega) (by omega)|exact rdI_ex (by omega) (by omega)|exact apI_ex (by omega)|with_reducible refine exif (fun _=>?_) (fun _=>?_)|with_reducible refine exb ?_ (fun _ _=>?_)|with_reducible refine exmap ?_|split)
theorem lval_ex(s:ByteArray)(hs:s.size≤4294967290):∃r,F131 s=some r:=by
 rw[F131]
 have h2:∃r,F131_l2 s 1099511627776 0=some r:=lval_l2 s hs s.size 0 1099511627776 (by omega) (by omega)
 repeat'(first|exact⟨_,rfl⟩|exact h2|exact exck (by omega)|exact byI_ex (by omega) (by omega)|exact rdI_ex (by omega) (by omega)|exact apI_ex (by omega)|with_reducible refine exif (fun _=>?_) (fun _=>?_)|with_reducible refine exb ?_ (fun _ _=>?_)|with_reducible refine exmap ?_|split)
theorem lvalid_l2(l:List Label)(hl:l.length≤4294967290)(h:∀x∈l,x.Key.size≤4294967290∧x.Value.size≤4294967290):∀(xs:List Label) (i:Nat),l.drop i=xs→∃r,F106_l2 l xs i=some r
 |[],i,_=>⟨_,by rw[F106_l2]⟩
 |x::xs,i,e=>by
  rw[F106_l2]
  have ih:=lvalid_l2 l hl h xs (i+1) (drop_tl e)
  have hx:=List.mem_of_getElem? (drop_hd e)
  have hi:=(List.getElem?_eq_some_iff.1 (drop_hd e)).1
  have g1:=lkey_ex x.Key (h x hx).1
  have g2:=lval_ex x.Value (h x hx).2
  have hp:0<(i:Int)→∃y,rdI l (IntKind.i64.wrap ((i:Int)-1))=some y:=fun h0=>by rw[wr_p h0 (by omega)];exact rdI_ex (by omega) (by omega)
  repeat'(first|exact⟨_,rfl⟩|exact ih|exact g1|exact g2|exact hp (by assumption)|exact exck (by omega)|exact byI_ex (by omega) (by omega)|exact rdI_ex (by omega) (by omega)|exact apI_ex (by omega)|with_reducible refine exif (fun _=>?_) (fun _=>?_)|with_reducible refine exb ?_ (fun _ _=>?_)|with_reducible refine exmap ?_|split)
theorem lvalid_ex(l:List Label)(hl:l.length≤4294967290)(h:∀x∈l,x.Key.size≤4294967290∧x.Value.size≤4294967290):∃r,F106 l=some r:=by
 rw[F106]
 have g:=lvalid_l2 l hl h l 0 (List.drop_zero ..)
 repeat'(first|exact⟨_,rfl⟩|exact g|exact exck (by omega)|exact byI_ex (by omega) (by omega)|exact rdI_ex (by omega) (by omega)|exact apI_ex (by omega)|with_reducible refine exif (fun _=>?_) (fun _=>?_)|with_reducible refine exb ?_ (fun _ _=>?_)|with_reducible refine exmap ?_|split)
theorem own_l1:∀(l:List Owner) (i:Nat) (a:List (Int×Bool)) (n:Int),(∀x∈l,x.Kind.size≤4294967290∧x.Name.size≤4294967290)→∃r,F107_l1 l i a n=some r
 |[],i,a,n,_=>⟨_,by rw[F107_l1]⟩
 |x::l,i,a,n,h=>by
  rw[F107_l1]
  have ih:=fun a n=>own_l1 l (i+1) a n fun y hy=>h y (List.mem_cons_of_mem _ hy)
  have g1:=mkind_ex x.Kind (h x (List.mem_cons_self ..)).1
  have g2:=mname_ex x.Name (h x (List.mem_cons_self ..)).2
  repeat'(first|exact⟨_,rfl⟩|exact ih _ _|exact g1|exact g2|exact exck (by omega)|exact byI_ex (by omega) (by omega)|exact rdI_ex (by omega) (by omega)|exact apI_ex (by omega)|with_reducible refine exif (fun _=>?_) (fun _=>?_)|with_reducible refine exb ?_ (fun _ _=>?_)|with_reducible refine exmap ?_|split)
theorem own_ex(l:List Owner)(hl:l.length≤4294967290)(h:∀x∈l,x.Kind.size≤4294967290∧x.Name.size≤4294967290):∃r,F107 l=some r:=by
 rw[F107]
 have g:=own_l1 l 0 [] 0 h
 repeat'(first|exact⟨_,rfl⟩|exact g|exact exck (by omega)|exact byI_ex (by omega) (by omega)|exact rdI_ex (by omega) (by omega)|exact apI_ex (by omega)|with_reducible refine exif (fun _=>?_) (fun _=>?_)|with_reducible refine exb ?_ (fun _ _=>?_)|with_reducible refine exmap ?_|split)
theorem fin_l1:∀(l:List ByteArray) (i:Nat) (a:List (ByteArray×Bool)),(∀x∈l,x.size≤4294967290)→∃r,F108_l1 l i a=some r
 |[],i,a,_=>⟨_,by rw[F108_l1]⟩
 |x::l,i,a,h=>by
  rw[F108_l1]
  have ih:=fun a=>fin_l1 l (i+1) a fun y hy=>h y (List.mem_cons_of_mem _ hy)
  have g1:=mname_ex x (h x (List.mem_cons_self ..))
  repeat'(first|exact⟨_,rfl⟩|exact ih _|exact g1|exact exck (by omega)|exact byI_ex (by omega) (by omega)|exact rdI_ex (by omega) (by omega)|exact apI_ex (by omega)|with_reducible refine exif (fun _=>?_) (fun _=>?_)|with_reducible refine exb ?_ (fun _ _=>?_)|with_reducible refine exmap ?_|split)
theorem fin_ex(l:List ByteArray)(hl:l.length≤4294967290)(h:∀x∈l,x.size≤4294967290):∃r,F108 l=some r:=by
 rw[F108]
 have g:=fin_l1 l 0 [] h
 repeat'(first|exact⟨_,rfl⟩|exact g|exact exck (by omega)|exact byI_ex (by omega) (by omega)|exact rdI_ex (by omega) (by omega)|exact apI_ex (by omega)|with_reducible refine exif (fun _=>?_) (fun _=>?_)|with_reducible refine exb ?_ (fun _ _=>?_)|with_reducible refine exmap ?_|split)
theorem ris_l1(l:List ByteArray)(hl:l.length≤4294967290):∀(n i k:Nat),l.length≤i+n→1≤i→i≤4294967291→n<k→∃r,F132_l1 l k (i:Int)=some r
 |0,i,k+1,h,_,_,_=>by rw[F132_l1,if_neg (by omega)];exact⟨_,rfl⟩
 |n+1,i,k+1,h,h1,h2,hk=>by
  rw[F132_l1]
  by_cases hi:(i:Int)<(l.length:Int)
  ·rw[if_pos hi,wrapN (by omega),wr_p (by omega) (by omega)]
   have ih:=ris_l1 l hl n (i+1) k (by omega) (by omega) (by omega) (by omega)
   repeat'(first|exact⟨_,rfl⟩|exact ih|exact exck (by omega)|exact byI_ex (by omega) (by omega)|exact rdI_ex (by omega) (by omega)|exact apI_ex (by omega)|with_reducible refine exif (fun _=>?_) (fun _=>?_)|with_reducible refine exb ?_ (fun _ _=>?_)|with_reducible refine exmap ?_|split)
  ·rw[if_neg hi];exact⟨_,rfl⟩
theorem ris_ex(l:List ByteArray)(hl:l.length≤4294967290):∃r,F132 l=some r:=by
 rw[F132]
 have g:∃r,F132_l1 l 1099511627776 1=some r:=ris_l1 l hl l.length 1 1099511627776 (by omega) (by omega) (by omega) (by omega)
 repeat'(first|exact⟨_,rfl⟩|exact g|exact exck (by omega)|exact byI_ex (by omega) (by omega)|exact rdI_ex (by omega) (by omega)|exact apI_ex (by omega)|with_reducible refine exif (fun _=>?_) (fun _=>?_)|with_reducible refine exb ?_ (fun _ _=>?_)|with_reducible refine exmap ?_|split)
theorem man_l1(l:List Manager)(hl:l.length≤4294967290)(h:∀x∈l,x.Fields.length≤4294967290∧x.Name.size≤4294967290):∀(xs:List Manager) (i:Nat),l.drop i=xs→∃r,F109_l1 l xs i=some r
 |[],i,_=>⟨_,by rw[F109_l1]⟩
 |x::xs,i,e=>by
  rw[F109_l1]
  have ih:=man_l1 l hl h xs (i+1) (drop_tl e)
  have hx:=List.mem_of_getElem? (drop_hd e)
  have hi:=(List.getElem?_eq_some_iff.1 (drop_hd e)).1
  have g1:=mname_ex x.Name (h x hx).2
  have g2:=ris_ex x.Fields (h x hx).1
  have hp:0<(i:Int)→∃y,rdI l (IntKind.i64.wrap ((i:Int)-1))=some y:=fun h0=>by rw[wr_p h0 (by omega)];exact rdI_ex (by omega) (by omega)
  repeat'(first|exact⟨_,rfl⟩|exact ih|exact g1|exact g2|exact hp (by assumption)|exact exck (by omega)|exact byI_ex (by omega) (by omega)|exact rdI_ex (by omega) (by omega)|exact apI_ex (by omega)|with_reducible refine exif (fun _=>?_) (fun _=>?_)|with_reducible refine exb ?_ (fun _ _=>?_)|with_reducible refine exmap ?_|split)
theorem man_ex(l:List Manager)(hl:l.length≤4294967290)(h:∀x∈l,x.Fields.length≤4294967290∧x.Name.size≤4294967290):∃r,F109 l=some r:=by
 rw[F109]
 have g:=man_l1 l hl h l 0 (List.drop_zero ..)
 repeat'(first|exact⟨_,rfl⟩|exact g|exact exck (by omega)|exact byI_ex (by omega) (by omega)|exact rdI_ex (by omega) (by omega)|exact apI_ex (by omega)|with_reducible refine exif (fun _=>?_) (fun _=>?_)|with_reducible refine exb ?_ (fun _ _=>?_)|with_reducible refine exmap ?_|split)
theorem mValid_ex{o:Object}(h:OW o):∃r,F79 o.Meta=some r:=by
 rw[F79]
 have g1:=mkind_ex o.Meta.Kind (by have:=h.key;omega)
 have g2:=mspace_ex o.Meta.Namespace (by have:=h.key;omega)
 have g3:=mname_ex o.Meta.Name (by have:=h.key;omega)
 have g4:=lvalid_ex o.Meta.Labels (by have:=h.labels;omega) (fun x hx=>by have:=h.label x hx;omega)
 have g5:=own_ex o.Meta.Owners (by have:=h.owners;omega) (fun x hx=>by have:=h.owner x hx;omega)
 have g6:=fin_ex o.Meta.Finalizers (by have:=h.fins;omega) (fun x hx=>by have:=h.fin x hx;omega)
 have g7:=man_ex o.Meta.Managers (by have:=h.mans;omega) (fun x hx=>by have:=h.man x hx;omega)
 repeat'(first|exact⟨_,rfl⟩|exact g1|exact g2|exact g3|exact g4|exact g5|exact g6|exact g7|exact exck (by omega)|exact byI_ex (by omega) (by omega)|exact rdI_ex (by omega) (by omega)|exact apI_ex (by omega)|with_reducible refine exif (fun _=>?_) (fun _=>?_)|with_reducible refine exb ?_ (fun _ _=>?_)|with_reducible refine exmap ?_|split)
theorem vObj_ex{o:Object}(h:OW o):∃r,F38 o=some r:=by
 rw[F38]
 have g1:=mValid_ex h
 have g2:=vValid_ex o.Spec h.spec
 have g3:=vValid_ex o.Status h.status
 repeat'(first|exact⟨_,rfl⟩|exact g1|exact g2|exact g3|exact exck (by omega)|exact byI_ex (by omega) (by omega)|exact rdI_ex (by omega) (by omega)|exact apI_ex (by omega)|with_reducible refine exif (fun _=>?_) (fun _=>?_)|with_reducible refine exb ?_ (fun _ _=>?_)|with_reducible refine exmap ?_|split)
structure SW(s:TStore):Prop where
 base:∀o∈s.Base,OW o
 objs:∀o∈s.Objects,OW o
 hist:∀c∈s.History,OW c.Object
 bl:s.Base.length≤4000000
 ol:s.Objects.length≤4000000
 hl:s.History.length≤4000000
open Go Go.Fw
set_option maxRecDepth 100000
set_option linter.unusedVariables false
set_option linter.unusedSimpArgs false
theorem cint_t(a b:Int):∃n,F113 a b=some n∧(n=0↔a=b):=by
 rw[F113,F135,F135]
 simp only[Option.bind_some,not_true_eq_false,if_false]
 by_cases h1:a<b
 ·rw[if_pos h1];exact⟨_,rfl,by omega⟩
 ·rw[if_neg h1]
  by_cases h2:b<a
  ·rw[if_pos h2];exact⟨_,rfl,by omega⟩
  ·rw[if_neg h2];exact⟨_,rfl,by omega⟩
theorem cstr_t(a b:ByteArray):∃n,F72 a b=some n∧(n=0↔a=b):=⟨scmp a b,rfl,scmp_zero a b⟩
theorem or_l1:∀(l:List Int) (i:Nat),(F112_l1 l i=some (.inr ())∧∀x∈l,x=0)∨(∃n,F112_l1 l i=some (.inl n)∧n≠0∧∃x∈l,x≠0)
 |[],i=> .inl ⟨by rw[F112_l1],by simp⟩
 |x::l,i=>by
  rw[F112_l1]
  by_cases h:x=0
  ·rw[if_neg (by simp[h])]
   rcases or_l1 l (i+1)with⟨h1,h2⟩|⟨n,h1,h2,y,h3,h4⟩
   ·exact .inl ⟨h1,fun z hz=>(List.mem_cons.1 hz).elim (fun e=>e.trans h) (h2 z)⟩
   ·exact .inr ⟨n,h1,h2,y,List.mem_cons_of_mem _ h3,h4⟩
  ·rw[if_pos h];exact .inr ⟨x,rfl,h,x,List.mem_cons_self ..,h⟩
theorem or_t(l:List Int)(hl:l.length≤4294967290):∃n,F112 l=some n∧(n=0↔∀x∈l,x=0):=by
 rw[F112,ck_t (by omega),Option.bind_some]
 rcases or_l1 l 0 with⟨h1,h2⟩|⟨n,h1,h2,y,h3,h4⟩
 ·rw[h1];exact⟨0,rfl,by simpa using h2⟩
 ·rw[h1];exact⟨n,rfl,fun h=>(h2 h).elim,fun h=>(h4 (h y h3)).elim⟩
theorem take_cons'{α:Type}{l:List α}{i:Nat}{y:α}(h:l[i]? =some y)(n:Nat):(l.drop i).take (n+1)=y::(l.drop (i+1)).take n:=by
 obtain⟨h1,h2⟩:=List.getElem?_eq_some_iff.1 h
 rw[List.drop_eq_getElem_cons h1,h2,List.take_succ_cons]
theorem clist_l1(rc:TValue→TValue→Option Int)(l x1:List TValue)(h:∀x∈l,∀y,∃n,rc x y=some n∧(n=0↔x=y)):∀(xs:List TValue) (i:Nat),l.drop i=xs→(F114_l1 rc x1 xs i=some (.inr ())∧(x1.drop i).take xs.length=xs)∨(∃n,F114_l1 rc x1 xs i=some (.inl n)∧n≠0∧(x1.drop i).take xs.length≠xs)
 |[],i,_=> .inl ⟨by rw[F114_l1],by simp⟩
 |x::xs,i,e=>by
  rw[F114_l1]
  by_cases hi:(x1.length:Int)≤(i:Int)
  ·rw[if_pos hi]
   refine .inr ⟨1,rfl,by omega,?_⟩
   rw[List.drop_of_length_le (by omega)];simp
  ·rw[if_neg hi]
   have hy:x1[i]? =some x1[i]:=List.getElem?_eq_getElem (by omega)
   rw[rdI_val hy,Option.bind_some]
   obtain⟨n,h1,h2⟩:=h x (List.mem_of_getElem? (drop_hd e)) x1[i]
   rw[h1,Option.bind_some,List.length_cons,take_cons' hy]
   by_cases hn:n=0
   ·rw[if_neg (by simp[hn]),←h2.1 hn]
    rcases clist_l1 rc l x1 h xs (i+1) (drop_tl e)with⟨h3,h4⟩|⟨m,h3,h4,h5⟩
    ·exact .inl ⟨h3,by rw[h4]⟩
    ·exact .inr ⟨m,h3,h4,fun hh=>h5 (List.cons.inj hh).2⟩
   ·rw[if_pos hn]
    exact .inr ⟨n,rfl,hn,fun hh=>hn (h2.2 (List.cons.inj hh).1.symm)⟩
theorem clist_t(rc:TValue→TValue→Option Int)(l x1:List TValue)(hl:l.length≤4294967290)(h:∀x∈l,∀y,∃n,rc x y=some n∧(n=0↔x=y)):∃n,F114 rc l x1=some n∧(n=0↔l=x1):=by
 rw[F114,ck_t (by omega),Option.bind_some]
 rcases clist_l1 rc l x1 h l 0 (List.drop_zero ..)with⟨h3,h4⟩|⟨m,h3,h4,h5⟩
 ·rw[h3,List.drop_zero]at*
  simp only[Option.bind_some]
  by_cases hx:(l.length:Int)<(x1.length:Int)
  ·rw[if_pos hx];exact⟨_,rfl,fun h=>by omega,fun h=>by rw[h]at hx;omega⟩
  ·rw[if_neg hx];exact⟨_,rfl,fun _=>by rw[List.take_of_length_le (by omega)]at h4;exact h4.symm,fun _=>rfl⟩
 ·rw[h3];exact⟨m,rfl,fun h=>(h4 h).elim,fun h=>(h5 (by rw[List.drop_zero,←h,List.take_length])).elim⟩
theorem cfield_t(rc:TValue→TValue→Option Int)(x y:TField)(h:∃n,rc x.V y.V=some n∧(n=0↔x.V=y.V)):∃n,F116 rc x y=some n∧(n=0↔x=y):=by
 rw[F116]
 obtain⟨a,a1,a2⟩:=cstr_t x.Name y.Name
 obtain⟨b,b1,b2⟩:=h
 obtain⟨c,c1,c2⟩:=or_t [a,b] (by simp)
 rw[a1,Option.bind_some,b1,Option.bind_some,c1]
 refine⟨c,rfl,c2.trans ?_⟩
 simp only[List.mem_cons,List.not_mem_nil,or_false,forall_eq_or_imp,forall_eq,a2,b2]
 cases x;cases y;simp
theorem cfl_l1(rc:TValue→TValue→Option Int)(l x1:List TField)(h:∀x∈l,∀y,∃n,rc x.V y=some n∧(n=0↔x.V=y)):∀(xs:List TField) (i:Nat),l.drop i=xs→(F115_l1 rc x1 xs i=some (.inr ())∧(x1.drop i).take xs.length=xs)∨(∃n,F115_l1 rc x1 xs i=some (.inl n)∧n≠0∧(x1.drop i).take xs.length≠xs)
 |[],i,_=> .inl ⟨by rw[F115_l1],by simp⟩
 |x::xs,i,e=>by
  rw[F115_l1]
  by_cases hi:(x1.length:Int)≤(i:Int)
  ·rw[if_pos hi]
   refine .inr ⟨1,rfl,by omega,?_⟩
   rw[List.drop_of_length_le (by omega)];simp
  ·rw[if_neg hi]
   have hy:x1[i]? =some x1[i]:=List.getElem?_eq_getElem (by omega)
   rw[rdI_val hy,Option.bind_some]
   obtain⟨n,h1,h2⟩:=cfield_t rc x x1[i] (h x (List.mem_of_getElem? (drop_hd e)) _)
   rw[h1,Option.bind_some,List.length_cons,take_cons' hy]
   by_cases hn:n=0
   ·rw[if_neg (by simp[hn]),←h2.1 hn]
    rcases cfl_l1 rc l x1 h xs (i+1) (drop_tl e)with⟨h3,h4⟩|⟨m,h3,h4,h5⟩
    ·exact .inl ⟨h3,by rw[h4]⟩
    ·exact .inr ⟨m,h3,h4,fun hh=>h5 (List.cons.inj hh).2⟩
   ·rw[if_pos hn]
    exact .inr ⟨n,rfl,hn,fun hh=>hn (h2.2 (List.cons.inj hh).1.symm)⟩
theorem cfl_t(rc:TValue→TValue→Option Int)(l x1:List TField)(hl:l.length≤4294967290)(h:∀x∈l,∀y,∃n,rc x.V y=some n∧(n=0↔x.V=y)):∃n,F115 rc l x1=some n∧(n=0↔l=x1):=by
 rw[F115,ck_t (by omega),Option.bind_some]
 rcases cfl_l1 rc l x1 h l 0 (List.drop_zero ..)with⟨h3,h4⟩|⟨m,h3,h4,h5⟩
 ·rw[h3,List.drop_zero]at*
  simp only[Option.bind_some]
  by_cases hx:(l.length:Int)<(x1.length:Int)
  ·rw[if_pos hx];exact⟨_,rfl,fun h=>by omega,fun h=>by rw[h]at hx;omega⟩
  ·rw[if_neg hx];exact⟨_,rfl,fun _=>by rw[List.take_of_length_le (by omega)]at h4;exact h4.symm,fun _=>rfl⟩
 ·rw[h3];exact⟨m,rfl,fun h=>(h4 h).elim,fun h=>(h5 (by rw[List.drop_zero,←h,List.take_length])).elim⟩
theorem cmpV_t:∀(k:Nat) (x y:TValue),wTValue x≤k→wTValue x≤4294967290→∃n,F82k k x y=some n∧(n=0↔x=y)
 |0,x,y,h,_=>by have:=wV_pos x;omega
 |k+1,x,y,h,h2=>by
  have l1:=wV_ll x
  have l2:=wV_fl x
  rw[F82k,F82]
  obtain⟨a,a1,a2⟩:=cint_t x.Kind y.Kind
  obtain⟨b,b1,b2⟩:=cint_t x.N y.N
  obtain⟨c,c1,c2⟩:=cstr_t x.S y.S
  obtain⟨d,d1,d2⟩:=clist_t (F82k k) x.List_ y.List_ (by omega) fun z hz y=>cmpV_t k z y (by have:=wV_list hz;omega) (by have:=wV_list hz;omega)
  obtain⟨e,e1,e2⟩:=cfl_t (F82k k) x.Fields y.Fields (by omega) fun z hz y=>cmpV_t k z.V y (by have:=wV_field hz;omega) (by have:=wV_field hz;omega)
  obtain⟨f,f1,f2⟩:=or_t (lit [a,b,c,d,e]) (by simp[lit])
  rw[a1,Option.bind_some,b1,Option.bind_some,c1,Option.bind_some,d1,Option.bind_some,e1,Option.bind_some,f1]
  refine⟨f,rfl,f2.trans ?_⟩
  simp only[lit,List.mem_cons,List.not_mem_nil,or_false,forall_eq_or_imp,forall_eq,a2,b2,c2,d2,e2]
  cases x;cases y;simp
theorem eqV_t{x:TValue}(y:TValue)(h:wTValue x≤4000000):∃b,F40 x y=some b∧(b=true↔x=y):=by
 obtain⟨n,h1,h2⟩:=cmpV_t 1099511627776 x y (by omega) (by omega)
 exact⟨decide (n=0),by rw[F40,h1];rfl,by simpa using h2⟩
theorem eqLab_l2(l x1:List Label)(hl:l.length=x1.length):∀(xs:List Label) (i:Nat),l.drop i=xs→F45_l2 x1 xs i=some (if xs=x1.drop i then .inr ()else .inl false)
 |[],i,e=>by
  have:l.length≤i:=by simpa using e
  rw[F45_l2,List.drop_of_length_le (by omega)];simp
 |x::xs,i,e=>by
  have hi:=(List.getElem?_eq_some_iff.1 (drop_hd e)).1
  have h1:i<x1.length:=by omega
  rw[F45_l2,rdI_at h1,Option.bind_some,eqLab_l2 l x1 hl xs (i+1) (drop_tl e),List.drop_eq_getElem_cons h1]
  have:(x.Key=x1[i].Key∧x.Value=x1[i].Value)↔x=x1[i]:=by obtain⟨a,b⟩:=x;rcases x1[i]with⟨c,d⟩;simp
  by_cases hx:x=x1[i]
  ·rw[if_neg (not_not_intro (this.2 hx))];simp only[hx,List.cons.injEq,true_and,false_and,not_true_eq_false,not_false_eq_true,if_true,if_false,Option.map_some,decide_true,decide_false,Bool.not_true,Bool.not_false,Bool.false_eq_true]
  ·rw[if_pos (fun hh=>hx (this.1 hh))];simp only[hx,List.cons.injEq,true_and,false_and,not_true_eq_false,not_false_eq_true,if_true,if_false,Option.map_some,decide_true,decide_false,Bool.not_true,Bool.not_false,Bool.false_eq_true]
theorem eqLab_t{l:List Label}(x1:List Label)(hl:l.length≤4294967290):F45 l x1=some (decide (l=x1)):=by
 rw[F45]
 by_cases h:(l.length:Int)=(x1.length:Int)
 ·rw[if_neg (by simpa using h),ck_t (by omega),Option.bind_some,eqLab_l2 l x1 (by omega) l 0 (List.drop_zero ..),List.drop_zero]
  by_cases hx:l=x1<;>simp[hx]
 ·rw[if_pos h]
  have:l≠x1:=fun e=>h (by rw[e])
  simp[this]
theorem eqOwn_l2(l x1:List Owner)(hl:l.length=x1.length):∀(xs:List Owner) (i:Nat),l.drop i=xs→F46_l2 x1 xs i=some (if xs=x1.drop i then .inr ()else .inl false)
 |[],i,e=>by
  have:l.length≤i:=by simpa using e
  rw[F46_l2,List.drop_of_length_le (by omega)];simp
 |x::xs,i,e=>by
  have hi:=(List.getElem?_eq_some_iff.1 (drop_hd e)).1
  have h1:i<x1.length:=by omega
  rw[F46_l2,rdI_at h1,Option.bind_some,eqOwn_l2 l x1 hl xs (i+1) (drop_tl e),List.drop_eq_getElem_cons h1]
  have:(decide (x.Kind=x1[i].Kind)&&(decide (x.Name=x1[i].Name)&&(decide (x.Uid=x1[i].Uid)&&((x.Controller==x1[i].Controller)&&(x.Block==x1[i].Block)))))=decide (x=x1[i]):=by
   obtain⟨a,b,c,d,e⟩:=x;rcases x1[i]with⟨a',b',c',d',e'⟩
   rw[Bool.eq_iff_iff];simp
  rw[this,nb_not]
  by_cases hx:x=x1[i]<;>simp only[hx,List.cons.injEq,true_and,false_and,not_true_eq_false,not_false_eq_true,if_true,if_false,Option.map_some,decide_true,decide_false,Bool.not_true,Bool.not_false,Bool.false_eq_true]
theorem eqOwn_t{l:List Owner}(x1:List Owner)(hl:l.length≤4294967290):F46 l x1=some (decide (l=x1)):=by
 rw[F46]
 by_cases h:(l.length:Int)=(x1.length:Int)
 ·rw[if_neg (by simpa using h),ck_t (by omega),Option.bind_some,eqOwn_l2 l x1 (by omega) l 0 (List.drop_zero ..),List.drop_zero]
  by_cases hx:l=x1<;>simp[hx]
 ·rw[if_pos h]
  have:l≠x1:=fun e=>h (by rw[e])
  simp[this]
theorem eqStr_l2(l x1:List ByteArray)(hl:l.length=x1.length):∀(xs:List ByteArray) (i:Nat),l.drop i=xs→F47_l2 x1 xs i=some (if xs=x1.drop i then .inr ()else .inl false)
 |[],i,e=>by
  have:l.length≤i:=by simpa using e
  rw[F47_l2,List.drop_of_length_le (by omega)];simp
 |x::xs,i,e=>by
  have hi:=(List.getElem?_eq_some_iff.1 (drop_hd e)).1
  have h1:i<x1.length:=by omega
  rw[F47_l2,rdI_at h1,Option.bind_some,eqStr_l2 l x1 hl xs (i+1) (drop_tl e),List.drop_eq_getElem_cons h1]
  by_cases hx:x=x1[i]<;>simp only[hx,List.cons.injEq,true_and,false_and,not_true_eq_false,not_false_eq_true,if_true,if_false,Option.map_some,decide_true,decide_false,Bool.not_true,Bool.not_false,Bool.false_eq_true]
theorem eqStr_t{l:List ByteArray}(x1:List ByteArray)(hl:l.length≤4294967290):F47 l x1=some (decide (l=x1)):=by
 rw[F47]
 by_cases h:(l.length:Int)=(x1.length:Int)
 ·rw[if_neg (by simpa using h),ck_t (by omega),Option.bind_some,eqStr_l2 l x1 (by omega) l 0 (List.drop_zero ..),List.drop_zero]
  by_cases hx:l=x1<;>simp[hx]
 ·rw[if_pos h]
  have:l≠x1:=fun e=>h (by rw[e])
  simp[this]
theorem eqMan1_t{x:Manager}(y:Manager)(h:x.Fields.length≤4294967290):F48 x y=some (decide (x=y)):=by
 rw[F48,eqStr_t _ h]
 obtain⟨a,b⟩:=x;obtain⟨c,d⟩:=y
 by_cases hx:a=c<;>simp[hx]
theorem eqMan_l2(l x1:List Manager)(hl:l.length=x1.length)(hm:∀m∈l,m.Fields.length≤4294967290):∀(xs:List Manager) (i:Nat),l.drop i=xs→F49_l2 x1 xs i=some (if xs=x1.drop i then .inr ()else .inl false)
 |[],i,e=>by
  have:l.length≤i:=by simpa using e
  rw[F49_l2,List.drop_of_length_le (by omega)];simp
 |x::xs,i,e=>by
  have hi:=(List.getElem?_eq_some_iff.1 (drop_hd e)).1
  have h1:i<x1.length:=by omega
  rw[F49_l2,rdI_at h1,Option.bind_some,eqMan1_t _ (hm x (List.mem_of_getElem? (drop_hd e))),Option.bind_some,eqMan_l2 l x1 hl hm xs (i+1) (drop_tl e),List.drop_eq_getElem_cons h1,nb_not]
  by_cases hx:x=x1[i]<;>simp only[hx,List.cons.injEq,true_and,false_and,not_true_eq_false,not_false_eq_true,if_true,if_false,Option.map_some,decide_true,decide_false,Bool.not_true,Bool.not_false,Bool.false_eq_true]
theorem eqMan_t{l:List Manager}(x1:List Manager)(hl:l.length≤4294967290)(hm:∀m∈l,m.Fields.length≤4294967290):F49 l x1=some (decide (l=x1)):=by
 rw[F49]
 by_cases h:(l.length:Int)=(x1.length:Int)
 ·rw[if_neg (by simpa using h),ck_t (by omega),Option.bind_some,eqMan_l2 l x1 (by omega) hm l 0 (List.drop_zero ..),List.drop_zero]
  by_cases hx:l=x1<;>simp[hx]
 ·rw[if_pos h]
  have:l≠x1:=fun e=>h (by rw[e])
  simp[this]
theorem eqO_t{x:Object}(y:Object)(h:OW x):∃b,F16 x y=some b∧(b=true↔x=y):=by
 have b0:∀b:Bool,∃r,some b=some r∧(r=true↔b=true):=fun b=>⟨b,rfl,Iff.rfl⟩
 obtain⟨p,p1,p2⟩:=eqV_t y.Spec h.spec
 obtain⟨q,q1,q2⟩:=eqV_t y.Status h.status
 rw[F16,F44,F44]
 simp only[Option.bind_some]
 rw[eqLab_t _ (by have:=h.labels;omega),eqOwn_t _ (by have:=h.owners;omega),eqStr_t _ (by have:=h.fins;omega),eqMan_t _ (by have:=h.mans;omega) (fun m hm=>by have:=h.man m hm;omega),p1,q1]
 obtain⟨⟨k,ns,nm,u,v,g,c,dl,da,lb,ow,fi,mn⟩,sp,st⟩:=x
 obtain⟨⟨k',ns',nm',u',v',g',c',dl',da',lb',ow',fi',mn'⟩,sp',st'⟩:=y
 simp only[Object.mk.injEq,Meta.mk.injEq]at*
 by_cases h1:k=k'∧ns=ns'∧nm=nm'
 rotate_left
 ·rw[if_pos h1];exact⟨false,rfl,by simp;intro a b c;exact(h1 ⟨a,b,c⟩).elim⟩
 rw[if_neg (not_not_intro h1)]
 by_cases h2:u=u'
 rotate_left
 ·rw[if_pos h2];exact⟨false,rfl,by simp[h2]⟩
 rw[if_neg (not_not_intro h2)]
 by_cases h3:v=v'
 rotate_left
 ·rw[if_pos h3];exact⟨false,rfl,by simp[h3]⟩
 rw[if_neg (not_not_intro h3)]
 by_cases h4:g=g'
 rotate_left
 ·rw[if_pos h4];exact⟨false,rfl,by simp[h4]⟩
 rw[if_neg (not_not_intro h4)]
 by_cases h5:c=c'
 rotate_left
 ·rw[if_pos h5];exact⟨false,rfl,by simp[h5]⟩
 rw[if_neg (not_not_intro h5)]
 by_cases h6:dl=dl'
 rotate_left
 ·rw[if_pos (by cases dl<;>cases dl'<;>simp_all)];exact⟨false,rfl,by simp[h6]⟩
 rw[if_neg (by rw[h6];simp)]
 by_cases h7:da=da'
 rotate_left
 ·simp only[h7,not_false_eq_true,decide_true,Option.bind_some,if_true];exact⟨false,rfl,by simp⟩
 simp only[h7,not_true_eq_false,decide_false,Option.bind_some,Bool.false_eq_true,if_false,nb_not]
 by_cases h8:lb=lb'
 rotate_left
 ·simp only[h8,decide_false,Bool.not_false,if_true,Option.bind_some];exact⟨false,rfl,by simp⟩
 simp only[h8,decide_true,Bool.not_true,Bool.false_eq_true,if_false,Option.bind_some]
 by_cases h9:ow=ow'
 rotate_left
 ·simp only[h9,decide_false,Bool.not_false,if_true,Option.bind_some];exact⟨false,rfl,by simp⟩
 simp only[h9,decide_true,Bool.not_true,Bool.false_eq_true,if_false,Option.bind_some]
 by_cases h10:fi=fi'
 rotate_left
 ·simp only[h10,decide_false,Bool.not_false,if_true,Option.bind_some];exact⟨false,rfl,by simp⟩
 simp only[h10,decide_true,Bool.not_true,Bool.false_eq_true,if_false,Option.bind_some]
 by_cases h11:mn=mn'
 rotate_left
 ·simp only[h11,decide_false,Bool.false_eq_true,if_false,Option.bind_some];exact⟨false,rfl,by simp⟩
 simp only[h11,decide_true,if_true,Option.bind_some]
 cases p
 ·exact⟨false,rfl,by simp[←p2]⟩
 ·simp only[if_true,Option.bind_some]
  exact⟨q,rfl,by simp[h1,h2,h3,h4,h5,h6,←p2,q2]⟩
open Go Go.Fw
set_option maxRecDepth 100000
set_option linter.unusedVariables false
set_option linter.unusedSimpArgs false
def cO(k:ByteArray)(y:Object):Int:=scmp (keyO y) k
def Sorted(l:List Object):Prop:=l.Pairwise fun a b=>lt (keyO a) (keyO b)
theorem S_obj{l:List Object}(h:Sorted l)(k:ByteArray):S (cO k) l:=
 h.imp fun{a b} hab hc=>by
   rcases(scmp_np (keyO b) k).1 hc with h1|rfl
   ·exact(scmp_neg (keyO a) k).2 (lt_trans hab h1)
   ·exact(scmp_neg (keyO a) (keyO b)).2 hab
theorem cO_zero{k:ByteArray}{y:Object}:cO k y=0↔keyO y=k:=scmp_zero _ _
theorem cO_neg{k:ByteArray}{y:Object}:cO k y<0↔lt (keyO y) k:=scmp_neg _ _
def rm(k:ByteArray)(l:List Object):List Object:=l.filter fun y=>decide (cO k y≠0)
def repS(l:List Object)(c:Change):List Object:=if c.Kind=2 then rm (keyO c.Object) l else insC (cO (keyO c.Object)) c.Object (rm (keyO c.Object) l)
def getS(l:List Object)(k:ByteArray):Option Object:=l.find? fun y=>decide (cO k y=0)
theorem rm_sorted{l:List Object}(k:ByteArray)(h:Sorted l):Sorted (rm k l):=h.filter _
theorem rm_mem{l:List Object}{k:ByteArray}{y:Object}:y∈rm k l↔y∈l∧keyO y≠k:=by
 unfold rm;rw[List.mem_filter];simp[cO_zero]
theorem rm_len(k:ByteArray)(l:List Object):(rm k l).length≤l.length:=List.length_filter_le ..
theorem rep_mem{l:List Object}{c:Change}{y:Object}(h:y∈repS l c):y∈l∨y=c.Object:=by
 unfold repS at h
 split at h
 ·exact .inl (rm_mem.1 h).1
 ·rcases(insC_mem _ _ _ _).1 h with h|h
  ·exact .inr h
  ·exact .inl (rm_mem.1 h).1
theorem rep_len(l:List Object)(c:Change):(repS l c).length≤l.length+1:=by
 have:=rm_len (keyO c.Object) l
 unfold repS
 split
 ·omega
 ·rw[insC_len];omega
theorem rep_sorted{l:List Object}(c:Change)(h:Sorted l):Sorted (repS l c):=by
 unfold repS
 split
 ·exact rm_sorted _ h
 ·refine insC_pw (R:=fun a b=>lt (keyO a) (keyO b)) (fun a b d=>lt_trans) (fun y hy hc=>cO_neg.1 hc) (fun y hy hc=>?_) (rm_sorted _ h)
  exact lt_of_not (mt cO_neg.2 hc) (rm_mem.1 hy).2
theorem or_neg{n:Int}{b:Bool}(h:(decide (n=0)||b)=true)(hn:n<0):b=true:=by
 simp at h;rcases h with h|h
 ·omega
 ·exact h
theorem set_ins{c:Object→Int}{x:Object}:∀{l:List Object},S c l→hasC c l=true→l.set (plc c l) x=insC c x (l.filter fun y=>decide (c y≠0))
 |[],_,h=>by simp[hasC]at h
 |y::l,hs,h=>by
  have hs2:=List.pairwise_cons.1 hs
  rw[hasC_cons]at h
  unfold plc
  by_cases hc:c y<0
  ·rw[if_pos hc,List.filter_cons_of_pos (by simp;omega),List.set_cons_succ,set_ins hs2.2 (or_neg h hc)]
   rw[insC,if_pos hc]
  ·rw[if_neg hc,List.set_cons_zero]
   have hg:∀z∈l,0<c z:=fun z hz=>by have:=hs2.1 z hz;omega
   rw[hasC_gt hg]at h
   simp at h
   rw[List.filter_cons_of_neg (by simp[h]),List.filter_eq_self.2 fun z hz=>by have:=hg z hz;simp;omega]
   cases l with
   |nil=>rfl
   |cons z l=>have:=hg z (List.mem_cons_self ..);rw[insC,if_neg (by omega)]
theorem get_has{l:List Object}{k:ByteArray}:hasC (cO k) l=(getS l k).isSome:=by
 unfold hasC getS
 rw[Bool.eq_iff_iff,List.any_eq_true,List.find?_isSome]
theorem get_plc{l:List Object}{k:ByteArray}(hs:S (cO k) l)(h:hasC (cO k) l=true):l[plc (cO k) l]? =getS l k:=by
 induction l with
 |nil=>simp[hasC]at h
 |cons y l ih=>
  have hs2:=List.pairwise_cons.1 hs
  rw[hasC_cons]at h
  unfold plc getS
  by_cases hc:cO k y<0
  ·rw[if_pos hc,List.getElem?_cons_succ,List.find?_cons_of_neg (by simp;omega)]
   exact ih hs2.2 (or_neg h hc)
  ·rw[if_neg hc]
   have hg:∀z∈l,0<cO k z:=fun z hz=>by have:=hs2.1 z hz;omega
   rw[hasC_gt hg]at h
   simp at h
   rw[List.find?_cons_of_pos (by simp[h])];rfl
theorem find1_t{y:Object}(h:OW y)(k:ByteArray):F71 y k=some (cO k y):=by
 rw[F71,KeyOf_t h.key];rfl
theorem bs_t(l:List Object)(k:ByteArray)(h:∀o∈l,OW o):∀(n:Nat) (a b:Int),F70_l1 l k n a b=bsL (cO k) l n a b
 |0,a,b=>by rw[F70_l1,bsL]
 |n+1,a,b=>by
  rw[F70_l1,bsL]
  simp only[bs_t l k h n]
  show(if a<b then(rdI l (mid a b)).bind (fun y3=>(F71 y3 k).bind fun t4=>if t4<0 then bsL (cO k) l n (IntKind.i64.wrap (mid a b+1)) b else bsL (cO k) l n a (mid a b))else some a)=_
  by_cases hab:a<b
  ·rw[if_pos hab,if_pos hab]
   cases hr:rdI l (mid a b)with
   |none=>rfl
   |some y=>
    have hy:=List.mem_of_getElem? (rdI_some hr).2.1
    simp only[Option.bind_some,find1_t (h y hy) k]
  ·rw[if_neg hab,if_neg hab]
theorem find_t'{l:List Object}(k:ByteArray)(hs:Sorted l)(h:∀o∈l,OW o)(hl:l.length≤1000000):F35 l k=some ((plc (cO k) l:Int),hasC (cO k) l):=by
 rw[F35,F70,bs_t l k h]
 have hp:=plc_le (cO k) l
 have:=bsL_spec (S_obj hs k) hl 1099511627776 0 l.length (by omega) (by omega) hp (by omega)
 rw[show((0:Nat):Int)=0 from rfl]at this
 rw[this,Option.bind_some]
 have ft:=find_t (S_obj hs k)
 have e:(if(plc (cO k) l:Int)<(l.length:Int)then(rdI l (plc (cO k) l:Int)).bind fun y8=>(F71 y8 k).bind fun t9=>some (decide (t9=0))else some false)=(if(plc (cO k) l:Int)<(l.length:Int)then(rdI l (plc (cO k) l:Int)).bind fun y=>some (decide (cO k y=0))else some false):=by
  by_cases hab:(plc (cO k) l:Int)<(l.length:Int)
  ·rw[if_pos hab,if_pos hab]
   cases hr:rdI l (plc (cO k) l:Int)with
   |none=>rfl
   |some y=>
    have hy:=List.mem_of_getElem? (rdI_some hr).2.1
    simp only[Option.bind_some,find1_t (h y hy) k]
  ·rw[if_neg hab,if_neg hab]
 rw[e,ft];rfl
theorem replay_t{l:List Object}(c:Change)(hs:Sorted l)(h:∀o∈l,OW o)(hc:OW c.Object)(hl:l.length≤1000000):∃b,F52 l c=some (repS l c,b)∧(b=true↔c.Kind≠2∨hasC (cO (keyO c.Object)) l=true):=by
 have hp:=plc_le (cO (keyO c.Object)) l
 have hS:=S_obj hs (keyO c.Object)
 rw[F52,KeyOf_t hc.key,Option.bind_some]
 show∃b,(F35 l (keyO c.Object)).bind _=_∧_
 rw[find_t' _ hs h hl]
 simp only[Option.bind_some,nb_not]
 unfold repS
 by_cases h2:c.Kind=2
 ·simp only[h2,if_true,Option.bind_some]
  cases hh:hasC (cO (keyO c.Object)) l with
  |false=>
   simp only[Bool.not_false,if_true]
   refine⟨false,?_,by simp⟩
   unfold rm
   rw[List.filter_eq_self.2]
   intro z hz
   have:=List.any_eq_false.1 hh z hz
   simpa using this
  |true=>
   simp only[Bool.not_true,Bool.false_eq_true,if_false]
   have hlt:plc (cO (keyO c.Object)) l<l.length:=by
    have hg:=get_plc hS hh
    rcases Nat.lt_or_ge (plc (cO (keyO c.Object)) l) l.length with h3|h3
    ·exact h3
    ·rw[List.getElem?_eq_none h3]at hg
     have:=get_has (l:=l) (k:=keyO c.Object)
     rw[hh,←hg]at this;simp at this
   rw[show IntKind.i64.wrap ((plc (cO (keyO c.Object)) l:Int)+1)=((plc (cO (keyO c.Object)) l+1:Nat):Int)from wrapN (by omega)]
   refine⟨true,?_,by simp⟩
   rw[delI,if_pos ⟨by omega,by omega,by omega,by omega⟩,Option.bind_some,Int.toNat_natCast,Int.toNat_natCast,rem_C hS hh]
   rfl
 ·simp only[h2,if_false,Option.bind_some,Bool.false_eq_true]
  cases hh:hasC (cO (keyO c.Object)) l with
  |true=>
   have hlt:plc (cO (keyO c.Object)) l<l.length:=by
    have hg:=get_plc hS hh
    rcases Nat.lt_or_ge (plc (cO (keyO c.Object)) l) l.length with h3|h3
    ·exact h3
    ·rw[List.getElem?_eq_none h3]at hg
     have:=get_has (l:=l) (k:=keyO c.Object)
     rw[hh,←hg]at this;simp at this
   simp only[if_true,rdI_at hlt,Option.bind_some,Int.toNat_natCast]
   exact⟨true,by rw[set_ins hS hh];rfl,by simp⟩
  |false=>
   simp only[Bool.false_eq_true,if_false]
   refine⟨true,?_,by simp[h2]⟩
   rw[insI,if_pos ⟨by omega,by omega,by omega⟩,Option.bind_some,Int.toNat_natCast,insC_plc]
   unfold rm
   rw[List.filter_eq_self.2]
   intro z hz
   have:=List.any_eq_false.1 hh z hz
   simpa using this
open Go Go.Fw
set_option maxRecDepth 100000
set_option linter.unusedVariables false
set_option linter.unusedSimpArgs false
def okO(o:Object):Bool:=(F38 o).getD false
theorem okO_t{o:Object}(h:OW o):F38 o=some (okO o):=by
 obtain⟨r,hr⟩:=vObj_ex h
 unfold okO;rw[hr];rfl
theorem find_l1{k:ByteArray}(l:List Object)(h:∀o∈l,OW o):∀(xs:List Object) (i:Nat),l.drop i=xs→(getS xs k=none∧F55_l1 k xs i=some (.inr ()))∨∃(y:Object) (j:Nat),getS xs k=some y∧F55_l1 k xs i=some (.inl (j:Int))∧l[j]? =some y
 |[],i,_=> .inl ⟨rfl,by rw[F55_l1]⟩
 |x::xs,i,e=>by
  have hx:=drop_hd e
  rw[F55_l1,rkey_t (h x (List.mem_of_getElem? hx)),Option.bind_some]
  by_cases hk:keyO x=k
  ·rw[if_pos hk]
   refine .inr ⟨x,i,?_,rfl,hx⟩
   unfold getS;rw[List.find?_cons_of_pos (by simp[cO_zero,hk])]
  ·rw[if_neg hk]
   have e1:getS (x::xs) k=getS xs k:=by unfold getS;rw[List.find?_cons_of_neg (by simp[cO_zero,hk])]
   rw[e1]
   exact find_l1 l h xs (i+1) (drop_tl e)
open Go Go.Fw
set_option maxRecDepth 100000
set_option linter.unusedVariables false
set_option linter.unusedSimpArgs false
theorem awake_t:F8=some true:=by
 set_option maxRecDepth 1000000 in
 kernel_rfl
theorem wt_l1:∀(l:List Manager) (i:Nat) (n:Int),∃r,F7_l1 l i n=some r
 |[],i,n=>⟨_,by rw[F7_l1]⟩
 |x::l,i,n=>by rw[F7_l1];exact wt_l1 l _ _
theorem wt_ex{o:Object}(h:OW o):∃r,F7 o=some r:=by
 rw[F7,size_same]
 have g1:=vsize_ex 1099511627776 o.Spec (by have:=h.spec;omega) (by have:=h.spec;omega)
 have g2:=vsize_ex 1099511627776 o.Status (by have:=h.status;omega) (by have:=h.status;omega)
 refine exb (exb (exck (by have:=h.mans;omega)) fun _ _=>wt_l1 _ _ _) fun _ _=>?_
 repeat'(first|exact⟨_,rfl⟩|exact g1|exact g2|exact exck (by omega)|exact byI_ex (by omega) (by omega)|exact rdI_ex (by omega) (by omega)|exact apI_ex (by omega)|with_reducible refine exif (fun _=>?_) (fun _=>?_)|with_reducible refine exb ?_ (fun _ _=>?_)|with_reducible refine exmap ?_|split)
def e0:ByteArray:=⟨#[]⟩
open Go Go.Fw
set_option maxRecDepth 100000
set_option linter.unusedVariables false
set_option linter.unusedSimpArgs false
theorem lt_asy{a b:ByteArray}(h:lt a b):¬lt b a:=fun h'=>lt_irrefl a (lt_trans h h')
theorem le_of(a b:ByteArray):(Op.bytesLess a.toList b.toList||decide (a=b))=decide (¬lt b a):=by
 rw[bl_lt]
 by_cases h:lt a b
 ·simp[h,lt_asy h]
 ·by_cases h2:a=b
  ·subst h2;simp[lt_irrefl]
  ·simp[h,h2,lt_of_not h h2]
theorem nb_leq(a b:ByteArray):nb (Op.bytesLess a.toList b.toList||decide (a=b))=decide (lt b a):=by rw[le_of,nb_not];simp
theorem ordI_t(a b:Int):∃n,F125 (decide (a<b)) (decide (b<a))=some n∧(n=0↔a=b):=by
 rw[F125]
 by_cases h1:a<b
 ·rw[decide_eq_true h1,if_pos rfl];exact⟨_,rfl,by omega⟩
 ·rw[decide_eq_false h1,if_neg (by simp)]
  by_cases h2:b<a
  ·rw[decide_eq_true h2,if_pos rfl];exact⟨_,rfl,by omega⟩
  ·rw[decide_eq_false h2,if_neg (by simp)];exact⟨_,rfl,by omega⟩
theorem ordS_t(a b:ByteArray):∃n,F125 (Op.bytesLess a.toList b.toList) (nb (Op.bytesLess a.toList b.toList||decide (a=b)))=some n∧(n=0↔a=b):=by
 rw[F125,nb_leq,bl_lt]
 by_cases h1:lt a b
 ·rw[decide_eq_true h1,if_pos rfl];exact⟨_,rfl,by simp[lt_ne h1]⟩
 ·rw[decide_eq_false h1,if_neg (by simp)]
  by_cases h2:lt b a
  ·rw[decide_eq_true h2,if_pos rfl];exact⟨_,rfl,by simp[Ne.symm (lt_ne h2)]⟩
  ·rw[decide_eq_false h2,if_neg (by simp)];exact⟨_,rfl,by simp[lt_tri h1 h2]⟩
theorem eq_take{α:Type}{l r:List α}{m:Nat}(hm:min l.length r.length=m):l=r↔l.take m=r.take m∧l.length=r.length:=by
 constructor
 ·rintro rfl;exact⟨rfl,rfl⟩
 ·rintro⟨h1,h2⟩
  rwa [List.take_of_length_le (by omega),List.take_of_length_le (by omega)]at h1
theorem rcmp_l8(rc:TValue→TValue→Option Int)(x y:TValue)(hb:x.List_.length≤4294967290)(h:∀z∈x.List_,∀w,∃n,rc z w=some n∧(n=0↔z=w)):∀(m i k:Nat) (a:Int),min x.List_.length y.List_.length=i+m→m<k→∃n,F98_l8 rc x y k a (i:Int)=some n∧(n=0↔a=0∧(x.List_.drop i).take m=(y.List_.drop i).take m)
 |0,i,k+1,a,h1,_=>by
  rw[F98_l8]
  have:(if(i:Int)<(x.List_.length:Int)then(if(i:Int)<(y.List_.length:Int)then some (decide (a=0))else some false)else some false)=some false:=by
   by_cases g:(i:Int)<(x.List_.length:Int)
   ·rw[if_pos g,if_neg (by omega)]
   ·rw[if_neg g]
  rw[this]
  exact⟨a,rfl,by simp⟩
 |m+1,i,k+1,a,h1,hk=>by
  rw[F98_l8,if_pos (by omega),if_pos (by omega),Option.bind_some]
  by_cases h0:a=0
  ·rw[decide_eq_true h0,if_pos rfl,rdI_at (by omega),Option.bind_some,rdI_at (by omega),Option.bind_some,wrapN (by omega)]
   obtain⟨n,h2,h3⟩:=h x.List_[i] (List.getElem_mem _) y.List_[i]
   rw[h2,Option.bind_some]
   obtain⟨r,h4,h5⟩:=rcmp_l8 rc x y hb h m (i+1) k n (by omega) (by omega)
   refine⟨r,h4,h5.trans ?_⟩
   rw[h3,take_cons' (List.getElem?_eq_getElem (by omega)),take_cons' (List.getElem?_eq_getElem (by omega)),List.cons.injEq]
   simp[h0]
  ·rw[decide_eq_false h0,if_neg (by simp)]
   exact⟨a,rfl,by simp[h0]⟩
theorem rcmp_l19(rc:TValue→TValue→Option Int)(x y:TValue)(hb:x.Fields.length≤4294967290)(h:∀z∈x.Fields,∀w,∃n,rc z.V w=some n∧(n=0↔z.V=w)):∀(m i k:Nat) (a:Int),min x.Fields.length y.Fields.length=i+m→m<k→∃n,F98_l19 rc x y k a (i:Int)=some n∧(n=0↔a=0∧(x.Fields.drop i).take m=(y.Fields.drop i).take m)
 |0,i,k+1,a,h1,_=>by
  rw[F98_l19]
  have:(if(i:Int)<(x.Fields.length:Int)then(if(i:Int)<(y.Fields.length:Int)then some (decide (a=0))else some false)else some false)=some false:=by
   by_cases g:(i:Int)<(x.Fields.length:Int)
   ·rw[if_pos g,if_neg (by omega)]
   ·rw[if_neg g]
  rw[this]
  exact⟨a,rfl,by simp⟩
 |m+1,i,k+1,a,h1,hk=>by
  rw[F98_l19,if_pos (by omega),if_pos (by omega),Option.bind_some]
  by_cases h0:a=0
  ·rw[decide_eq_true h0,if_pos rfl,rdI_at (by omega),Option.bind_some,rdI_at (by omega),Option.bind_some,wrapN (by omega)]
   obtain⟨n,h2,h3⟩:=ordS_t x.Fields[i].Name y.Fields[i].Name
   obtain⟨p,p2,p3⟩:=h x.Fields[i] (List.getElem_mem _) y.Fields[i].V
   rw[h2,Option.bind_some,p2]
   have e:∃q,(if n=0 then(some p).bind fun t29=>some t29 else some n)=some q∧(q=0↔x.Fields[i]=y.Fields[i]):=by
    have hf:x.Fields[i]=y.Fields[i]↔x.Fields[i].Name=y.Fields[i].Name∧x.Fields[i].V=y.Fields[i].V:=by
     rcases x.Fields[i]with⟨a1,a2⟩;rcases y.Fields[i]with⟨b1,b2⟩;simp
    by_cases hn:n=0
    ·rw[if_pos hn];exact⟨p,rfl,by rw[p3,hf];simp[h3.1 hn]⟩
    ·rw[if_neg hn];exact⟨n,rfl,by rw[hf,h3];constructor
                                  ·intro hh;exact(hn (h3.2 hh)).elim
                                  ·intro hh;exact hh.1⟩
   obtain⟨q,e1,e2⟩:=e
   rw[e1,Option.bind_some]
   obtain⟨r,h4,h5⟩:=rcmp_l19 rc x y hb h m (i+1) k q (by omega) (by omega)
   refine⟨r,h4,h5.trans ?_⟩
   rw[e2,take_cons' (List.getElem?_eq_getElem (by omega)),take_cons' (List.getElem?_eq_getElem (by omega)),List.cons.injEq]
   simp[h0]
  ·rw[decide_eq_false h0,if_neg (by simp)]
   exact⟨a,rfl,by simp[h0]⟩
theorem zif{a:Int}{e:Option Int}{P Q:Prop}(ha:a=0↔P)(h:∃n,e=some n∧(n=0↔Q)):∃n,(if a=0 then e.bind fun t=>some t else some a)=some n∧(n=0↔P∧Q):=by
 obtain⟨n,h1,h2⟩:=h
 by_cases h0:a=0
 ·rw[if_pos h0,h1];exact⟨n,rfl,by rw[h2];simp[ha.1 h0]⟩
 ·rw[if_neg h0];exact⟨a,rfl,fun hh=>(h0 hh).elim,fun hh=>ha.2 hh.1⟩
theorem rcmp_t:∀(k:Nat) (x y:TValue),wTValue x≤k→wTValue x≤4294967290→∃n,F98k k x y=some n∧(n=0↔x=y)
 |0,x,y,h,_=>by have:=wV_pos x;omega
 |k+1,x,y,h,h2=>by
  have l1:=wV_ll x
  have l2:=wV_fl x
  rw[F98k,F98]
  obtain⟨a,a1,a2⟩:=ordI_t x.Kind y.Kind
  obtain⟨b,b1,b2⟩:=zif a2 (ordI_t x.N y.N)
  obtain⟨c,c1,c2⟩:=zif b2 (ordS_t x.S y.S)
  obtain⟨d,d1,d2⟩:=rcmp_l8 (F98k k) x y (by omega) (fun z hz y=>rcmp_t k z y (by have:=wV_list hz;omega) (by have:=wV_list hz;omega)) (min x.List_.length y.List_.length) 0 1099511627776 c (by omega) (by omega)
  obtain⟨e,e1,e2⟩:=zif d2 (ordI_t (x.List_.length:Int) (y.List_.length:Int))
  obtain⟨f,f1,f2⟩:=rcmp_l19 (F98k k) x y (by omega) (fun z hz y=>rcmp_t k z.V y (by have:=wV_field hz;omega) (by have:=wV_field hz;omega)) (min x.Fields.length y.Fields.length) 0 1099511627776 e (by omega) (by omega)
  obtain⟨g,g1,g2⟩:=zif f2 (ordI_t (x.Fields.length:Int) (y.Fields.length:Int))
  rw[show((0:Nat):Int)=0 from rfl]at d1 f1
  rw[a1,Option.bind_some,b1,Option.bind_some,c1,Option.bind_some,d1,Option.bind_some,e1,Option.bind_some,f1,Option.bind_some,g1]
  refine⟨g,rfl,g2.trans ?_⟩
  rw[e2,c2,List.drop_zero,List.drop_zero,List.drop_zero,List.drop_zero]
  have t1:=eq_take (l:=x.List_) (r:=y.List_) rfl
  have t2:=eq_take (l:=x.Fields) (r:=y.Fields) rfl
  have hx:x=y↔x.Kind=y.Kind∧x.N=y.N∧x.S=y.S∧x.List_=y.List_∧x.Fields=y.Fields:=by cases x;cases y;simp
  rw[hx,t1,t2]
  constructor
  ·rintro⟨⟨⟨⟨⟨⟨h1,h2⟩,h3⟩,h4⟩,h5⟩,h6⟩,h7⟩
   exact⟨h1,h2,h3,⟨h4,by omega⟩,h6,by omega⟩
  ·rintro⟨h1,h2,h3,⟨h4,h5⟩,h6,h7⟩
   exact⟨⟨⟨⟨⟨⟨h1,h2⟩,h3⟩,h4⟩,by omega⟩,h6⟩,by omega⟩
theorem reqV_t{x:TValue}(y:TValue)(h:wTValue x≤4000000):∃b,F64 x y=some b∧(b=true↔x=y):=by
 obtain⟨n,h1,h2⟩:=rcmp_t 1099511627776 x y (by omega) (by omega)
 exact⟨decide (n=0),by rw[F64,h1];rfl,by simpa using h2⟩
theorem rsame_l2(l x1:List ByteArray)(hl:l.length=x1.length):∀(xs:List ByteArray) (i:Nat),l.drop i=xs→F97_l2 x1 xs i=some (if xs=x1.drop i then .inr ()else .inl false)
 |[],i,e=>by
  have:l.length≤i:=by simpa using e
  rw[F97_l2,List.drop_of_length_le (by omega)];simp
 |x::xs,i,e=>by
  have hi:=(List.getElem?_eq_some_iff.1 (drop_hd e)).1
  have h1:i<x1.length:=by omega
  rw[F97_l2,rdI_at h1,Option.bind_some,rsame_l2 l x1 hl xs (i+1) (drop_tl e),List.drop_eq_getElem_cons h1]
  by_cases hx:x=x1[i]<;>simp only[hx,List.cons.injEq,true_and,false_and,not_true_eq_false,not_false_eq_true,if_true,if_false,Option.map_some,decide_true,decide_false,Bool.not_true,Bool.not_false,Bool.false_eq_true]
theorem rsame_t{l:List ByteArray}(x1:List ByteArray)(hl:l.length≤4294967290):F97 l x1=some (decide (l=x1)):=by
 rw[F97]
 by_cases h:(l.length:Int)=(x1.length:Int)
 ·rw[if_neg (by simpa using h),ck_t (by omega),Option.bind_some,rsame_l2 l x1 (by omega) l 0 (List.drop_zero ..),List.drop_zero]
  by_cases hx:l=x1<;>simp[hx]
 ·rw[if_pos h]
  have:l≠x1:=fun e=>h (by rw[e])
  simp[this]
theorem rmeta_l19(m:Meta)(l:List Label)(hl:l.length=m.Labels.length):∀(xs:List Label) (i:Nat),l.drop i=xs→F63_l19 m xs i=some (if xs=m.Labels.drop i then .inr ()else .inl false)
 |[],i,e=>by
  have:l.length≤i:=by simpa using e
  rw[F63_l19,List.drop_of_length_le (by omega)];simp
 |x::xs,i,e=>by
  have hi:=(List.getElem?_eq_some_iff.1 (drop_hd e)).1
  have h1:i<m.Labels.length:=by omega
  rw[F63_l19,rdI_at h1,Option.bind_some,rmeta_l19 m l hl xs (i+1) (drop_tl e),List.drop_eq_getElem_cons h1]
  have:(x.Key=m.Labels[i].Key∧x.Value=m.Labels[i].Value)↔x=m.Labels[i]:=by obtain⟨a,b⟩:=x;rcases m.Labels[i]with⟨c,d⟩;simp
  by_cases hx:x=m.Labels[i]
  ·rw[if_neg (not_not_intro (this.2 hx))];simp only[hx,List.cons.injEq,true_and]
  ·rw[if_pos (fun hh=>hx (this.1 hh))];simp only[hx,List.cons.injEq,false_and,if_false,Option.map_some]
theorem rmeta_l24(m:Meta)(l:List Owner)(hl:l.length=m.Owners.length):∀(xs:List Owner) (i:Nat),l.drop i=xs→F63_l24 m xs i=some (if xs=m.Owners.drop i then .inr ()else .inl false)
 |[],i,e=>by
  have:l.length≤i:=by simpa using e
  rw[F63_l24,List.drop_of_length_le (by omega)];simp
 |x::xs,i,e=>by
  have hi:=(List.getElem?_eq_some_iff.1 (drop_hd e)).1
  have h1:i<m.Owners.length:=by omega
  rw[F63_l24,rdI_at h1,Option.bind_some,rmeta_l24 m l hl xs (i+1) (drop_tl e),List.drop_eq_getElem_cons h1]
  have:(decide (x.Kind=m.Owners[i].Kind)&&(decide (x.Name=m.Owners[i].Name)&&(decide (x.Uid=m.Owners[i].Uid)&&((x.Controller==m.Owners[i].Controller)&&(x.Block==m.Owners[i].Block)))))=decide (x=m.Owners[i]):=by
   obtain⟨a,b,c,d,e⟩:=x;rcases m.Owners[i]with⟨a',b',c',d',e'⟩
   rw[Bool.eq_iff_iff];simp
  rw[this,nb_not]
  by_cases hx:x=m.Owners[i]<;>simp only[hx,List.cons.injEq,true_and,false_and,not_true_eq_false,not_false_eq_true,if_true,if_false,Option.map_some,decide_true,decide_false,Bool.not_true,Bool.not_false,Bool.false_eq_true]
theorem rmeta_l29(m:Meta)(l:List Manager)(hl:l.length=m.Managers.length)(hm:∀z∈l,z.Fields.length≤4294967290):∀(xs:List Manager) (i:Nat),l.drop i=xs→F63_l29 m xs i=some (if xs=m.Managers.drop i then .inr ()else .inl false)
 |[],i,e=>by
  have:l.length≤i:=by simpa using e
  rw[F63_l29,List.drop_of_length_le (by omega)];simp
 |x::xs,i,e=>by
  have hi:=(List.getElem?_eq_some_iff.1 (drop_hd e)).1
  have h1:i<m.Managers.length:=by omega
  rw[F63_l29,rdI_at h1,Option.bind_some,rmeta_l29 m l hl hm xs (i+1) (drop_tl e),List.drop_eq_getElem_cons h1,rsame_t _ (hm x (List.mem_of_getElem? (drop_hd e)))]
  have hf:x=m.Managers[i]↔x.Name=m.Managers[i].Name∧x.Fields=m.Managers[i].Fields:=by obtain⟨a,b⟩:=x;rcases m.Managers[i]with⟨c,d⟩;simp
  have e2:(if¬x.Name=m.Managers[i].Name then some true else(some (decide (x.Fields=m.Managers[i].Fields))).bind fun t34=>some (nb t34))=some (decide (¬x=m.Managers[i])):=by
   by_cases h2:x.Name=m.Managers[i].Name<;>by_cases h3:x.Fields=m.Managers[i].Fields<;>simp[hf,h2,h3,nb_not]
  rw[e2,Option.bind_some]
  by_cases hx:x=m.Managers[i]<;>simp only[hx,List.cons.injEq,true_and,false_and,not_true_eq_false,not_false_eq_true,if_true,if_false,Option.map_some,decide_true,decide_false,Bool.not_true,Bool.not_false,Bool.false_eq_true]
theorem app_inj{a b c:ByteArray}(h:a++b=a++c):b=c:=by
 have:=congrArg (fun x:ByteArray=>x.data.toList) h
 simp only[ByteArray.data_append,Array.toList_append]at this
 have e:=List.append_cancel_left this
 obtain⟨⟨b⟩⟩:=b;obtain⟨⟨c⟩⟩:=c
 simp only at e;rw[e]
open Go Go.Fw
set_option maxRecDepth 100000
set_option linter.unusedVariables false
set_option linter.unusedSimpArgs false
theorem ne_of{α β:Type}{f:α→β}{a b:α}(h:f a≠f b):a≠b:=fun e=>h (by rw[e])
theorem rmeta_t{o p:Object}(ho:OW o)(hp:OW p):F63 o.Meta p.Meta=some (decide (o.Meta=p.Meta)):=by
 have b1:=ho.labels;have b2:=ho.owners;have b3:=ho.fins;have b4:=ho.mans;have b5:=ho.man
 rw[F63,rKeyOf_t ho.key,rKeyOf_t hp.key]
 simp only[Option.bind_some]
 generalize o.Meta=m at*
 generalize p.Meta=m' at*
 by_cases h0:keyB m=keyB m'
 rotate_left
 ·rw[if_pos h0];simp[ne_of h0]
 rw[if_neg (not_not_intro h0)]
 by_cases h1:m.Kind=m'.Kind
 rotate_left
 ·rw[if_pos h1];simp[ne_of h1]
 rw[if_neg (not_not_intro h1)]
 by_cases h2:m.Namespace=m'.Namespace
 rotate_left
 ·rw[if_pos h2];simp[ne_of h2]
 rw[if_neg (not_not_intro h2)]
 by_cases h3:m.Uid=m'.Uid
 rotate_left
 ·rw[if_pos h3];simp[ne_of h3]
 rw[if_neg (not_not_intro h3)]
 by_cases h4:m.Version=m'.Version
 rotate_left
 ·rw[if_pos h4];simp[ne_of h4]
 rw[if_neg (not_not_intro h4)]
 by_cases h5:m.Generation=m'.Generation
 rotate_left
 ·rw[if_pos h5];simp[ne_of h5]
 rw[if_neg (not_not_intro h5)]
 by_cases h6:m.Created=m'.Created
 rotate_left
 ·rw[if_pos h6];simp[ne_of h6]
 rw[if_neg (not_not_intro h6)]
 by_cases h7:m.Deleting=m'.Deleting
 rotate_left
 ·rw[if_pos (by cases hh:m.Deleting<;>cases hk:m'.Deleting<;>simp_all)];simp[ne_of h7]
 rw[if_neg (by rw[h7];simp)]
 by_cases h8:m.DeleteAt=m'.DeleteAt
 rotate_left
 ·rw[decide_eq_true h8];simp[ne_of h8]
 rw[decide_eq_false (not_not_intro h8)]
 simp only[Option.bind_some,Bool.false_eq_true,if_false]
 by_cases g1:(m.Labels.length:Int)=(m'.Labels.length:Int)
 rotate_left
 ·rw[if_pos g1];simp[ne_of (f:=fun m:Meta=>(m.Labels.length:Int)) g1]
 rw[if_neg (not_not_intro g1)]
 by_cases g2:(m.Owners.length:Int)=(m'.Owners.length:Int)
 rotate_left
 ·rw[if_pos g2];simp[ne_of (f:=fun m:Meta=>(m.Owners.length:Int)) g2]
 rw[if_neg (not_not_intro g2)]
 by_cases g3:(m.Managers.length:Int)=(m'.Managers.length:Int)
 rotate_left
 ·rw[if_pos g3];simp[ne_of (f:=fun m:Meta=>(m.Managers.length:Int)) g3]
 rw[if_neg (not_not_intro g3),rsame_t _ (by omega)]
 simp only[Option.bind_some,nb_not]
 by_cases g4:m.Finalizers=m'.Finalizers
 rotate_left
 ·simp only[g4,decide_false,Bool.not_false,if_true];simp[ne_of g4]
 simp only[g4,decide_true,Bool.not_true,Bool.false_eq_true,if_false]
 rw[ck_t (by omega),ck_t (by omega),ck_t (by omega)]
 simp only[Option.bind_some]
 rw[rmeta_l19 m' m.Labels (by omega) m.Labels 0 (List.drop_zero ..),rmeta_l24 m' m.Owners (by omega) m.Owners 0 (List.drop_zero ..),rmeta_l29 m' m.Managers (by omega) (fun z hz=>by have:=b5 z hz;omega) m.Managers 0 (List.drop_zero ..)]
 simp only[List.drop_zero,Option.bind_some]
 by_cases k1:m.Labels=m'.Labels
 rotate_left
 ·simp only[k1,if_false];simp[ne_of k1]
 simp only[k1,if_true]
 by_cases k2:m.Owners=m'.Owners
 rotate_left
 ·simp only[k2,if_false];simp[ne_of k2]
 simp only[k2,if_true]
 by_cases k3:m.Managers=m'.Managers
 rotate_left
 ·simp only[k3,if_false];simp[ne_of k3]
 simp only[k3,if_true]
 have h9:m.Name=m'.Name:=by
  unfold keyB at h0
  rw[h1,h2]at h0
  exact app_inj h0
 have:m=m':=by
  obtain⟨a1,a2,a3,a4,a5,a6,a7,a8,a9,a10,a11,a12,a13⟩:=m
  obtain⟨c1,c2,c3,c4,c5,c6,c7,c8,c9,c10,c11,c12,c13⟩:=m'
  simp only at*
  simp only[Meta.mk.injEq]
  exact⟨h1,h2,h9,h3,h4,h5,h6,h7,h8,k1,k2,g4,k3⟩
 simp[this]
theorem reqO_t{o p:Object}(ho:OW o)(hp:OW p):∃b,F24 o p=some b∧(b=true↔o=p):=by
 obtain⟨a,a1,a2⟩:=reqV_t p.Spec ho.spec
 obtain⟨c,c1,c2⟩:=reqV_t p.Status ho.status
 rw[F24,rmeta_t ho hp,a1,c1]
 have hx:o=p↔o.Meta=p.Meta∧o.Spec=p.Spec∧o.Status=p.Status:=by cases o;cases p;simp
 rw[hx]
 simp only[Option.bind_some]
 by_cases h1:o.Meta=p.Meta
 ·cases a
  ·refine⟨false,by simp[h1],?_⟩
   constructor
   ·intro h;cases h
   ·rintro⟨_,h2,_⟩;exact a2.2 h2
  ·refine⟨c,by simp[h1],?_⟩
   rw[c2];exact⟨fun h=>⟨h1,a2.1 rfl,h⟩,fun h=>h.2.2⟩
 ·exact⟨false,by simp[h1],by simp[h1]⟩
open Go Go.Fw
set_option maxRecDepth 100000
set_option linter.unusedVariables false
set_option linter.unusedSimpArgs false
def restC(m:Meta):Option Bool:=(((F103 m.Kind).bind fun t6=>(if t6=true then(F104 m.Namespace).bind fun t8=>(if t8=true then(F105 m.Name).bind fun t10=>(if t10=true then(F106 m.Labels).bind fun t12=>(if t12=true then(F107 m.Owners).bind fun t14=>(if t14=true then(F108 m.Finalizers).bind fun t16=>(if t16=true then(F109 m.Managers).bind fun t18=>some t18 else some false)else some false)else some false)else some false)else some false)else some false)).bind fun o5=>some o5)
def num(m:Meta):Prop:=0≤m.Uid∧0≤m.Version∧0≤m.Generation∧0≤m.Created∧0≤m.DeleteAt∧(m.Deleting=true∨m.DeleteAt=0)
instance(m:Meta):Decidable (num m):=by unfold num;exact inferInstance
theorem mn(a b:Int):(if b<a then b else a)<0↔a<0∨b<0:=by split<;>omega
theorem mvalid_eq(m:Meta):F79 m=if num m then restC m else some false:=by
 rw[F79]
 simp only[mn]
 have e:(if(((m.Uid<0∨m.Version<0)∨m.Generation<0)∨m.Created<0)∨m.DeleteAt<0 then some true else(if(nb m.Deleting)=true then some (decide (¬(m.DeleteAt=0)))else some false))=some (decide (¬num m)):=by
  unfold num
  rw[nb_not]
  by_cases h:(((m.Uid<0∨m.Version<0)∨m.Generation<0)∨m.Created<0)∨m.DeleteAt<0
  ·rw[if_pos h]
   have:¬(0≤m.Uid∧0≤m.Version∧0≤m.Generation∧0≤m.Created∧0≤m.DeleteAt∧(m.Deleting=true∨m.DeleteAt=0)):=by omega
   rw[decide_eq_true this]
  ·rw[if_neg h]
   have h1:0≤m.Uid∧0≤m.Version∧0≤m.Generation∧0≤m.Created∧0≤m.DeleteAt:=by omega
   by_cases hd:m.Deleting=true<;>by_cases h2:m.DeleteAt=0<;>simp[h1.1,h1.2.1,h1.2.2.1,h1.2.2.2.1,h1.2.2.2.2,hd,h2]
 rw[e]
 by_cases h:num m
 ·rw[decide_eq_false (not_not_intro h),if_pos h];rfl
 ·rw[decide_eq_true h,if_neg h];rfl
open Go Go.Fw
set_option maxRecDepth 100000
set_option linter.unusedVariables false
set_option linter.unusedSimpArgs false
open Go Go.Fw
set_option maxRecDepth 100000
set_option linter.unusedVariables false
set_option linter.unusedSimpArgs false
theorem getM_putI(k k':Int)(v:Bool):∀m:List (Int×Bool),getM k (putM k' v m)=if k'=k then some v else getM k m
 |[]=>by simp[putM,getM]
 |e::r=>by
  rw[putM]
  by_cases h:e.1=k'
  ·rw[if_pos h,getM,getM]
   by_cases h2:k'=k
   ·rw[if_pos h2,if_pos h2]
   ·rw[if_neg h2,if_neg h2,if_neg (by rw[h];exact h2)]
  ·rw[if_neg h,getM,getM_putI k k' v r,getM]
   by_cases h2:e.1=k
   ·rw[if_pos h2,if_pos h2,if_neg (by rw[←h2];exact fun h'=>h h'.symm)]
   ·rw[if_neg h2,if_neg h2]
open Go Go.Fw
set_option maxRecDepth 100000
set_option linter.unusedVariables false
set_option linter.unusedSimpArgs false
theorem char_eq(n:Int):F136 n=F144 n:=rfl
theorem rkey_l8(s:ByteArray):∀(k:Nat) (i:Int),F117_l8 s k i=F130_l8 s k i
 |0,i=>by rw[F117_l8,F130_l8]
 |k+1,i=>by rw[F117_l8,F130_l8];simp only[rkey_l8 s k,char_eq]
theorem rkey_eq(s:ByteArray):F117 s=F130 s:=by
 rw[F117,F130]
 simp only[rkey_l8]
 by_cases h:s=(⟨#[]⟩:ByteArray)
 ·rw[if_pos h,if_pos (by rw[h];decide)]<;>rfl
 ·have:=size_ne h
  rw[if_neg h,if_neg (by omega)]
  all_goals rfl
theorem rval_l2(s:ByteArray):∀(k:Nat) (i:Int),F118_l2 s k i=F131_l2 s k i
 |0,i=>by rw[F118_l2,F131_l2]
 |k+1,i=>by rw[F118_l2,F131_l2];simp only[rval_l2 s k,char_eq]
theorem rval_eq(s:ByteArray):F118 s=F131 s:=by
 rw[F118,F131]
 simp only[rval_l2]
 all_goals first
  |rfl
  |(split<;>rfl)
theorem rlab_l2(l:List Label):∀(xs:List Label) (i:Nat),F85_l2 l xs i=F106_l2 l xs i
 |[],i=>by rw[F85_l2,F106_l2]
 |x::xs,i=>by
  rw[F85_l2,F106_l2]
  simp only[rlab_l2 l xs,rkey_eq,rval_eq,nb_bl,le_of]
theorem rlab_eq(l:List Label):F85 l=F106 l:=by
 rw[F85,F106]
 simp only[rlab_l2]
 all_goals first
  |rfl
  |(split<;>rfl)
def LB(r:Bool ⊕ Unit):Prop:=r= .inl false∨r= .inr ()
theorem stepLB{c:Option Bool}{e:Option (Bool ⊕ Unit)}(hc:∃b,c=some b)(he:∃r,e=some r∧LB r):∃r,(c.bind fun o=>if o=true then(some false).map Sum.inl else e)=some r∧LB r:=by
 obtain⟨b,hb⟩:=hc
 rw[hb]
 cases b
 ·exact he
 ·exact⟨.inl false,rfl,.inl rfl⟩
theorem nameLB(s:ByteArray)(hs:s.size≤4294967290):∀(n i k:Nat),s.size=i+n→n<k→∃r,F105_l1 s k (i:Int)=some r∧LB r
 |0,i,k+1,h,_=>by rw[F105_l1,if_neg (by omega)];exact⟨_,rfl,.inr rfl⟩
 |n+1,i,k+1,h,hk=>by
  obtain⟨y,hy⟩:=byI_ex (b:=s) (i:=(i:Int)) (by omega) (by omega)
  rw[F105_l1,if_pos (by omega),wrapN (by omega),hy,Option.bind_some]
  exact stepLB (by repeat'(first|exact⟨_,rfl⟩|exact exck (by omega)|exact byI_ex (by omega) (by omega)|exact rdI_ex (by omega) (by omega)|exact apI_ex (by omega)|with_reducible refine exif (fun _=>?_) (fun _=>?_)|with_reducible refine exb ?_ (fun _ _=>?_)|with_reducible refine exmap ?_|split)) (nameLB s hs n (i+1) k (by omega) (by omega))
theorem rname_l8(s:ByteArray):∀(k:Nat) (i:Int),F84_l8 s k i=F105_l1 s k i
 |0,i=>by rw[F84_l8,F105_l1]
 |k+1,i=>by
  rw[F84_l8,F105_l1]
  simp only[rname_l8 s k]
  by_cases hi:i<(s.size:Int)
  ·rw[if_pos hi,if_pos hi]
   cases hb:byI s i with
   |none=>rfl
   |some y=>
    simp only[Option.bind_some]
    by_cases a1:97≤y<;>by_cases a2:y≤122<;>by_cases a3:48≤y<;>by_cases a4:y≤57<;>by_cases a5:y=45<;>simp[a1,a2,a3,a4,a5]
  ·rw[if_neg hi,if_neg hi]
theorem rname_eq(s:ByteArray)(hs:s.size≤4294967290):F84 s=F105 s:=by
 obtain⟨r,h1,h2⟩:=nameLB s hs s.size 0 1099511627776 (by omega) (by omega)
 rw[show((0:Nat):Int)=0 from rfl]at h1
 rw[F84,F105,rname_l8,h1]
 simp only[Option.bind_some]
 by_cases h:s=(⟨#[]⟩:ByteArray)
 ·have hz:s.size=0:=by rw[h];rfl
  rw[if_pos h]
  rcases h2 with rfl|rfl
  ·rfl
  ·simp only[Option.bind_some,if_true];rw[if_neg (by omega)];rfl
 have hp:=size_ne h
 rw[if_neg h]
 by_cases h4:40<(s.size:Int)
 ·rw[if_pos h4]
  rcases h2 with rfl|rfl
  ·rfl
  ·simp only[Option.bind_some,if_true];rw[if_pos (by omega),if_neg (by omega)];rfl
 rw[if_neg h4]
 obtain⟨y,hy⟩:=byI_ex (b:=s) (i:=0) (by omega) (by omega)
 obtain⟨z,hz⟩:=byI_ex (b:=s) (i:=IntKind.i64.wrap ((s.size:Int)-1)) (by rw[wr_p (by omega) (by omega)];omega) (by rw[wr_p (by omega) (by omega)];omega)
 rw[hy,hz,if_pos (show 1≤(s.size:Int)by omega),if_pos (show(s.size:Int)≤40 by omega)]
 rcases h2 with rfl|rfl<;>by_cases a1:y=45<;>by_cases a2:z=45<;>simp[a1,a2]
theorem kindLB(s:ByteArray)(hs:s.size≤4294967290):∀(n i k:Nat),s.size=i+n→n<k→∃r,F103_l1 s k (i:Int)=some r∧LB r
 |0,i,k+1,h,_=>by rw[F103_l1,if_neg (by omega)];exact⟨_,rfl,.inr rfl⟩
 |n+1,i,k+1,h,hk=>by
  obtain⟨y,hy⟩:=byI_ex (b:=s) (i:=(i:Int)) (by omega) (by omega)
  rw[F103_l1,if_pos (by omega),wrapN (by omega),hy,Option.bind_some]
  exact stepLB (by repeat'(first|exact⟨_,rfl⟩|exact exck (by omega)|exact byI_ex (by omega) (by omega)|exact rdI_ex (by omega) (by omega)|exact apI_ex (by omega)|with_reducible refine exif (fun _=>?_) (fun _=>?_)|with_reducible refine exb ?_ (fun _ _=>?_)|with_reducible refine exmap ?_|split)) (kindLB s hs n (i+1) k (by omega) (by omega))
theorem rkind_l8(s:ByteArray)(hs:s.size≤4294967290):∀(k:Nat) (i:Int),0<i→i≤4294967291→F83_l8 s k i=F103_l1 s k i
 |0,i,_,_=>by rw[F83_l8,F103_l1]
 |k+1,i,h0,h1=>by
  rw[F83_l8,F103_l1]
  by_cases hi:i<(s.size:Int)
  ·rw[if_pos hi,if_pos hi,wrapI (n:=i+1) (by omega) (by omega),rkind_l8 s hs k (i+1) (by omega) (by omega)]
   cases hb:byI s i with
   |none=>rfl
   |some y=>
    simp only[Option.bind_some]
    by_cases a1:97≤y<;>by_cases a2:y≤122<;>by_cases a3:65≤y<;>by_cases a4:y≤90<;>simp only[h0,a1,a2,a3,a4,if_true,if_false,Option.bind_some,not_true_eq_false,not_false_eq_true,decide_true,decide_false,Bool.false_eq_true]<;>omega
  ·rw[if_neg hi,if_neg hi]
theorem rkind_eq(s:ByteArray)(hs:s.size≤4294967290):F83 s=F103 s:=by
 obtain⟨r,h1,h2⟩:=kindLB s hs s.size 0 1099511627776 (by omega) (by omega)
 rw[show((0:Nat):Int)=0 from rfl]at h1
 by_cases h:s=(⟨#[]⟩:ByteArray)
 ·rw[h];kernel_rfl
 have hp:=size_ne h
 obtain⟨y,hy⟩:=byI_ex (b:=s) (i:=0) (by omega) (by omega)
 have hl:F83_l8 s 1099511627776 0=if 65≤y∧y≤90 then F103_l1 s 1099511627776 0 else F83_l8 s 1099511627776 0:=by
  split
  ·rename_i hc
   rw[show(1099511627776:Nat)=1099511627775+1 from rfl,F83_l8,F103_l1,if_pos (by omega),if_pos (by omega),hy]
   simp only[Option.bind_some]
   rw[if_neg (show¬97≤y by omega),if_pos hc.1,decide_eq_false (not_not_intro hc.2),if_pos hc.1,if_pos hc.2]
   simp only[Option.bind_some,Bool.false_eq_true,if_false]
   rw[wrapI (n:=(0:Int)+1) (by omega) (by omega)]
   exact rkind_l8 s hs _ _ (by omega) (by omega)
  ·rfl
 by_cases hc:65≤y∧y≤90
 ·rw[F83,F103,hl,if_pos hc,h1,if_neg h,hy]
  simp only[Option.bind_some]
  by_cases h4:40<(s.size:Int)
  ·rw[if_pos h4]
   rcases h2 with rfl|rfl
   ·rfl
   ·simp only[Option.bind_some,if_true];rw[if_pos (by omega),decide_eq_false (by omega)];rfl
  ·rw[if_neg h4,if_neg (by omega),decide_eq_false (by omega)]
   rcases h2 with rfl|rfl
   ·rfl
   ·simp only[Option.bind_some,Bool.false_eq_true,if_false];rw[if_pos (by omega),decide_eq_true (by omega)];rfl
 ·have hr:r= .inl false:=by
   rw[show(1099511627776:Nat)=1099511627775+1 from rfl,F103_l1,if_pos (by omega),hy,Option.bind_some]at h1
   have e:(if 65≤y then(if y≤90 then some false else(if 0<(0:Int)then(if 97≤y then some (decide (¬(y≤122)))else some true)else some true))else(if 0<(0:Int)then(if 97≤y then some (decide (¬(y≤122)))else some true)else some true))=some true:=by
    by_cases b1:65≤y
    ·rw[if_pos b1,if_neg (fun b2=>hc ⟨b1,b2⟩)];rfl
    ·rw[if_neg b1];rfl
   rw[e]at h1
   simpa using h1.symm
  rw[F83,F103,h1,hr,if_neg h,hy]
  simp only[Option.bind_some]
  have e:(if 40<(s.size:Int)then some true else(if y<65 then some true else some (decide (90<y))))=some true:=by
   by_cases b1:40<(s.size:Int)
   ·rw[if_pos b1]
   ·rw[if_neg b1]
    by_cases b2:y<65
    ·rw[if_pos b2]
    ·rw[if_neg b2,decide_eq_true (by omega)]
  rw[e];rfl
open Go Go.Fw
set_option maxRecDepth 100000
set_option linter.unusedVariables false
set_option linter.unusedSimpArgs false
theorem getM_putS(k k':ByteArray)(v:Bool):∀m:List (ByteArray×Bool),getM k (putM k' v m)=if k'=k then some v else getM k m
 |[]=>by simp[putM,getM]
 |e::r=>by
  rw[putM]
  by_cases h:e.1=k'
  ·rw[if_pos h,getM,getM]
   by_cases h2:k'=k
   ·rw[if_pos h2,if_pos h2]
   ·rw[if_neg h2,if_neg h2,if_neg (by rw[h];exact h2)]
  ·rw[if_neg h,getM,getM_putS k k' v r,getM]
   by_cases h2:e.1=k
   ·rw[if_pos h2,if_pos h2,if_neg (by rw[←h2];exact fun h'=>h h'.symm)]
   ·rw[if_neg h2,if_neg h2]
theorem getM_putU(k k':Int)(v:Bool):∀m:List (Int×Bool),getM k (putM k' v m)=if k'=k then some v else getM k m
 |[]=>by simp[putM,getM]
 |e::r=>by
  rw[putM]
  by_cases h:e.1=k'
  ·rw[if_pos h,getM,getM]
   by_cases h2:k'=k
   ·rw[if_pos h2,if_pos h2]
   ·rw[if_neg h2,if_neg h2,if_neg (by rw[h];exact h2)]
  ·rw[if_neg h,getM,getM_putU k k' v r,getM]
   by_cases h2:e.1=k
   ·rw[if_pos h2,if_pos h2,if_neg (by rw[←h2];exact fun h'=>h h'.symm)]
   ·rw[if_neg h2,if_neg h2]
theorem rown_l11(l:List Owner)(x:Owner)(i:Nat)(hi:i≤l.length)(hl:l.length≤4294967290):∀(n j k:Nat),j+n=i→n<k→F86_l11 i l x k (j:Int)=some (if∃y∈(l.take i).drop j,y.Uid=x.Uid then .inl (.inl false)else .inr ())
 |0,j,k+1,h,_=>by
  have:(l.take i).drop j=[]:=List.drop_of_length_le (by rw[List.length_take];omega)
  rw[F86_l11,if_neg (by omega),this];simp
 |n+1,j,k+1,h,hk=>by
  have hj:j<(l.take i).length:=by rw[List.length_take];omega
  rw[F86_l11,if_pos (by omega),rdI_at (by omega),Option.bind_some,wrapN (by omega),rown_l11 l x i hi hl n (j+1) k (by omega) (by omega),List.drop_eq_getElem_cons hj,List.getElem_take]
  by_cases hu:(l[j]'(by omega)).Uid=x.Uid<;>simp[hu]
theorem rown_l1(l:List Owner)(hl:l.length≤4294967290)(hs:∀x∈l,x.Kind.size≤4294967290∧x.Name.size≤4294967290):∀(xs:List Owner) (i:Nat) (m:List (Int×Bool)) (n:Int),l.drop i=xs→(∀u,(getM u m).getD false=true↔∃y∈l.take i,y.Uid=u)→F86_l1 l xs i n=F107_l1 xs i m n
 |[],i,m,n,_,_=>by rw[F86_l1,F107_l1]
 |x::xs,i,m,n,e,hm=>by
  have hx:=drop_hd e
  obtain⟨hlt,hgx⟩:=List.getElem?_eq_some_iff.1 hx
  have hmem:=List.mem_of_getElem? hx
  have ih:=fun n=>rown_l1 l hl hs xs (i+1) (putM x.Uid true m) n (drop_tl e) (fun u=>by
   rw[getM_putU,List.take_add_one,hx]
   by_cases hu:x.Uid=u
   ·rw[if_pos hu];simp[hu]
   ·rw[if_neg hu,hm u];simp[hu])
  obtain⟨a,ha⟩:=mkind_ex x.Kind (hs x hmem).1
  obtain⟨b,hb⟩:=mname_ex x.Name (hs x hmem).2
  have h11:=rown_l11 l x i (by omega) hl i 0 1099511627776 (by omega) (by omega)
  rw[show((0:Nat):Int)=0 from rfl,List.drop_zero]at h11
  rw[F86_l1,F107_l1,rkind_eq _ (hs x hmem).1,rname_eq _ (hs x hmem).2,ha,hb,h11]
  simp only[ih,Option.bind_some]
  simp only[←hm x.Uid]
  generalize (getM x.Uid m).getD false=g
  cases a<;>cases b<;>by_cases hu:x.Uid≤0<;>by_cases hc:x.Controller=true<;>cases g<;>simp[hu,hc,nb_not]
theorem rown_eq(l:List Owner)(hl:l.length≤4294967290)(hs:∀x∈l,x.Kind.size≤4294967290∧x.Name.size≤4294967290):F86 l=F107 l:=by
 rw[F86,F107,ck_t (by omega),rown_l1 l hl hs l 0 [] 0 (List.drop_zero ..) (fun u=>by simp[getM])]
 all_goals first
  |rfl
  |(congr 1;funext o;split<;>rfl)
theorem rfin_l5(l:List ByteArray)(x:ByteArray)(i:Nat)(hi:i≤l.length)(hl:l.length≤4294967290):∀(n j k:Nat),j+n=i→n<k→F87_l5 i l x k (j:Int)=some (if∃y∈(l.take i).drop j,y=x then .inl (.inl false)else .inr ())
 |0,j,k+1,h,_=>by
  have:(l.take i).drop j=[]:=List.drop_of_length_le (by rw[List.length_take];omega)
  rw[F87_l5,if_neg (by omega),this];simp
 |n+1,j,k+1,h,hk=>by
  have hj:j<(l.take i).length:=by rw[List.length_take];omega
  rw[F87_l5,if_pos (by omega),rdI_at (by omega),Option.bind_some,wrapN (by omega),rfin_l5 l x i hi hl n (j+1) k (by omega) (by omega),List.drop_eq_getElem_cons hj,List.getElem_take]
  by_cases hu:l[j]'(by omega)=x
  ·rw[if_pos hu,if_pos ⟨_,List.mem_cons_self ..,hu⟩];rfl
  ·rw[if_neg hu]
   by_cases hex:∃y,y∈(l.take i).drop (j+1)∧y=x
   ·obtain⟨y,h1,h2⟩:=hex
    rw[if_pos ⟨y,h1,h2⟩,if_pos ⟨y,List.mem_cons_of_mem _ h1,h2⟩]
   ·rw[if_neg hex,if_neg]
    rintro⟨y,h1,h2⟩
    rcases List.mem_cons.1 h1 with e|h1
    ·exact hu (e▸h2)
    ·exact hex ⟨y,h1,h2⟩
theorem rfin_l1(l:List ByteArray)(hl:l.length≤4294967290)(hs:∀x∈l,x.size≤4294967290):∀(xs:List ByteArray) (i:Nat) (m:List (ByteArray×Bool)),l.drop i=xs→(∀u,(getM u m).getD false=true↔∃y∈l.take i,y=u)→F87_l1 l xs i=F108_l1 xs i m
 |[],i,m,_,_=>by rw[F87_l1,F108_l1]
 |x::xs,i,m,e,hm=>by
  have hx:=drop_hd e
  obtain⟨hlt,hgx⟩:=List.getElem?_eq_some_iff.1 hx
  have hmem:=List.mem_of_getElem? hx
  have ih:=rfin_l1 l hl hs xs (i+1) (putM x true m) (drop_tl e) (fun u=>by
   rw[getM_putS,List.take_add_one,hx]
   by_cases hu:x=u
   ·rw[if_pos hu];simp[hu]
   ·rw[if_neg hu,hm u];simp[show¬u=x from fun h=>hu h.symm])
  obtain⟨b,hb⟩:=mname_ex x (hs x hmem)
  have h11:=rfin_l5 l x i (by omega) hl i 0 1099511627776 (by omega) (by omega)
  rw[show((0:Nat):Int)=0 from rfl,List.drop_zero]at h11
  rw[F87_l1,F108_l1,rname_eq _ (hs x hmem),hb,h11]
  simp only[ih,Option.bind_some]
  simp only[←hm x]
  generalize (getM x m).getD false=g
  cases b<;>cases g<;>simp[nb_not]
theorem rfin_eq(l:List ByteArray)(hl:l.length≤4294967290)(hs:∀x∈l,x.size≤4294967290):F87 l=F108 l:=by
 rw[F87,F108,ck_t (by omega),rfin_l1 l hl hs l 0 [] (List.drop_zero ..) (fun u=>by simp[getM])]
 all_goals first
  |rfl
  |(congr 1;funext o;split<;>rfl)
theorem rris_l1(l:List ByteArray):∀(k:Nat) (i:Int),F119_l1 l k i=F132_l1 l k i
 |0,i=>by rw[F119_l1,F132_l1]
 |k+1,i=>by
  rw[F119_l1,F132_l1]
  simp only[rris_l1 l k]
  by_cases hi:i<(l.length:Int)
  ·rw[if_pos hi,if_pos hi]
   cases h1:rdI l i with
   |none=>cases h2:rdI l (IntKind.i64.wrap (i-1))<;>rfl
   |some y=>cases h2:rdI l (IntKind.i64.wrap (i-1))with
    |none=>rfl
    |some z=>simp only[Option.bind_some,nb_bl,le_of]
  ·rw[if_neg hi,if_neg hi]
theorem rris_eq(l:List ByteArray):F119 l=F132 l:=by
 rw[F119,F132,rris_l1]
 all_goals first
  |rfl
  |(congr 1;funext o;split<;>rfl)
theorem rman_l1(l:List Manager)(hl:l.length≤4294967290)(hs:∀x∈l,x.Fields.length≤4294967290∧x.Name.size≤4294967290):∀(xs:List Manager) (i:Nat),l.drop i=xs→F88_l1 l xs i=F109_l1 l xs i
 |[],i,_=>by rw[F88_l1,F109_l1]
 |x::xs,i,e=>by
  have hx:=drop_hd e
  obtain⟨hlt,hgx⟩:=List.getElem?_eq_some_iff.1 hx
  have hmem:=List.mem_of_getElem? hx
  have ih:=rman_l1 l hl hs xs (i+1) (drop_tl e)
  obtain⟨b,hb⟩:=mname_ex x.Name (hs x hmem).2
  obtain⟨c,hc⟩:=ris_ex x.Fields (hs x hmem).1
  rw[F88_l1,F109_l1,rname_eq _ (hs x hmem).2,rris_eq,hb,hc,ih]
  simp only[Option.bind_some]
  by_cases h0:0<(i:Int)
  ·rw[wr_p h0 (by omega),rdI_at (by omega)]
   simp only[h0,if_true,Option.bind_some,nb_bl,le_of]
   by_cases g:lt (l[i-1]'(by omega)).Name x.Name<;>cases b<;>by_cases a1:(x.Fields.length:Int)<1<;>by_cases a2:600<(x.Fields.length:Int)<;>cases c<;>simp[g,a1,a2,nb_not]
  ·simp only[h0,if_false]
   cases b<;>by_cases a1:(x.Fields.length:Int)<1<;>by_cases a2:600<(x.Fields.length:Int)<;>cases c<;>simp[a1,a2,nb_not]
theorem rman_eq(l:List Manager)(hl:l.length≤4294967290)(hs:∀x∈l,x.Fields.length≤4294967290∧x.Name.size≤4294967290):F88 l=F109 l:=by
 rw[F88,F109,ck_t (by omega),rman_l1 l hl hs l 0 (List.drop_zero ..)]
 all_goals first
  |rfl
  |(congr 1;funext o;split<;>rfl)
open Go Go.Fw
set_option maxRecDepth 100000
set_option linter.unusedVariables false
set_option linter.unusedSimpArgs false
theorem rtext_l1(s:ByteArray):∀(k:Nat) (i:Int),F137_l1 s k i=F145_l1 s k i
 |0,i=>by rw[F137_l1,F145_l1]
 |k+1,i=>by rw[F137_l1,F145_l1];simp only[rtext_l1 s k]
theorem rtext_eq(s:ByteArray):F137 s=F145 s:=by
 rw[F137,F145,rtext_l1]
 all_goals first
  |rfl
  |(congr 1;funext o;split<;>rfl)
theorem rscalar_eq(v:TValue):F120 v=F133 v:=by
 rw[F120,F133,rtext_eq]
 by_cases h1:v.Kind=1
 ·simp only[if_pos h1]
  by_cases a1:v.N=0<;>by_cases a2:v.N=1<;>by_cases a3:v.S=(⟨#[]⟩:ByteArray)<;>simp[a1,a2,a3]
 ·simp only[if_neg h1]
  by_cases h2:v.Kind=2
  ·simp only[if_pos h2]
   by_cases a1:(-1000000000000000)≤v.N<;>by_cases a2:v.N≤1000000000000000<;>by_cases a3:v.S=(⟨#[]⟩:ByteArray)<;>simp[a1,a2,a3]
  ·simp only[if_neg h2]
theorem rfield_l1(s:ByteArray):∀(k:Nat) (i:Int),F121_l1 s k i=F134_l1 s k i
 |0,i=>by rw[F121_l1,F134_l1]
 |k+1,i=>by
  rw[F121_l1,F134_l1]
  simp only[rfield_l1 s k]
  by_cases hi:i<(s.size:Int)
  ·rw[if_pos hi,if_pos hi]
   cases hb:byI s i with
   |none=>rfl
   |some y=>
    simp only[Option.bind_some]
    by_cases a1:97≤y
    ·by_cases a2:y≤122
     ·simp[a1,a2,nb_not]
     ·have b1:65≤y:=by omega
      have b2:¬y≤90:=by omega
      have b3:48≤y:=by omega
      have b4:¬y≤57:=by omega
      by_cases a5:y=45<;>by_cases a6:y=95<;>by_cases a7:y=47<;>simp[a1,a2,b1,b2,b3,b4,a5,a6,a7,nb_not]
    ·by_cases a3:65≤y
     ·by_cases a4:y≤90
      ·simp[a1,a3,a4,nb_not]
      ·have b3:48≤y:=by omega
       have b4:¬y≤57:=by omega
       by_cases a5:y=45<;>by_cases a6:y=95<;>by_cases a7:y=47<;>simp[a1,a3,a4,b3,b4,a5,a6,a7,nb_not]
     ·by_cases a5:y=45<;>by_cases a6:y=95<;>by_cases a7:y=47<;>by_cases b3:48≤y<;>by_cases b4:y≤57<;>simp[a1,a3,b3,b4,a5,a6,a7,nb_not]
  ·rw[if_neg hi,if_neg hi]
theorem rfield_eq(s:ByteArray):F121 s=F134 s:=by
 rw[F121,F134,rfield_l1]
 all_goals first
  |rfl
  |(congr 1;funext o;split<;>rfl)
theorem rval_l13(rc:TValue→Int→Option Bool)(d:Int):∀(l:List TValue) (i:Nat),F89_l13 rc d l i=F110_l16 rc d l i
 |[],i=>by rw[F89_l13,F110_l16]
 |x::l,i=>by rw[F89_l13,F110_l16];simp only[rval_l13 rc d l]
theorem rval_l18(rc:TValue→Int→Option Bool)(v:TValue)(d:Int):∀(l:List TField) (i:Nat),F89_l18 rc v d l i=F110_l21 rc v d l i
 |[],i=>by rw[F89_l18,F110_l21]
 |x::l,i=>by rw[F89_l18,F110_l21];simp only[rval_l18 rc v d l,rfield_eq,nb_bl,le_of]
theorem rvalid_step(rc:TValue→Int→Option Bool)(v:TValue)(d:Int):F89 rc v d=F110 rc v d:=by
 rw[F89,F110,rscalar_eq]
 simp only[rval_l13,rval_l18]
 by_cases h0:d=0
 ·simp only[if_pos h0,Option.bind_some,if_true]
 simp only[if_neg h0]
 cases hs:F133 v with
 |none=>rfl
 |some b=>
  simp only[Option.bind_some]
  cases b with
  |false=>rfl
  |true=>
   simp only[show nb true=false from rfl,Bool.false_eq_true,if_false]
   by_cases a1:v.Kind=4<;>by_cases a2:v.Kind=5<;>by_cases a3:0<(v.List_.length:Int)<;>by_cases a4:0<(v.Fields.length:Int)<;>by_cases a5:64<(v.List_.length:Int)<;>by_cases a6:64<(v.Fields.length:Int)<;>first|omega|(simp only[a1,a2,a3,a4,a5,a6,if_true,if_false,not_true_eq_false,not_false_eq_true,decide_true,decide_false,Option.bind_some,Bool.false_eq_true]<;>rfl)
theorem rvalidk:∀k:Nat,F89k k=F110k k
 |0=>rfl
 |k+1=>by funext v d;rw[F89k,F110k,rvalidk k,rvalid_step]
theorem rValid_eq(v:TValue):F43 v=F80 v:=by
 rw[F43,F80,rvalidk,size_same]
theorem rmValid_t{o:Object}(h:OW o):F42 o.Meta=F79 o.Meta:=by
 have k1:=h.key;have k2:=h.labels;have k3:=h.owners;have k4:=h.fins;have k5:=h.mans
 have s1:∀x∈o.Meta.Owners,x.Kind.size≤4294967290∧x.Name.size≤4294967290:=fun x hx=>by have:=h.owner x hx;omega
 have s2:∀x∈o.Meta.Finalizers,x.size≤4294967290:=fun x hx=>by have:=h.fin x hx;omega
 have s3:∀x∈o.Meta.Managers,x.Fields.length≤4294967290∧x.Name.size≤4294967290:=fun x hx=>by have:=h.man x hx;omega
 obtain⟨a,ha⟩:=mkind_ex o.Meta.Kind (by omega)
 obtain⟨b,hb⟩:=mname_ex o.Meta.Namespace (by omega)
 obtain⟨c,hc⟩:=mname_ex o.Meta.Name (by omega)
 obtain⟨d,hd⟩:=lvalid_ex o.Meta.Labels (by omega) (fun x hx=>by have:=h.label x hx;omega)
 obtain⟨e,he⟩:=own_ex o.Meta.Owners (by omega) s1
 obtain⟨f,hf⟩:=fin_ex o.Meta.Finalizers (by omega) s2
 obtain⟨g,hg⟩:=man_ex o.Meta.Managers (by omega) s3
 rw[mvalid_eq,restC,F42,F104,rkind_eq _ (by omega),rname_eq _ (by omega),rname_eq _ (by omega),rlab_eq,rown_eq _ (by omega) s1,rfin_eq _ (by omega) s2,rman_eq _ (by omega) s3,ha,hb,hc,hd,he,hf,hg]
 have e0:(if o.Meta.Uid<0 then some true else(if o.Meta.Version<0 then some true else(if o.Meta.Generation<0 then some true else(if o.Meta.Created<0 then some true else(if o.Meta.DeleteAt<0 then some true else(if(nb o.Meta.Deleting)=true then some (decide (¬(o.Meta.DeleteAt=0)))else some false))))))=some (decide (¬num o.Meta)):=by
  unfold num
  rw[nb_not]
  by_cases c1:o.Meta.Uid<0
  ·rw[if_pos c1,decide_eq_true (by omega)]
  rw[if_neg c1]
  by_cases c2:o.Meta.Version<0
  ·rw[if_pos c2,decide_eq_true (by omega)]
  rw[if_neg c2]
  by_cases c3:o.Meta.Generation<0
  ·rw[if_pos c3,decide_eq_true (by omega)]
  rw[if_neg c3]
  by_cases c4:o.Meta.Created<0
  ·rw[if_pos c4,decide_eq_true (by omega)]
  rw[if_neg c4]
  by_cases c5:o.Meta.DeleteAt<0
  ·rw[if_pos c5,decide_eq_true (by omega)]
  rw[if_neg c5]
  have q1:0≤o.Meta.Uid:=by omega
  have q2:0≤o.Meta.Version:=by omega
  have q3:0≤o.Meta.Generation:=by omega
  have q4:0≤o.Meta.Created:=by omega
  have q5:0≤o.Meta.DeleteAt:=by omega
  by_cases hdl:o.Meta.Deleting=true<;>by_cases h2:o.Meta.DeleteAt=0<;>simp[q1,q2,q3,q4,q5,hdl,h2]
 rw[e0]
 by_cases hn:num o.Meta<;>by_cases hs:o.Meta.Namespace=(⟨#[]⟩:ByteArray)<;>cases a<;>cases b<;>cases c<;>cases d<;>cases e<;>cases f<;>simp[hn,hs,nb_not]
theorem rSound_t{o:Object}(h:OW o):F14 o=some (okO o):=by
 have h0:=okO_t h
 rw[F38]at h0
 rw[F14,rmValid_t h,rValid_eq,rValid_eq]
 exact h0
open Go Go.Fw
set_option maxRecDepth 100000
set_option linter.unusedVariables false
set_option linter.unusedSimpArgs false
open Go Go.Fw
set_option maxRecDepth 100000
set_option linter.unusedVariables false
set_option linter.unusedSimpArgs false
theorem sorted_rm{x:Object}{l:List Object}(h:Sorted (x::l)){k:ByteArray}(hk:keyO x=k∨lt k (keyO x)):rm k l=l:=by
 unfold rm
 rw[List.filter_eq_self.2]
 intro z hz
 have h1:=(List.pairwise_cons.1 h).1 z hz
 have:¬keyO z=k:=by
  rintro rfl
  rcases hk with hk|hk
  ·rw[hk]at h1;exact lt_irrefl _ h1
  ·exact lt_asy h1 hk
 simpa[cO_zero]using this
theorem insC_front{k:ByteArray}{o:Object}:∀{l:List Object},(∀z∈l,lt k (keyO z))→insC (cO k) o l=o::l
 |[],_=>rfl
 |z::l,h=>by rw[insC,if_neg (fun hh=>lt_asy (h z (List.mem_cons_self ..)) (cO_neg.1 hh))]
theorem rput_done(o:Object):∀(xs:List Object) (i:Nat) (out:List Object),out.length+xs.length≤5000000→F94_l1 o xs i out true=some (out++xs,true)
 |[],i,out,_=>by rw[F94_l1];simp
 |x::xs,i,out,hl=>by
  simp only[List.length_cons]at hl
  rw[F94_l1]
  simp only[show nb true=false from rfl,Bool.false_eq_true,if_false,Option.bind_some]
  rw[apI_t (by simp;omega)]
  simp only[Option.bind_some]
  rw[rput_done o xs (i+1) _ (by simp;omega)]
  simp
theorem rput_ins(o:Object)(ho:OW o):∀(xs:List Object) (i:Nat) (out:List Object),Sorted xs→(∀x∈xs,OW x)→out.length+xs.length≤4000000→∃a b,F94_l1 o xs i out false=some (a,b)∧a.length≤out.length+xs.length+1∧(if b=true then a else a++[o])=out++insC (cO (keyO o)) o (rm (keyO o) xs)
 |[],i,out,_,_,_=>⟨out,false,by rw[F94_l1],by simp,by simp[rm,insC]⟩
 |x::xs,i,out,hs,hx,hl=>by
  simp only[List.length_cons]at hl
  have hs2:=List.pairwise_cons.1 hs
  have hxs:∀z∈xs,OW z:=fun z h=>hx z (List.mem_cons_of_mem _ h)
  rw[F94_l1,rkey_t (hx x (List.mem_cons_self ..)),rkey_t ho]
  simp only[show nb false=true from rfl,if_true,Option.bind_some,nb_bl]
  by_cases h1:lt (keyO x) (keyO o)
  ·have hk:¬keyO x=keyO o:=fun e=>lt_ne h1 e
   rw[decide_eq_false (not_not_intro h1),if_neg (by simp)]
   simp only[Option.bind_some]
   rw[apI_t (by simp;omega)]
   simp only[Option.bind_some]
   obtain⟨a,b,g1,g2,g3⟩:=rput_ins o ho xs (i+1) (out++[x]) hs2.2 hxs (by simp;omega)
   refine⟨a,b,g1,by simp only[List.length_append,List.length_cons,List.length_nil]at g2⊢;omega,?_⟩
   rw[g3]
   have e1:rm (keyO o) (x::xs)=x::rm (keyO o) xs:=by unfold rm;rw[List.filter_cons_of_pos (by simp[cO_zero,hk])]
   rw[e1,insC,if_pos (cO_neg.2 h1)]
   simp
  ·rw[decide_eq_true h1,if_pos rfl,apI_t (by simp;omega)]
   simp only[Option.bind_some]
   by_cases hk:keyO x=keyO o
   ·rw[if_pos hk]
    simp only[Option.map_some,Option.bind_some]
    rw[rput_done o xs (i+1) _ (by simp;omega)]
    refine⟨_,_,rfl,by simp<;>omega,?_⟩
    have e1:rm (keyO o) (x::xs)=xs:=by
     have:=sorted_rm hs (k:=keyO o) (.inl hk)
     unfold rm at this⊢
     rw[List.filter_cons_of_neg (by simp[cO_zero,hk]),this]
    rw[if_pos rfl,e1,insC_front fun z hz=>by rw[←hk];exact hs2.1 z hz]
    simp
   ·rw[if_neg hk]
    simp only[Option.bind_some]
    rw[apI_t (by simp;omega)]
    simp only[Option.bind_some]
    rw[rput_done o xs (i+1) _ (by simp;omega)]
    refine⟨_,_,rfl,by simp<;>omega,?_⟩
    have hlt:=lt_of_not h1 hk
    have e1:rm (keyO o) (x::xs)=x::xs:=by
     have:=sorted_rm hs (k:=keyO o) (.inr hlt)
     unfold rm at this⊢
     rw[List.filter_cons_of_pos (by simp[cO_zero,hk]),this]
    rw[if_pos rfl,e1,insC_front fun z hz=>by
     rcases List.mem_cons.1 hz with e|hz
     ·rw[e];exact hlt
     ·exact lt_trans hlt (hs2.1 z hz)]
    simp
theorem rwith_l1(k:ByteArray):∀(xs:List Object) (i:Nat) (out:List Object),(∀x∈xs,OW x)→out.length+xs.length≤4000000→F95_l1 k xs i out=some (out++rm k xs)
 |[],i,out,_,_=>by rw[F95_l1];simp[rm]
 |x::xs,i,out,hx,hl=>by
  simp only[List.length_cons]at hl
  have hxs:∀z∈xs,OW z:=fun z h=>hx z (List.mem_cons_of_mem _ h)
  rw[F95_l1,rkey_t (hx x (List.mem_cons_self ..)),Option.bind_some]
  by_cases hk:keyO x=k
  ·rw[if_neg (not_not_intro hk)]
   simp only[Option.bind_some]
   rw[rwith_l1 k xs (i+1) out hxs (by omega)]
   unfold rm;rw[List.filter_cons_of_neg (by simp[cO_zero,hk])]
  ·rw[if_pos hk,apI_t (by simp;omega)]
   simp only[Option.bind_some]
   rw[rwith_l1 k xs (i+1) _ hxs (by simp;omega)]
   unfold rm;rw[List.filter_cons_of_pos (by simp[cO_zero,hk])]
   simp
theorem rreplay_t{l:List Object}{c:Change}(hk:c.Kind=1∨c.Kind=2)(hc:OW c.Object)(hs:Sorted l)(ho:∀o∈l,OW o)(hl:l.length≤3000000):F57 l c=some (repS l c):=by
 rw[F57]
 unfold repS
 by_cases h1:c.Kind=1
 ·rw[if_pos h1,if_neg (show¬c.Kind=2 by omega),F94,ck_t (by omega),Option.bind_some]
  obtain⟨a,b,g1,g2,g3⟩:=rput_ins c.Object hc l 0 [] hs ho (by simp;omega)
  rw[g1,Option.bind_some]
  cases b
  ·simp only[show nb false=true from rfl,if_true]
   simp only[Bool.false_eq_true,if_false,List.nil_append]at g3
   rw[apI_t (by simp at g2⊢;omega),Option.bind_some,g3]
   rfl
  ·simp only[show nb true=false from rfl,Bool.false_eq_true,if_false]
   simp only[if_true,List.nil_append]at g3
   rw[g3];rfl
 ·have h2:c.Kind=2:=by omega
  rw[if_neg h1,if_pos h2,rkey_t hc,Option.bind_some,F95,ck_t (by omega),Option.bind_some,rwith_l1 _ l 0 [] ho (by simp;omega)]
  rfl
open Go Go.Fw
set_option maxRecDepth 100000
set_option linter.unusedVariables false
set_option linter.unusedSimpArgs false
open Go Go.Fw
set_option maxRecDepth 100000
set_option linter.unusedVariables false
set_option linter.unusedSimpArgs false
theorem rfind_t{l:List Object}(h:∀o∈l,OW o)(hl:l.length≤4000000)(k:ByteArray):(getS l k=none∧F55 l k=some (-1))∨∃(y:Object) (j:Nat),getS l k=some y∧F55 l k=some (j:Int)∧l[j]? =some y:=by
 rcases find_l1 (k:=k) l h l 0 (List.drop_zero ..)with⟨h1,h2⟩|⟨y,j,h1,h2,h3⟩
 ·exact .inl ⟨h1,by rw[F55,ck_t (by omega),Option.bind_some,h2];rfl⟩
 ·exact .inr ⟨y,j,h1,by rw[F55,ck_t (by omega),Option.bind_some,h2];rfl,h3⟩
open Go Go.Fw
set_option maxRecDepth 100000
set_option linter.unusedVariables false
set_option linter.unusedSimpArgs false
open Go Go.Fw
set_option maxRecDepth 100000
set_option linter.unusedVariables false
set_option linter.unusedSimpArgs false
theorem orS{c q:Prop}[Decidable c][Decidable q]{e:Option Bool}(h:e=some (decide (¬q))):(if c then some true else e)=some (decide (¬(¬c∧q))):=by
 by_cases hc:c<;>simp[hc,h]
theorem orL{c:Prop}[Decidable c]:(some (decide c):Option Bool)=some (decide (¬¬c)):=by simp
open Classical in
def okAt(l:List Object)(rev next:Int)(x:Object)(i:Nat):Prop:=
 (okO x=true∧1≤x.Meta.Uid∧x.Meta.Uid<next∧1≤x.Meta.Version∧x.Meta.Version≤rev∧1≤x.Meta.Generation)∧(0<i→∀y,l[i-1]? =some y→lt (keyO y) (keyO x))∧¬∃y∈l.take i,y.Meta.Uid=x.Meta.Uid
theorem robj_l17(l:List Object)(x:Object)(i:Nat)(hi:i≤l.length)(hl:l.length≤4294967290):∀(n j k:Nat),j+n=i→n<k→F54_l17 i l x k (j:Int)=some (if∃y∈(l.take i).drop j,y.Meta.Uid=x.Meta.Uid then .inl (.inl false)else .inr ())
 |0,j,k+1,h,_=>by
  have:(l.take i).drop j=[]:=List.drop_of_length_le (by rw[List.length_take];omega)
  rw[F54_l17,if_neg (by omega),this];simp
 |n+1,j,k+1,h,hk=>by
  have hj:j<(l.take i).length:=by rw[List.length_take];omega
  rw[F54_l17,if_pos (by omega),rdI_at (by omega),Option.bind_some,wrapN (by omega),robj_l17 l x i hi hl n (j+1) k (by omega) (by omega),List.drop_eq_getElem_cons hj,List.getElem_take]
  by_cases hu:(l[j]'(by omega)).Meta.Uid=x.Meta.Uid<;>simp[hu]
open Classical in
theorem robj_step{l:List Object}{rev next:Int}(ho:∀o∈l,OW o)(hl:l.length≤4000000){x:Object}{xs:List Object}{i:Nat}(e:l.drop i=x::xs):F54_l1 l rev next (x::xs) i=if okAt l rev next x i then F54_l1 l rev next xs (i+1)else some (.inl false):=by
 have hx:=drop_hd e
 obtain⟨hlt,hgx⟩:=List.getElem?_eq_some_iff.1 hx
 have h1:=ho x (List.mem_of_getElem? hx)
 rw[F54_l1,rSound_t h1,Option.bind_some,orS (orS (orS (orS (orS orL)))),Option.bind_some]
 by_cases hA:okO x=true∧1≤x.Meta.Uid∧x.Meta.Uid<next∧1≤x.Meta.Version∧x.Meta.Version≤rev∧1≤x.Meta.Generation
 case neg=>
  rw[if_pos,if_neg (fun h=>hA h.1)];rfl
  rw[decide_eq_true_eq]
  intro h
  refine hA ⟨?_,by omega,by omega,by omega,by omega,by omega⟩
  have:=h.1
  rw[nb_not]at this
  simpa using this
 rw[decide_eq_false (not_not_intro ⟨by rw[hA.1];simp[nb_not],by omega,by omega,by omega,by omega,by omega⟩),if_neg (by simp)]
 have e11:(if 0<(i:Int)then(rdI l (IntKind.i64.wrap ((i:Int)-1))).bind fun y13=>(F56 y13).bind fun t14=>(F56 x).bind fun t15=>some (nb (Op.bytesLess t14.toList t15.toList))else some false)=some (decide (¬(0<i→∀y,l[i-1]? =some y→lt (keyO y) (keyO x)))):=by
  by_cases h0:0<(i:Int)
  ·have hy:l[i-1]? =some l[i-1]:=List.getElem?_eq_getElem (by omega)
   rw[if_pos h0,wr_p h0 (by omega),rdI_val hy,Option.bind_some,rkey_t (ho _ (List.getElem_mem _)),Option.bind_some,rkey_t h1,Option.bind_some,nb_bl]
   have h0':0<i:=by omega
   simp[h0',hy]
  ·rw[if_neg h0]
   have h0':¬0<i:=by omega
   simp[h0']
 rw[e11,Option.bind_some]
 by_cases hB:0<i→∀y,l[i-1]? =some y→lt (keyO y) (keyO x)
 case neg=>rw[decide_eq_true hB,if_pos rfl,if_neg (fun h=>hB h.2.1)];rfl
 rw[decide_eq_false (not_not_intro hB),if_neg (by simp)]
 have h17:=robj_l17 l x i (by omega) (by omega) i 0 1099511627776 (by omega) (by omega)
 rw[show((0:Nat):Int)=0 from rfl,List.drop_zero]at h17
 rw[h17,Option.bind_some]
 by_cases hC:∃y∈l.take i,y.Meta.Uid=x.Meta.Uid
 ·rw[if_pos hC,if_neg (fun h=>h.2.2 hC)]
 ·rw[if_neg hC,if_pos ⟨hA,hB,hC⟩]
open Go Go.Fw
set_option maxRecDepth 100000
set_option linter.unusedVariables false
set_option linter.unusedSimpArgs false
open Classical in
theorem vobj_step{l:List Object}{rev next:Int}(ho:∀o∈l,OW o)(hl:l.length≤4000000){x:Object}{xs:List Object}{i:Nat}{m:List (Int×Bool)}(e:l.drop i=x::xs)(hm:∀u,(getM u m).getD false=true↔∃y∈l.take i,y.Meta.Uid=u):F50_l1 l rev next (x::xs) i m=if okAt l rev next x i then F50_l1 l rev next xs (i+1) (putM x.Meta.Uid true m)else some (.inl false):=by
 have hx:=drop_hd e
 obtain⟨hlt,hgx⟩:=List.getElem?_eq_some_iff.1 hx
 have h1:=ho x (List.mem_of_getElem? hx)
 have eT:(if x.Meta.Uid<1 then some true else(if next≤x.Meta.Uid then some true else(if(((getM x.Meta.Uid m).getD false))=true then some true else(if x.Meta.Version<1 then some true else(if rev<x.Meta.Version then some true else some (decide (x.Meta.Generation<1)))))))=some (decide (¬(¬x.Meta.Uid<1∧¬next≤x.Meta.Uid∧¬(getM x.Meta.Uid m).getD false=true∧¬x.Meta.Version<1∧¬rev<x.Meta.Version∧¬x.Meta.Generation<1))):=orS (orS (orS (orS (orS orL))))
 have eK:(if 0<(i:Int)then(F37 x.Meta).bind fun t7=>(rdI l (IntKind.i64.wrap ((i:Int)-1))).bind fun y8=>(F37 y8.Meta).bind fun t9=>(if(Op.bytesLess t7.toList t9.toList||decide (t7=t9))=true then some true else some (decide (¬(¬x.Meta.Uid<1∧¬next≤x.Meta.Uid∧¬(getM x.Meta.Uid m).getD false=true∧¬x.Meta.Version<1∧¬rev<x.Meta.Version∧¬x.Meta.Generation<1))))else some (decide (¬(¬x.Meta.Uid<1∧¬next≤x.Meta.Uid∧¬(getM x.Meta.Uid m).getD false=true∧¬x.Meta.Version<1∧¬rev<x.Meta.Version∧¬x.Meta.Generation<1))))=some (decide (¬((0<i→∀y,l[i-1]? =some y→lt (keyO y) (keyO x))∧(¬x.Meta.Uid<1∧¬next≤x.Meta.Uid∧¬(getM x.Meta.Uid m).getD false=true∧¬x.Meta.Version<1∧¬rev<x.Meta.Version∧¬x.Meta.Generation<1)))):=by
  by_cases h0:0<(i:Int)
  ·have hy:l[i-1]? =some l[i-1]:=List.getElem?_eq_getElem (by omega)
   rw[if_pos h0,KeyOf_t h1.key,Option.bind_some,wr_p h0 (by omega),rdI_val hy,Option.bind_some,KeyOf_t (ho _ (List.getElem_mem _)).key,Option.bind_some,le_of]
   have h0':0<i:=by omega
   show(if decide (¬lt (keyO l[i-1]) (keyO x))=true then some true else _)=_
   by_cases hlt:lt (keyO l[i-1]) (keyO x)
   ·rw[if_neg (by simp[hlt])]
    have:(0<i→∀y,l[i-1]? =some y→lt (keyO y) (keyO x)):=fun _ y e=>by rw[hy]at e;cases e;exact hlt
    exact congrArg some (decide_eq_decide.2 (not_congr ⟨fun h=>⟨this,h⟩,fun h=>h.2⟩))
   ·rw[if_pos (by simp[hlt])]
    have:¬(0<i→∀y,l[i-1]? =some y→lt (keyO y) (keyO x)):=fun h=>hlt (h h0' _ hy)
    exact congrArg some (decide_eq_true (show¬(_∧_)from fun h=>this h.1)).symm
  ·rw[if_neg h0]
   have:(0<i→∀y,l[i-1]? =some y→lt (keyO y) (keyO x)):=fun h=>by omega
   exact congrArg some (decide_eq_decide.2 (not_congr ⟨fun h=>⟨this,h⟩,fun h=>h.2⟩))
 rw[F50_l1,okO_t h1,Option.bind_some,eT,eK,orS rfl,Option.bind_some]
 have hq:(¬nb (okO x)=true∧(0<i→∀y,l[i-1]? =some y→lt (keyO y) (keyO x))∧¬x.Meta.Uid<1∧¬next≤x.Meta.Uid∧¬(getM x.Meta.Uid m).getD false=true∧¬x.Meta.Version<1∧¬rev<x.Meta.Version∧¬x.Meta.Generation<1)↔okAt l rev next x i:=by
  unfold okAt
  rw[hm,nb_not]
  constructor
  ·rintro⟨a,b,c,d,e,f,g,h⟩
   exact⟨⟨by simpa using a,by omega,by omega,by omega,by omega,by omega⟩,b,e⟩
  ·rintro⟨⟨a,c,d,f,g,h⟩,b,e⟩
   exact⟨by simpa using a,b,by omega,by omega,e,by omega,by omega,by omega⟩
 by_cases hk:okAt l rev next x i
 ·rw[decide_eq_false (not_not_intro (hq.2 hk)),if_neg (by simp),if_pos hk]
 ·rw[if_pos (decide_eq_true (show¬(_∧_)from fun h=>hk (hq.1 h))),if_neg hk];rfl
theorem vo_eq{l:List Object}{rev next:Int}(ho:∀o∈l,OW o)(hl:l.length≤4000000):∀(xs:List Object) (i:Nat) (m:List (Int×Bool)),l.drop i=xs→(∀u,(getM u m).getD false=true↔∃y∈l.take i,y.Meta.Uid=u)→F50_l1 l rev next xs i m=F54_l1 l rev next xs i
 |[],i,m,_,_=>by rw[F50_l1,F54_l1]
 |x::xs,i,m,e,hm=>by
  rw[vobj_step ho hl e hm,robj_step ho hl e,vo_eq ho hl xs (i+1) (putM x.Meta.Uid true m) (drop_tl e) (fun u=>by
   rw[getM_putI,List.take_add_one,drop_hd e]
   by_cases hu:x.Meta.Uid=u
   ·rw[if_pos hu];simp[hu]
   ·rw[if_neg hu,hm u];simp[hu])]
theorem vobjs_eq{l:List Object}(ho:∀o∈l,OW o)(hl:l.length≤4000000)(rev next:Int):F50 l rev next=F54 l rev next:=by
 rw[F50,F54,vo_eq ho hl l 0 [] (List.drop_zero ..) (fun u=>by simp[getM])]<;>rfl
theorem robj_sorted{l:List Object}{rev next:Int}(ho:∀o∈l,OW o)(hl:l.length≤4000000):∀(xs:List Object) (i:Nat),l.drop i=xs→Sorted (l.take i)→(0<i→∀y,l[i-1]? =some y→∀a∈l.take i,a=y∨lt (keyO a) (keyO y))→F54_l1 l rev next xs i=some (.inl false)∨F54_l1 l rev next xs i=some (.inr ())∧Sorted l
 |[],i,e,hs,hy=>by
  right
  have:l.length≤i:=by simpa using e
  rw[List.take_of_length_le this]at hs
  exact⟨by rw[F54_l1],hs⟩
 |x::xs,i,e,hs,hy=>by
  have hx:=drop_hd e
  rw[robj_step ho hl e]
  by_cases hk:okAt l rev next x i
  ·rw[if_pos hk]
   obtain⟨_,hb,_⟩:=hk
   have hi:=(List.getElem?_eq_some_iff.1 hx).1
   have all:∀a∈l.take i,lt (keyO a) (keyO x):=by
    intro a ha
    have h0:0<i:=by
     rcases Nat.eq_zero_or_pos i with h|h
     ·subst h;simp at ha
     ·exact h
    have hy1:l[i-1]? =some l[i-1]:=List.getElem?_eq_getElem (by omega)
    have h2:=hb h0 _ hy1
    rcases hy h0 _ hy1 a ha with rfl|h3
    ·exact h2
    ·exact lt_trans h3 h2
   refine robj_sorted ho hl xs (i+1) (drop_tl e) ?_ ?_
   ·rw[List.take_add_one,hx]
    refine List.pairwise_append.2 ⟨hs,List.pairwise_singleton ..,fun a ha b hb=>?_⟩
    rw[Option.toList_some,List.mem_singleton]at hb
    subst hb
    exact all a ha
   ·intro _ y hy2 a ha
    rw[Nat.add_sub_cancel,hx]at hy2
    cases hy2
    rw[List.take_add_one,hx,List.mem_append]at ha
    rcases ha with ha|ha
    ·exact .inr (all a ha)
    ·rw[Option.toList_some,List.mem_singleton]at ha
     exact .inl ha
  ·rw[if_neg hk];exact .inl rfl
theorem robjs_t{l:List Object}(ho:∀o∈l,OW o)(hl:l.length≤4000000)(rev next:Int):∃b,F54 l rev next=some b∧(b=true→Sorted l):=by
 rw[F54,ck_t (by omega),Option.bind_some]
 rcases robj_sorted (rev:=rev) (next:=next) ho hl l 0 (List.drop_zero ..) List.Pairwise.nil (fun h=>absurd h (by omega))with h|⟨h,hs⟩
 ·rw[h];exact⟨false,rfl,by simp⟩
 ·rw[h];exact⟨_,rfl,fun _=>hs⟩
theorem eqf_l2g(l p:List Object)(hl:l.length=p.length)(ho:∀o∈l,OW o):∀(xs:List Object) (i:Nat),l.drop i=xs→∃r,F92_l2 p xs i=some r∧(r= .inl false∧xs≠p.drop i∨r= .inr ()∧xs=p.drop i)
 |[],i,e=>by
  have:l.length≤i:=by simpa using e
  exact⟨.inr (),by rw[F92_l2],.inr ⟨rfl,by rw[List.drop_of_length_le (by omega)]⟩⟩
 |x::xs,i,e=>by
  have hi:=(List.getElem?_eq_some_iff.1 (drop_hd e)).1
  have h1:i<p.length:=by omega
  obtain⟨b,b1,b2⟩:=eqO_t p[i] (ho x (List.mem_of_getElem? (drop_hd e)))
  obtain⟨r,r1,r2⟩:=eqf_l2g l p hl ho xs (i+1) (drop_tl e)
  rw[F92_l2,rdI_at h1,Option.bind_some,b1,Option.bind_some,List.drop_eq_getElem_cons h1]
  cases b
  ·refine⟨.inl false,rfl,.inl ⟨rfl,fun h=>?_⟩⟩
   have:=b2.2 (List.cons.inj h).1
   cases this
  ·have hx:=b2.1 rfl
   rw[if_neg (by simp[nb_not])]
   refine⟨r,r1,?_⟩
   rcases r2 with⟨r2,r3⟩|⟨r2,r3⟩
   ·exact .inl ⟨r2,fun h=>r3 (List.cons.inj h).2⟩
   ·exact .inr ⟨r2,by rw[←hx,←r3]⟩
theorem seq_t{l p:List Object}(ho:∀o∈l,OW o)(hl:l.length≤4000000):∃b,F53 l p=some b∧(b=true↔l=p):=by
 rw[F53,F92]
 by_cases h:(l.length:Int)=(p.length:Int)
 ·rw[if_neg (by simpa using h),ck_t (by omega),Option.bind_some]
  obtain⟨r,r1,r2⟩:=eqf_l2g l p (by omega) ho l 0 (List.drop_zero ..)
  rw[r1]
  rcases r2 with⟨rfl,r3⟩|⟨rfl,r3⟩
  ·exact⟨false,rfl,by simpa using r3⟩
  ·exact⟨true,rfl,by simpa using r3⟩
 ·rw[if_pos h]
  exact⟨false,rfl,by simp;intro e;exact h (by rw[e])⟩
theorem reql_l1g(l p:List Object)(ho:∀o∈l,OW o)(hp:∀o∈p,OW o)(hl:l.length≤4000000):∀(m i k:Nat),min l.length p.length=i+m→m<k→∃r,F27_l1 l p k (i:Int)=some r∧(r= .inl false∧l≠p∨r= .inr ()∧∀j,i≤j→j<i+m→l[j]? =p[j]?)
 |0,i,k+1,h1,_=>by
  have:(if(i:Int)<(l.length:Int)then some (decide ((i:Int)<(p.length:Int)))else some false)=some false:=by
   by_cases g:(i:Int)<(l.length:Int)
   ·rw[if_pos g,decide_eq_false (by omega)]
   ·rw[if_neg g]
  rw[F27_l1,this]
  exact⟨_,rfl,.inr ⟨rfl,fun j h2 h3=>by omega⟩⟩
 |m+1,i,k+1,h1,h2=>by
  have hi:i<l.length:=by omega
  have hj:i<p.length:=by omega
  obtain⟨r,r1,r2⟩:=reql_l1g l p ho hp hl m (i+1) k (by omega) (by omega)
  obtain⟨b,b1,b2⟩:=reqO_t (ho _ (List.getElem_mem hi)) (hp _ (List.getElem_mem hj))
  rw[F27_l1,if_pos (by omega),decide_eq_true (by omega),Option.bind_some,if_pos rfl,rdI_at hi,Option.bind_some,rdI_at hj,Option.bind_some,b1,Option.bind_some,wrapN (by omega)]
  cases b
  ·refine⟨.inl false,rfl,.inl ⟨rfl,fun h=>?_⟩⟩
   subst h
   have:=b2.2 rfl
   cases this
  ·rw[if_neg (by simp[nb_not])]
   refine⟨r,r1,?_⟩
   rcases r2 with r2|⟨r2,r3⟩
   ·exact .inl r2
   ·refine .inr ⟨r2,fun j h3 h4=>?_⟩
    by_cases hji:j=i
    ·subst hji
     rw[List.getElem?_eq_getElem hi,List.getElem?_eq_getElem hj,b2.1 rfl]
    ·exact r3 j (by omega) (by omega)
theorem reql_t{l p:List Object}(ho:∀o∈l,OW o)(hp:∀o∈p,OW o)(hl:l.length≤4000000):∃b,F27 l p=some b∧(b=true↔l=p):=by
 obtain⟨r,r1,r2⟩:=reql_l1g l p ho hp hl (min l.length p.length) 0 1099511627776 (by omega) (by omega)
 rw[show((0:Nat):Int)=0 from rfl]at r1
 rw[F27,r1]
 rcases r2 with⟨rfl,r3⟩|⟨rfl,r3⟩
 ·exact⟨false,rfl,by simpa using r3⟩
 ·refine⟨_,rfl,?_⟩
  rw[decide_eq_true_eq]
  constructor
  ·intro h
   refine List.ext_getElem? fun j=>?_
   by_cases hj:j<l.length
   ·exact r3 j (by omega) (by omega)
   ·rw[List.getElem?_eq_none (by omega),List.getElem?_eq_none (by omega)]
  ·intro h;rw[h]
open Go Go.Fw
set_option maxRecDepth 100000
set_option linter.unusedVariables false
set_option linter.unusedSimpArgs false
theorem fl_cond(c:Change)(i:Int):(if¬(c.Rev=i)then some true else(if¬(c.Kind=1)then(if¬(c.Kind=2)then some true else(some (okO c.Object)).bind fun t20=>(if(nb t20)=true then some true else some (decide (¬(c.Object.Meta.Version=c.Rev)))))else(some (okO c.Object)).bind fun t22=>(if(nb t22)=true then some true else some (decide (¬(c.Object.Meta.Version=c.Rev))))))=some (decide (¬(c.Rev=i∧(c.Kind=1∨c.Kind=2)∧okO c.Object=true∧c.Object.Meta.Version=c.Rev))):=by
 simp only[Option.bind_some,nb_not]
 by_cases h1:c.Rev=i<;>by_cases h2:c.Kind=1<;>by_cases h3:c.Kind=2<;>by_cases h4:c.Object.Meta.Version=c.Rev<;>cases h5:okO c.Object<;>simp[h1,h2,h3,h4]
 all_goals omega
theorem hist_l{s:TStore}(h:∀c∈s.History,OW c.Object):∀(xs:List Change) (i:Nat) (l:List Object),s.History.drop i=xs→Sorted l→(∀o∈l,OW o)→l.length+xs.length≤1000000→∃r,F18_l15 s xs i l=some r∧F19_l14 s xs i l=some r∧∀p,r= .inr p→(∀o∈p,OW o)∧p.length≤1000000
 |[],i,l,e,hs,ho,hl=>⟨.inr l,by rw[F18_l15],by rw[F19_l14],by
    intro p hp
    cases hp
    exact⟨ho,by simpa using hl⟩⟩
 |c::xs,i,l,e,hs,ho,hl=>by
  have hc:=h c (List.mem_of_getElem? (drop_hd e))
  simp only[List.length_cons]at hl
  rw[F18_l15,F19_l14,okO_t hc,rSound_t hc,fl_cond]
  simp only[Option.bind_some]
  by_cases g:c.Rev=IntKind.i64.wrap (IntKind.i64.wrap (s.Floor+1)+(i:Int))∧(c.Kind=1∨c.Kind=2)∧okO c.Object=true∧c.Object.Meta.Version=c.Rev
  case neg=>
   rw[decide_eq_true (show¬(_∧_)from g),if_pos rfl,if_pos rfl]
   exact⟨_,rfl,rfl,fun p hp=>by cases hp⟩
  rw[decide_eq_false (not_not_intro g),if_neg (by simp),if_neg (by simp)]
  obtain⟨b,b1,b2⟩:=replay_t c hs ho hc (by omega)
  rw[b1,Option.bind_some]
  have e25:(if c.Kind=2 then(F56 c.Object).bind fun t27=>(F55 l t27).bind fun t28=>some (decide (t28<0))else some false)=some (nb b):=by
   by_cases k2:c.Kind=2
   ·rw[if_pos k2,rkey_t hc,Option.bind_some,nb_not]
    rcases rfind_t ho (by omega) (keyO c.Object)with⟨h1,h2⟩|⟨y,j,h1,h2,h3⟩
    ·rw[h2,Option.bind_some]
     cases b
     ·rfl
     ·have:=b2.1 rfl
      rw[get_has,h1]at this
      simp[k2]at this
    ·rw[h2,Option.bind_some,decide_eq_false (by omega)]
     have:=b2.2 (.inr (by rw[get_has,h1];rfl))
     rw[this];rfl
   ·rw[if_neg k2]
    have:=b2.2 (.inl k2)
    rw[this];rfl
  rw[e25,Option.bind_some]
  cases b
  ·rw[if_pos (by simp[nb_not]),if_pos (by simp[nb_not])]
   exact⟨_,rfl,rfl,fun p hp=>by cases hp⟩
  ·rw[if_neg (by simp[nb_not]),if_neg (by simp[nb_not])]
   rw[rreplay_t g.2.1 hc hs ho (by omega),Option.bind_some]
   exact hist_l h xs (i+1) (repS l c) (drop_tl e) (rep_sorted c hs) (fun o hx=>(rep_mem hx).elim (ho o) fun e=>e▸hc) (by have:=rep_len l c;omega)
theorem valid_eq{s:TStore}(hs:SW s)(hbl:s.Base.length≤40)(hhl:s.History.length≤40):∃b,F18 s=some b∧F19 s=some b:=by
 have w2:=hs.ol
 rw[F18,F19]
 have eg:∃b,(if s.Floor<0 then some true else(if s.Rev<s.Floor then some true else(if 1000000000000000<s.Rev then some true else(if s.NextUid<1 then some true else(if 1000000000000000<s.NextUid then some true else(if¬((s.History.length:Int)=(IntKind.i64.wrap (s.Rev-s.Floor)))then some true else some (decide (4000<(s.History.length:Int)))))))))=some b:=⟨_,orS (orS (orS (orS (orS (orS orL)))))⟩
 obtain⟨g,hg⟩:=eg
 rw[hg,Option.bind_some]
 cases g
 case true=>exact⟨_,rfl,rfl⟩
 simp only[Bool.false_eq_true,if_false,Option.bind_some]
 rw[vobjs_eq hs.base (by omega),vobjs_eq hs.objs (by omega)]
 obtain⟨b,b1,b2⟩:=robjs_t hs.base (by omega) s.Floor s.NextUid
 obtain⟨c,c1,_⟩:=robjs_t hs.objs (by omega) s.Rev s.NextUid
 rw[b1,c1]
 simp only[Option.bind_some,nb_not]
 cases b
 case false=>exact⟨_,rfl,rfl⟩
 cases c
 case false=>exact⟨_,rfl,rfl⟩
 simp only[Bool.not_true,Bool.false_eq_true,if_false]
 obtain⟨r,r1,r2,r3⟩:=hist_l hs.hist s.History 0 s.Base (List.drop_zero ..) (b2 rfl) hs.base (by omega)
 rw[cl_t (by omega),Option.bind_some,ck_t (by omega)]
 simp only[Option.bind_some]
 rw[r1,r2]
 simp only[Option.bind_some]
 cases r with
 |inl f=>exact⟨_,rfl,rfl⟩
 |inr p=>
  obtain⟨p1,p2⟩:=r3 p rfl
  obtain⟨b,b1,b2⟩:=seq_t (p:=s.Objects) p1 (by omega)
  obtain⟨c,c1,c2⟩:=reql_t p1 hs.objs (by omega)
  have:c=b:=Bool.eq_iff_iff.2 (c2.trans b2.symm)
  simp only[b1,c1,this,Option.bind_some]
  exact⟨_,rfl,rfl⟩
theorem few_l1(l:List Object)(h:∀o∈l,OW o)(hl:l.length≤4000000):∀(m k i:Nat) (n:Int),l.length≤i+m→i≤4000000→m<k→∃r,F17_l1 l k n (i:Int)=some r
 |0,k+1,i,n,h1,_,_=>by rw[F17_l1,if_neg (by omega)];exact⟨_,rfl⟩
 |m+1,k+1,i,n,h1,h2,h3=>by
  rw[F17_l1]
  by_cases hi:(i:Int)<(l.length:Int)
  ·rw[if_pos hi,wrapN (by omega),rdI_at (by omega),Option.bind_some]
   obtain⟨w,hw⟩:=wt_ex (h l[i] (List.getElem_mem _))
   have ih:=fun n=>few_l1 l h hl m k (i+1) n (by omega) (by omega) (by omega)
   rw[Option.bind_some,hw,Option.bind_some]
   split
   ·exact ih _
   ·exact⟨_,rfl⟩
  ·rw[if_neg hi];exact⟨_,rfl⟩
theorem few_t{l:List Object}(h:∀o∈l,OW o)(hl:l.length≤4000000):∃b,F17 l=some b∧(b=true→l.length≤40):=by
 obtain⟨r,hr⟩:=few_l1 l h hl l.length 1099511627776 0 0 (by omega) (by omega) (by omega)
 rw[F17]
 rw[show((0:Nat):Int)=0 from rfl]at hr
 rw[hr,Option.bind_some]
 by_cases g:(l.length:Int)≤40
 ·rw[if_pos g];exact⟨_,rfl,fun _=>by omega⟩
 ·rw[if_neg g];exact⟨false,rfl,by simp⟩
theorem all_l1(s:TStore)(h:∀c∈s.History,OW c.Object):∀(m k i:Nat) (a:List Object),i+m=41→m<k→a.length≤i→(∀o∈a,OW o)→∃r,F4_l1 s k a (i:Int)=some r∧(∀o∈r,OW o)∧r.length≤41
 |0,k+1,i,a,h1,_,ha,ho=>by
  have:(if(i:Int)<(s.History.length:Int)then some (decide ((i:Int)≤40))else some false)=some false:=by
   rw[decide_eq_false (by omega)];split<;>rfl
  rw[F4_l1,this]
  exact⟨a,rfl,ho,by omega⟩
 |m+1,k+1,i,a,h1,h2,ha,ho=>by
  rw[F4_l1]
  by_cases hi:(i:Int)<(s.History.length:Int)
  ·have hc:s.History[i]? =some s.History[i]:=List.getElem?_eq_getElem (by omega)
   rw[if_pos hi,decide_eq_true (by omega),Option.bind_some,if_pos rfl,rdI_val hc,Option.bind_some,apI_t (by simp;omega),Option.bind_some,wrapN (by omega)]
   refine all_l1 s h m k (i+1) _ (by omega) (by omega) (by simp;omega) fun o hx=>?_
   rcases List.mem_append.1 hx with hx|hx
   ·exact ho o hx
   ·rw[List.mem_singleton.1 hx];exact h _ (List.mem_of_getElem? hc)
  ·rw[if_neg hi];exact⟨a,rfl,ho,by omega⟩
theorem StoreValid_pure:StoreValid.Pure:=by
 intro s h1 hw
 unfold wTStore at hw
 have hob:∀o∈s.Base,OW o:=fun o ho=>oW (by have:=wL_mem (w:=wObject) ho;omega)
 have hoo:∀o∈s.Objects,OW o:=fun o ho=>oW (by have:=wL_mem (w:=wObject) ho;omega)
 have hoh:∀c∈s.History,OW c.Object:=fun c hc=>oW (by have:=wL_mem (w:=wChange) hc;unfold wChange at this hw;omega)
 have l1:=wL_len (w:=wObject) (fun a=>by unfold wObject wMeta;omega) s.Base
 have l2:=wL_len (w:=wObject) (fun a=>by unfold wObject wMeta;omega) s.Objects
 have l3:=wL_len (w:=wChange) (fun a=>by unfold wChange;omega) s.History
 have hs:SW s:=⟨hob,hoo,hoh,by omega,by omega,by omega⟩
 obtain⟨a,a1,a2,a3⟩:=all_l1 s hoh 41 1099511627776 0 [] (by omega) (by omega) (by simp) (fun _ h=>by cases h)
 rw[show((0:Nat):Int)=0 from rfl]at a1
 obtain⟨b,b1,b2⟩:=few_t hob (by omega)
 obtain⟨c,c1,c2⟩:=few_t hoo (by omega)
 obtain⟨d,d1,d2⟩:=few_t a2 (by omega)
 rw[F4,a1,Option.bind_some,b1,c1,d1,awake_t]
 simp only[Option.bind_some,nb_not]
 cases b
 case false=>rfl
 cases c
 case false=>rfl
 simp only[Bool.not_true,Bool.false_eq_true,if_false]
 by_cases g:40<(s.History.length:Int)
 ·rw[if_pos g];rfl
 rw[if_neg g]
 cases d
 case false=>rfl
 obtain⟨v,v1,v2⟩:=valid_eq hs (b2 rfl) (by omega)
 rw[v1,v2]
 cases v<;>rfl
end Go.Proofs.YtbopaemngpbdgaaGreat
