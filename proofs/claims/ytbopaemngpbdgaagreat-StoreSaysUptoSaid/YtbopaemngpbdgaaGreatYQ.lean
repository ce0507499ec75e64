/- The plain law. -/
import Derived.Test.YtbopaemngpbdgaaGreatYP
import Derived.Test.YtbopaemngpbdgaaGreatFP
import Derived.KernelRfl
set_option linter.unusedVariables false
set_option linter.unusedSimpArgs false
namespace Go.Proofs.YtbopaemngpbdgaaGreat
open Go Go.Fw
set_option maxRecDepth 100000
set_option linter.unusedVariables false
set_option linter.unusedSimpArgs false
section
variable {α:Type}
def S(c:α→Int)(l:List α):Prop:=l.Pairwise fun a b=>c b≤0→c a<0
def plc(c:α→Int):List α→Nat
 |[]=>0
 |y::l=>if c y<0 then plc c l+1 else 0
theorem plc_le(c:α→Int):∀l,plc c l≤l.length
 |[]=>Nat.le_refl _
 |y::l=>by have:=plc_le c l;unfold plc;split<;>simp<;>omega
theorem plc_iff{c:α→Int}:∀{l:List α},S c l→∀i (h:i<l.length),c l[i]<0↔i<plc c l
 |[],_,i,h=>absurd h (by simp)
 |y::l,hs,0,h=>by
  unfold plc
  by_cases hc:c y<0<;>simp[hc]
 |y::l,hs,i+1,h=>by
  have hs2:=List.pairwise_cons.1 hs
  have ih:=plc_iff hs2.2 i (by simpa using h)
  simp only[List.getElem_cons_succ]
  unfold plc
  by_cases hc:c y<0
  ·rw[if_pos hc,ih];omega
  ·rw[if_neg hc]
   exact⟨fun hi=>absurd (hs2.1 _ (List.getElem_mem (by simpa using h)) (Int.le_of_lt hi)) hc,fun hi=>by omega⟩
def mid(a b:Int):Int:=IntKind.i64.wrap (shrV .u64 (IntKind.u64.wrap (IntKind.i64.wrap (a+b))) 1)
theorem mid_eq{a b:Nat}(h:a+b≤4000000):mid (a:Int) (b:Int)=(((a+b)/2:Nat):Int):=by
 unfold mid shrV
 rw[show IntKind.i64.wrap ((a:Int)+b)=(a:Int)+b from wrapI (by omega) (by omega)]
 have e:IntKind.u64.wrap ((a:Int)+b)=((a+b:Nat):Int):=by simp[IntKind.wrap,IntKind.bits,IntKind.signed];omega
 rw[e]
 have e2:((a+b:Nat):Int).fdiv (2^(min (1:Int).toNat IntKind.u64.bits))=(((a+b)/2:Nat):Int):=by
  show((a+b:Nat):Int).fdiv 2=_
  rw[Int.fdiv_eq_ediv_of_nonneg _ (by omega)];omega
 rw[e2,wrapI (by omega) (by omega)]
def bsL(c:α→Int)(xs:List α):Nat→Int→Int→Option Int
 |0,_,_=>none
 |k+1,a,b=>if a<b then(rdI xs (mid a b)).bind fun y=>if c y<0 then bsL c xs k (IntKind.i64.wrap (mid a b+1)) b else bsL c xs k a (mid a b)else some a
theorem bsL_spec{c:α→Int}{xs:List α}(hs:S c xs)(hl:xs.length≤1000000):∀(k a b:Nat),b-a<k→a≤plc c xs→plc c xs≤b→b≤xs.length→bsL c xs k (a:Int) (b:Int)=some (plc c xs:Int)
 |0,a,b,h,_,_,_=>by omega
 |k+1,a,b,h,h1,h2,h3=>by
  unfold bsL
  by_cases hab:a<b
  ·have hm:(a+b)/2<xs.length:=by omega
   rw[if_pos (by omega),mid_eq (by omega),rdI_at hm,Option.bind_some]
   have hi:=plc_iff hs ((a+b)/2) hm
   by_cases hc:c xs[(a+b)/2]<0
   ·rw[if_pos hc]
    have e:IntKind.i64.wrap ((((a+b)/2:Nat):Int)+1)=(((a+b)/2+1:Nat):Int):=wrapN (by omega)
    rw[e]
    exact bsL_spec hs hl k _ b (by omega) (by have:=hi.1 hc;omega) h2 h3
   ·rw[if_neg hc]
    exact bsL_spec hs hl k a _ (by omega) h1 (by have:=mt hi.2 hc;omega) (by omega)
  ·rw[if_neg (by omega)];congr 1;omega
def hasC(c:α→Int)(l:List α):Bool:=l.any fun y=>decide (c y=0)
theorem hasC_cons(c:α→Int)(y:α)(l:List α):hasC c (y::l)=(decide (c y=0)||hasC c l):=by simp[hasC]
theorem hasC_gt{c:α→Int}{l:List α}(h:∀y∈l,0<c y):hasC c l=false:=by
 simp only[hasC,List.any_eq_false,decide_eq_true_eq]
 intro y hy;have:=h y hy;omega
theorem find_at{c:α→Int}:∀{l:List α},S c l→((l[plc c l]?).map fun y=>decide (c y=0)).getD false=hasC c l
 |[],_=>rfl
 |y::l,hs=>by
  have hs2:=List.pairwise_cons.1 hs
  have ih:=find_at hs2.2
  rw[hasC_cons]
  unfold plc
  by_cases hc:c y<0
  ·rw[if_pos hc,List.getElem?_cons_succ,ih];simp;omega
  ·rw[if_neg hc]
   simp only[List.getElem?_cons_zero,Option.map_some,Option.getD_some]
   rw[hasC_gt];·simp
   intro z hz
   have:=hs2.1 z hz
   omega
theorem find_t{c:α→Int}{l:List α}(hs:S c l):(if(plc c l:Int)<(l.length:Int)then(rdI l (plc c l:Int)).bind fun y=>some (decide (c y=0))else some false)=some (hasC c l):=by
 have h:=find_at hs
 by_cases hp:plc c l<l.length
 ·rw[if_pos (by omega),rdI_at hp,Option.bind_some]
  rw[List.getElem?_eq_getElem hp]at h
  simp only[Option.map_some,Option.getD_some]at h
  rw[h]
 ·rw[if_neg (by omega)]
  rw[List.getElem?_eq_none (by omega)]at h
  simp only[Option.map_none,Option.getD_none]at h
  rw[←h]
def insC(c:α→Int)(x:α):List α→List α
 |[]=>[x]
 |y::l=>if c y<0 then y::insC c x l else x::y::l
theorem insC_plc(c:α→Int)(x:α):∀l,l.take (plc c l)++x::l.drop (plc c l)=insC c x l
 |[]=>rfl
 |y::l=>by
  unfold insC plc
  split
  ·rw[←insC_plc c x l];simp
  ·simp
theorem insC_len(c:α→Int)(x:α)(l:List α):(insC c x l).length=l.length+1:=by
 rw[←insC_plc];have:=plc_le c l;simp;omega
theorem insC_mem(c:α→Int)(x z:α):∀l,z∈insC c x l↔z=x∨z∈l
 |[]=>by simp[insC]
 |y::l=>by
  have:=insC_mem c x z l
  unfold insC
  split
  ·simp only[List.mem_cons,this];exact⟨fun h=>h.elim (fun h=> .inr (.inl h)) fun h=>h.elim .inl fun h=> .inr (.inr h),fun h=>h.elim (fun h=> .inr (.inl h)) fun h=>h.elim .inl fun h=> .inr (.inr h)⟩
  ·simp
theorem insC_pw{R:α→α→Prop}{c:α→Int}{x:α}(ht:∀a b d,R a b→R b d→R a d):∀{l:List α},(∀y∈l,c y<0→R y x)→(∀y∈l,¬c y<0→R x y)→l.Pairwise R→(insC c x l).Pairwise R
 |[],_,_,_=>by simp[insC]
 |y::l,h1,h2,hp=>by
  have hp2:=List.pairwise_cons.1 hp
  unfold insC
  split
  ·rename_i hc
   refine List.pairwise_cons.2 ⟨fun z hz=>?_,insC_pw ht (fun z hz=>h1 z (List.mem_cons_of_mem _ hz)) (fun z hz=>h2 z (List.mem_cons_of_mem _ hz)) hp2.2⟩
   rcases(insC_mem c x z l).1 hz with rfl|hz
   ·exact h1 y (List.mem_cons_self ..) hc
   ·exact hp2.1 z hz
  ·rename_i hc
   have hxy:=h2 y (List.mem_cons_self ..) hc
   refine List.pairwise_cons.2 ⟨fun z hz=>?_,hp⟩
   rcases List.mem_cons.1 hz with rfl|hz
   ·exact hxy
   ·exact ht _ _ _ hxy (hp2.1 z hz)
theorem rem_C{c:α→Int}:∀{l:List α},S c l→hasC c l=true→l.take (plc c l)++l.drop (plc c l+1)=l.filter fun y=>decide (c y≠0)
 |[],_,h=>by simp[hasC]at h
 |y::l,hs,h=>by
  have hs2:=List.pairwise_cons.1 hs
  rw[hasC_cons]at h
  unfold plc
  by_cases hc:c y<0
  ·rw[if_pos hc,List.filter_cons_of_pos (by simp;omega),←rem_C hs2.2 (by simp at h;rcases h with h|h<;>first|omega|exact h)]
   simp
  ·rw[if_neg hc]
   have hg:∀z∈l,0<c z:=fun z hz=>by have:=hs2.1 z hz;omega
   rw[hasC_gt hg]at h
   simp at h
   rw[List.filter_cons_of_neg (by simp[h]),List.filter_eq_self.2 fun z hz=>by have:=hg z hz;simp;omega]
   simp
end
theorem scmp_neg(a b:ByteArray):scmp a b<0↔lt a b:=by
 unfold scmp
 by_cases h:lt a b
 ·simp[h]
 ·rw[if_neg h]
  by_cases h2:a=b
  ·rw[if_pos h2];simp[h]
  ·rw[if_neg h2];simp[h]
theorem scmp_zero(a b:ByteArray):scmp a b=0↔a=b:=by
 unfold scmp
 by_cases h:lt a b
 ·simp[h,lt_ne h]
 ·rw[if_neg h]
  by_cases h2:a=b<;>simp[h2]
theorem scmp_np(a b:ByteArray):scmp a b≤0↔lt a b∨a=b:=by
 rw[←scmp_neg,←scmp_zero];omega
theorem exb{α β:Type}{e:Option α}{f:α→Option β}(h:∃a,e=some a)(hf:∀a,e=some a→∃r,f a=some r):∃r,e.bind f=some r:=by
 obtain⟨a,ha⟩:=h;obtain⟨r,hr⟩:=hf a ha;exact⟨r,by rw[ha];exact hr⟩
theorem exif{α:Type}{p:Prop}[Decidable p]{a b:Option α}(h1:p→∃r,a=some r)(h2:¬p→∃r,b=some r):∃r,(if p then a else b)=some r:=by
 by_cases h:p
 ·rw[if_pos h];exact h1 h
 ·rw[if_neg h];exact h2 h
theorem exmap{α β:Type}{e:Option α}{f:α→β}(h:∃a,e=some a):∃r,e.map f=some r:=by
 obtain⟨a,ha⟩:=h;exact⟨f a,by rw[ha];rfl⟩
theorem exck{p:Prop}[Decidable p](h:p):∃r,ck p=some r:=⟨(),ck_t h⟩
theorem byI_ex{b:ByteArray}{i:Int}(h:0≤i)(h2:i<b.size):∃y,byI b i=some y:=by
 obtain⟨n,rfl⟩:∃n:Nat,i=n:=⟨i.toNat,by omega⟩
 have hs:n<b.size:=by omega
 exact⟨(b[n].toNat:Int),by unfold byI;rw[if_pos (by omega)];simp[hs]⟩
theorem rdI_ex{α:Type}{l:List α}{i:Int}(h:0≤i)(h2:i<l.length):∃y,rdI l i=some y:=by
 obtain⟨n,rfl⟩:∃n:Nat,i=n:=⟨i.toNat,by omega⟩
 exact⟨_,rdI_at (by omega)⟩
theorem apI_ex{α:Type}{xs ys:List α}(h:xs.length+ys.length≤4294967290):∃y,apI xs ys=some y:=⟨_,apI_t h⟩
theorem rdI_val{α:Type}{l:List α}{i:Nat}{y:α}(h:l[i]? =some y):rdI l (i:Int)=some y:=by rw[rdI_nat];exact h
theorem drop_hd{α:Type}{l:List α}{i:Nat}{x:α}{xs:List α}(e:l.drop i=x::xs):l[i]? =some x:=by rw[←List.head?_drop,e];rfl
theorem drop_tl{α:Type}{l:List α}{i:Nat}{x:α}{xs:List α}(e:l.drop i=x::xs):l.drop (i+1)=xs:=by
 rw[←List.drop_drop,e];rfl
theorem set_same{α:Type}:∀{l:List α} {i:Nat} {x:α},l[i]? =some x→l.set i x=l
 |[],_,_,h=>by simp at h
 |y::l,0,x,h=>by simp at h;simp[h]
 |y::l,i+1,x,h=>by simp at h;simp[set_same h]
theorem cl_t{α:Type}{l:List α}(h:l.length≤4294967290):cloneI l=some l:=if_pos h
theorem catI_t{a b:ByteArray}(h:a.size+b.size≤9223372036854775807):catI a b=some (a++b):=if_pos h
theorem bsize(a b:ByteArray):(a++b).size=a.size+b.size:=ByteArray.size_append
theorem wr_p{i:Nat}(h:0<(i:Int))(h2:i≤4294967296):IntKind.i64.wrap ((i:Int)-1)=((i-1:Nat):Int):=by rw[wrapI (by omega) (by omega)];omega
theorem wL_mem{α:Type}{w:α→Nat}{x:α}:∀{l:List α},x∈l→w x+1≤wL w l
 |[],h=>by cases h
 |y::l,h=>by
  unfold wL
  simp only[List.map_cons,List.sum_cons]
  rcases List.mem_cons.1 h with rfl|h
  ·omega
  ·have:=wL_mem (w:=w) h;unfold wL at this;omega
open Go Go.Fw
set_option maxRecDepth 100000
set_option linter.unusedVariables false
set_option linter.unusedSimpArgs false
theorem wF_pos(f:TField):1≤wTField f:=by rw[wTField_u];omega
theorem wV_pos(v:TValue):1≤wTValue v:=by rw[wTValue_u];omega
theorem wV_list{v x:TValue}(h:x∈v.List_):wTValue x<wTValue v:=by
 rw[wTValue_u v];have:=wL_mem (w:=wTValue) h;unfold wN;omega
theorem wV_field{v:TValue}{x:TField}(h:x∈v.Fields):wTValue x.V<wTValue v:=by
 rw[wTValue_u v];have:=wL_mem (w:=wTField) h;rw[wTField_u]at this;unfold wN at*;omega
theorem wV_name{v:TValue}{x:TField}(h:x∈v.Fields):x.Name.size<wTValue v:=by
 rw[wTValue_u v];have:=wL_mem (w:=wTField) h;rw[wTField_u]at this;unfold wN wS at*;omega
theorem wV_ll(v:TValue):v.List_.length<wTValue v:=by
 rw[wTValue_u v];have:=wL_len wV_pos v.List_;unfold wN;omega
theorem wV_fl(v:TValue):v.Fields.length<wTValue v:=by
 rw[wTValue_u v];have:=wL_len wF_pos v.Fields;unfold wN;omega
theorem wV_s(v:TValue):v.S.size<wTValue v:=by
 rw[wTValue_u v];unfold wN wS;omega
theorem eta_v(x:TValue):(⟨x.Kind,x.N,x.S,x.List_,x.Fields⟩:TValue)=x:=by cases x;rfl
theorem eta_f(x:TField):(⟨x.Name,x.V⟩:TField)=x:=by cases x;rfl
theorem vclone_l2(rc:TValue→Option (List TValue×List TField))(l:List TValue)(h:∀y∈l,rc y=some (y.List_,y.Fields)):∀(xs:List TValue) (i:Nat),l.drop i=xs→F129_l2 rc xs i l=some l
 |[],i,_=>by rw[F129_l2]
 |x::xs,i,e=>by
  have hx:=drop_hd e
  rw[F129_l2,rdI_val hx]
  simp only[Option.bind_some]
  rw[h x (List.mem_of_getElem? hx)]
  simp only[Option.bind_some,Int.toNat_natCast]
  rw[eta_v]
  rw[set_same hx]
  exact vclone_l2 rc l h xs (i+1) (drop_tl e)
theorem vclone_l9(rc:TValue→Option (List TValue×List TField))(l:List TField)(h:∀y∈l,rc y.V=some (y.V.List_,y.V.Fields)):∀(xs:List TField) (i:Nat),l.drop i=xs→F129_l9 rc xs i l=some l
 |[],i,_=>by rw[F129_l9]
 |x::xs,i,e=>by
  have hx:=drop_hd e
  rw[F129_l9,rdI_val hx]
  simp only[Option.bind_some]
  rw[h x (List.mem_of_getElem? hx)]
  simp only[Option.bind_some,Int.toNat_natCast]
  rw[eta_v,eta_f]
  rw[set_same hx]
  exact vclone_l9 rc l h xs (i+1) (drop_tl e)
theorem vclone_t:∀(k:Nat) (v:TValue),wTValue v≤k→wTValue v≤4294967290→F129k k v=some (v.List_,v.Fields)
 |0,v,h,_=>by have:=wV_pos v;omega
 |k+1,v,h,h2=>by
  have l1:=wV_ll v
  have l2:=wV_fl v
  rw[F129k,F129,cl_t (by omega),Option.bind_some,ck_t (by omega),Option.bind_some,vclone_l2 _ _ (fun y hy=>vclone_t k y (by have:=wV_list hy;omega) (by have:=wV_list hy;omega)) _ 0 (List.drop_zero ..),Option.bind_some,cl_t (by omega),Option.bind_some,ck_t (by omega),Option.bind_some,vclone_l9 _ _ (fun y hy=>vclone_t k y.V (by have:=wV_field hy;omega) (by have:=wV_field hy;omega)) _ 0 (List.drop_zero ..)]
  rfl
theorem cloneV_t(v:TValue)(h:wTValue v≤4000000):F77 v=some v:=by
 rw[F77,F102,vclone_t]
 ·rfl
 ·rw[wTValue_u];simp only[wN,wS,wL,List.map_cons,List.map_nil,List.sum_cons,List.sum_nil,show(⟨#[]⟩:ByteArray).size=0 from rfl];omega
 ·rw[wTValue_u];simp only[wN,wS,wL,List.map_cons,List.map_nil,List.sum_cons,List.sum_nil,show(⟨#[]⟩:ByteArray).size=0 from rfl];omega
theorem vsize_l1(rc:TValue→Option Int):∀(l:List TValue) (i:Nat) (n:Int),(∀y∈l,∃r,rc y=some r)→∃r,F111_l1 rc l i n=some r
 |[],i,n,_=>⟨n,by rw[F111_l1]⟩
 |x::l,i,n,h=>by
  rw[F111_l1]
  exact exb (h x (List.mem_cons_self ..)) fun _ _=>vsize_l1 rc l _ _ fun y hy=>h y (List.mem_cons_of_mem _ hy)
theorem vsize_l5(rc:TValue→Option Int):∀(l:List TField) (i:Nat) (n:Int),(∀y∈l,∃r,rc y.V=some r)→∃r,F111_l5 rc l i n=some r
 |[],i,n,_=>⟨n,by rw[F111_l5]⟩
 |x::l,i,n,h=>by
  rw[F111_l5]
  exact exb (h x (List.mem_cons_self ..)) fun _ _=>vsize_l5 rc l _ _ fun y hy=>h y (List.mem_cons_of_mem _ hy)
theorem vsize_ex:∀(k:Nat) (v:TValue),wTValue v≤k→wTValue v≤4294967290→∃r,F111k k v=some r
 |0,v,h,_=>by have:=wV_pos v;omega
 |k+1,v,h,h2=>by
  have l1:=wV_ll v
  have l2:=wV_fl v
  rw[F111k,F111]
  exact exb (exb (exck (by omega)) fun _ _=>vsize_l1 _ _ _ _ fun y hy=>vsize_ex k y (by have:=wV_list hy;omega) (by have:=wV_list hy;omega)) fun _ _=>exb (exb (exck (by omega)) fun _ _=>vsize_l5 _ _ _ _ fun y hy=>vsize_ex k y.V (by have:=wV_field hy;omega) (by have:=wV_field hy;omega)) fun _ _=>⟨_,rfl⟩
theorem size_same_l1(rc:TValue→Option Int):∀(l:List TValue) (i:Nat) (n:Int),F31_l1 rc l i n=F111_l1 rc l i n
 |[],i,n=>by rw[F111_l1,F31_l1]
 |x::l,i,n=>by
  rw[F111_l1,F31_l1];congr 1;funext a;exact size_same_l1 rc l _ _
theorem size_same_l5(rc:TValue→Option Int):∀(l:List TField) (i:Nat) (n:Int),F31_l5 rc l i n=F111_l5 rc l i n
 |[],i,n=>by rw[F111_l5,F31_l5]
 |x::l,i,n=>by
  rw[F111_l5,F31_l5];congr 1;funext a;exact size_same_l5 rc l _ _
theorem size_same:∀k:Nat,F31k k=F111k k
 |0=>rfl
 |k+1=>by
  funext v
  rw[F31k,F111k,F31,F111,size_same k]
  simp only[size_same_l1,size_same_l5]
theorem text_l1(s:ByteArray)(hs:s.size≤4294967290):∀(n i k:Nat),s.size=i+n→n<k→∃r,F145_l1 s k (i:Int)=some r
 |0,i,k+1,h,_=>by rw[F145_l1,if_neg (by omega)];exact⟨_,rfl⟩
 |n+1,i,k+1,h,hk=>by
  rw[F145_l1,if_pos (by omega),wrapN (by omega)]
  have ih:=text_l1 s hs n (i+1) k (by omega) (by omega)
  repeat'(first|exact⟨_,rfl⟩|exact ih|exact exck (by omega)|exact byI_ex (by omega) (by omega)|exact rdI_ex (by omega) (by omega)|exact apI_ex (by omega)|with_reducible refine exif (fun _=>?_) (fun _=>?_)|with_reducible refine exb ?_ (fun _ _=>?_)|with_reducible refine exmap ?_|split)
theorem text_ex(s:ByteArray)(hs:s.size≤4294967290):∃r,F145 s=some r:=by
 rw[F145]
 exact exb (by have:=text_l1 s hs s.size 0 1099511627776 (by omega) (by omega);exact this) fun o _=>by repeat'(first|exact⟨_,rfl⟩|exact exck (by omega)|exact byI_ex (by omega) (by omega)|exact rdI_ex (by omega) (by omega)|exact apI_ex (by omega)|with_reducible refine exif (fun _=>?_) (fun _=>?_)|with_reducible refine exb ?_ (fun _ _=>?_)|with_reducible refine exmap ?_|split)
theorem vname_l1(s:ByteArray)(hs:s.size≤4294967290):∀(n i k:Nat),s.size=i+n→n<k→∃r,F134_l1 s k (i:Int)=some r
 |0,i,k+1,h,_=>by rw[F134_l1,if_neg (by omega)];exact⟨_,rfl⟩
 |n+1,i,k+1,h,hk=>by
  rw[F134_l1,if_pos (by omega),wrapN (by omega)]
  have ih:=vname_l1 s hs n (i+1) k (by omega) (by omega)
  repeat'(first|exact⟨_,rfl⟩|exact ih|exact exck (by omega)|exact byI_ex (by omega) (by omega)|exact rdI_ex (by omega) (by omega)|exact apI_ex (by omega)|with_reducible refine exif (fun _=>?_) (fun _=>?_)|with_reducible refine exb ?_ (fun _ _=>?_)|with_reducible refine exmap ?_|split)
theorem vname_ex(s:ByteArray)(hs:s.size≤4294967290):∃r,F134 s=some r:=by
 rw[F134]
 exact exb (by have:=vname_l1 s hs s.size 0 1099511627776 (by omega) (by omega);exact this) fun o _=>by repeat'(first|exact⟨_,rfl⟩|exact exck (by omega)|exact byI_ex (by omega) (by omega)|exact rdI_ex (by omega) (by omega)|exact apI_ex (by omega)|with_reducible refine exif (fun _=>?_) (fun _=>?_)|with_reducible refine exb ?_ (fun _ _=>?_)|with_reducible refine exmap ?_|split)
theorem scalar_ex(v:TValue)(hs:v.S.size≤4294967290):∃r,F133 v=some r:=by
 rw[F133]
 have h:=text_ex v.S hs
 repeat'(first|exact⟨_,rfl⟩|exact h|exact exck (by omega)|exact byI_ex (by omega) (by omega)|exact rdI_ex (by omega) (by omega)|exact apI_ex (by omega)|with_reducible refine exif (fun _=>?_) (fun _=>?_)|with_reducible refine exb ?_ (fun _ _=>?_)|with_reducible refine exmap ?_|split)
theorem vvalid_l16(rc:TValue→Int→Option Bool)(d:Int):∀(l:List TValue) (i:Nat),(∀y∈l,∀d,∃r,rc y d=some r)→∃r,F110_l16 rc d l i=some r
 |[],i,_=>⟨_,by rw[F110_l16]⟩
 |x::l,i,h=>by
  rw[F110_l16]
  have ih:=vvalid_l16 rc d l (i+1) fun y hy=>h y (List.mem_cons_of_mem _ hy)
  exact exb (h x (List.mem_cons_self ..) _) fun _ _=>by repeat'(first|exact⟨_,rfl⟩|exact ih|exact exck (by omega)|exact byI_ex (by omega) (by omega)|exact rdI_ex (by omega) (by omega)|exact apI_ex (by omega)|with_reducible refine exif (fun _=>?_) (fun _=>?_)|with_reducible refine exb ?_ (fun _ _=>?_)|with_reducible refine exmap ?_|split)
theorem vvalid_l21(rc:TValue→Int→Option Bool)(v:TValue)(d:Int)(hv:wTValue v≤4294967290)(h:∀y∈v.Fields,∀d,∃r,rc y.V d=some r):∀(l:List TField) (i:Nat),v.Fields.drop i=l→∃r,F110_l21 rc v d l i=some r
 |[],i,_=>⟨_,by rw[F110_l21]⟩
 |x::l,i,e=>by
  rw[F110_l21]
  have ih:=vvalid_l21 rc v d hv h l (i+1) (drop_tl e)
  have hx:=List.mem_of_getElem? (drop_hd e)
  have hn:=vname_ex x.Name (by have:=wV_name hx;omega)
  have hr:=h x hx (IntKind.i64.wrap (d-1))
  have hi:=(List.getElem?_eq_some_iff.1 (drop_hd e)).1
  have hl:=wV_fl v
  by_cases h0:0<(i:Int)
  ·have hp:∃y,rdI v.Fields (IntKind.i64.wrap ((i:Int)-1))=some y:=by rw[wr_p h0 (by omega)];exact rdI_ex (by omega) (by omega)
   repeat'(first|exact⟨_,rfl⟩|exact ih|exact hn|exact hr|exact hp|exact exck (by omega)|exact byI_ex (by omega) (by omega)|exact rdI_ex (by omega) (by omega)|exact apI_ex (by omega)|with_reducible refine exif (fun _=>?_) (fun _=>?_)|with_reducible refine exb ?_ (fun _ _=>?_)|with_reducible refine exmap ?_|split)
  ·rw[if_neg h0]
   repeat'(first|exact⟨_,rfl⟩|exact ih|exact hn|exact hr|exact exck (by omega)|exact byI_ex (by omega) (by omega)|exact rdI_ex (by omega) (by omega)|exact apI_ex (by omega)|with_reducible refine exif (fun _=>?_) (fun _=>?_)|with_reducible refine exb ?_ (fun _ _=>?_)|with_reducible refine exmap ?_|split)
theorem vvalid_ex:∀(k:Nat) (v:TValue) (d:Int),wTValue v≤k→wTValue v≤4294967290→∃r,F110k k v d=some r
 |0,v,d,h,_=>by have:=wV_pos v;omega
 |k+1,v,d,h,h2=>by
  have l1:=wV_ll v
  have l2:=wV_fl v
  have l3:=wV_s v
  rw[F110k,F110]
  have g0:=scalar_ex v (by omega)
  have g1:=vvalid_l16 (F110k k) d v.List_ 0 fun y hy d=>vvalid_ex k y d (by have:=wV_list hy;omega) (by have:=wV_list hy;omega)
  have g2:=vvalid_l21 (F110k k) v d h2 (fun y hy d=>vvalid_ex k y.V d (by have:=wV_field hy;omega) (by have:=wV_field hy;omega)) v.Fields 0 (List.drop_zero ..)
  repeat'(first|exact⟨_,rfl⟩|exact g0|exact g1|exact g2|exact exck (by omega)|exact byI_ex (by omega) (by omega)|exact rdI_ex (by omega) (by omega)|exact apI_ex (by omega)|with_reducible refine exif (fun _=>?_) (fun _=>?_)|with_reducible refine exb ?_ (fun _ _=>?_)|with_reducible refine exmap ?_|split)
theorem vValid_ex(v:TValue)(h:wTValue v≤4000000):∃r,F80 v=some r:=by
 rw[F80]
 have g1:=vvalid_ex 1099511627776 v 12 (by omega) (by omega)
 have g2:=vsize_ex 1099511627776 v (by omega) (by omega)
 repeat'(first|exact⟨_,rfl⟩|exact g1|exact g2|exact exck (by omega)|exact byI_ex (by omega) (by omega)|exact rdI_ex (by omega) (by omega)|exact apI_ex (by omega)|with_reducible refine exif (fun _=>?_) (fun _=>?_)|with_reducible refine exb ?_ (fun _ _=>?_)|with_reducible refine exmap ?_|split)
open Go Go.Fw
set_option maxRecDepth 100000
set_option linter.unusedVariables false
set_option linter.unusedSimpArgs false
structure OW(o:Object):Prop where
 key:o.Meta.Kind.size+o.Meta.Namespace.size+o.Meta.Name.size≤4000000
 labels:o.Meta.Labels.length≤4000000
 owners:o.Meta.Owners.length≤4000000
 fins:o.Meta.Finalizers.length≤4000000
 mans:o.Meta.Managers.length≤4000000
 man:∀m∈o.Meta.Managers,m.Fields.length≤4000000∧m.Name.size≤4000000
 spec:wTValue o.Spec≤4000000
 status:wTValue o.Status≤4000000
 label:∀l∈o.Meta.Labels,l.Key.size≤4000000∧l.Value.size≤4000000
 owner:∀l∈o.Meta.Owners,l.Kind.size≤4000000∧l.Name.size≤4000000
 fin:∀l∈o.Meta.Finalizers,l.size≤4000000
theorem oW{o:Object}(h:wObject o≤4000000):OW o:=by
 unfold wObject wMeta at h
 have a1:=wL_len (w:=wLabel) (fun a=>by unfold wLabel;omega) o.Meta.Labels
 have a2:=wL_len (w:=wOwner) (fun a=>by unfold wOwner;omega) o.Meta.Owners
 have a3:=wL_len (w:=wS) wS_pos o.Meta.Finalizers
 have a4:=wL_len (w:=wManager) (fun a=>by unfold wManager;omega) o.Meta.Managers
 simp only[wN,wS]at h a3
 refine⟨by omega,by omega,by omega,by omega,by omega,fun m hm=>?_,by omega,by omega,fun l hl=>?_,fun l hl=>?_,fun l hl=>?_⟩
 ·have:=wL_mem (w:=wManager) hm
  unfold wManager at this
  have b:=wL_len (w:=wS) wS_pos m.Fields
  simp only[wS]at this b
  unfold wManager at h;simp only[wS]at h
  omega
 ·have:=wL_mem (w:=wLabel) hl
  unfold wLabel at this h;simp only[wS]at this h
  omega
 ·have:=wL_mem (w:=wOwner) hl
  unfold wOwner at this h;simp only[wS,wN]at this h
  omega
 ·have:wS l+1≤_:=wL_mem (w:=wS) hl
  have e:wS l=l.size+1:=rfl
  omega
def keyB(m:Meta):ByteArray:=(((m.Kind++(⟨#[47]⟩:ByteArray))++m.Namespace)++(⟨#[47]⟩:ByteArray))++m.Name
def keyO(o:Object):ByteArray:=keyB o.Meta
theorem sl1:(⟨#[47]⟩:ByteArray).size=1:=rfl
theorem KeyOf_t{m:Meta}(h:m.Kind.size+m.Namespace.size+m.Name.size≤4000000):F37 m=some (keyB m):=by
 rw[F37,F78,catI_t (by rw[sl1];omega),Option.bind_some,catI_t (by rw[bsize,sl1];omega),Option.bind_some,catI_t (by rw[bsize,bsize,sl1];omega),Option.bind_some,catI_t (by rw[bsize,bsize,bsize,sl1];omega)]
 rfl
theorem rKeyOf_t{m:Meta}(h:m.Kind.size+m.Namespace.size+m.Name.size≤4000000):F93 m=some (keyB m):=KeyOf_t h
theorem rkey_t{o:Object}(h:OW o):F56 o=some (keyO o):=by
 rw[F56,rKeyOf_t h.key];rfl
theorem mkind_l1(s:ByteArray)(hs:s.size≤4294967290):∀(n i k:Nat),s.size=i+n→n<k→∃r,F103_l1 s k (i:Int)=some r
 |0,i,k+1,h,_=>by rw[F103_l1,if_neg (by omega)];exact⟨_,rfl⟩
 |n+1,i,k+1,h,hk=>by
  rw[F103_l1,if_pos (by omega),wrapN (by omega)]
  have ih:=mkind_l1 s hs n (i+1) k (by omega) (by omega)
  repeat'(first|exact⟨_,rfl⟩|exact ih|exact exck (by omega)|exact byI_ex (by omega) (by omega)|exact rdI_ex (by omega) (by omega)|exact apI_ex (by omega)|with_reducible refine exif (fun _=>?_) (fun _=>?_)|with_reducible refine exb ?_ (fun _ _=>?_)|with_reducible refine exmap ?_|split)
theorem mkind_ex(s:ByteArray)(hs:s.size≤4294967290):∃r,F103 s=some r:=by
 rw[F103]
 exact exb (by have:=mkind_l1 s hs s.size 0 1099511627776 (by omega) (by omega);exact this) fun o _=>by repeat'(first|exact⟨_,rfl⟩|exact exck (by omega)|exact byI_ex (by omega) (by omega)|exact rdI_ex (by omega) (by omega)|exact apI_ex (by omega)|with_reducible refine exif (fun _=>?_) (fun _=>?_)|with_reducible refine exb ?_ (fun _ _=>?_)|with_reducible refine exmap ?_|split)
theorem mname_l1(s:ByteArray)(hs:s.size≤4294967290):∀(n i k:Nat),s.size=i+n→n<k→∃r,F105_l1 s k (i:Int)=some r
 |0,i,k+1,h,_=>by rw[F105_l1,if_neg (by omega)];exact⟨_,rfl⟩
 |n+1,i,k+1,h,hk=>by
  rw[F105_l1,if_pos (by omega),wrapN (by omega)]
  have ih:=mname_l1 s hs n (i+1) k (by omega) (by omega)
  repeat'(first|exact⟨_,rfl⟩|exact ih|exact exck (by omega)|exact byI_ex (by omega) (by omega)|exact rdI_ex (by omega) (by omega)|exact apI_ex (by omega)|with_reducible refine exif (fun _=>?_) (fun _=>?_)|with_reducible refine exb ?_ (fun _ _=>?_)|with_reducible refine exmap ?_|split)
theorem mname_ex(s:ByteArray)(hs:s.size≤4294967290):∃r,F105 s=some r:=by
 rw[F105]
 refine exb (by have:=mname_l1 s hs s.size 0 1099511627776 (by omega) (by omega);exact this) fun o _=>?_
 have hw:1≤(s.size:Int)→∃y,byI s (IntKind.i64.wrap ((s.size:Int)-1))=some y:=fun h=>by
  rw[wr_p (by omega) (by omega)];exact byI_ex (by omega) (by omega)
 repeat'(first|exact⟨_,rfl⟩|exact hw (by assumption)|exact exck (by omega)|exact byI_ex (by omega) (by omega)|exact rdI_ex (by omega) (by omega)|exact apI_ex (by omega)|with_reducible refine exif (fun _=>?_) (fun _=>?_)|with_reducible refine exb ?_ (fun _ _=>?_)|with_reducible refine exmap ?_|split)
theorem mspace_ex(s:ByteArray)(hs:s.size≤4294967290):∃r,F104 s=some r:=by
 rw[F104]
 have h:=mname_ex s hs
 repeat'(first|exact⟨_,rfl⟩|exact h|exact exck (by omega)|exact byI_ex (by omega) (by omega)|exact rdI_ex (by omega) (by omega)|exact apI_ex (by omega)|with_reducible refine exif (fun _=>?_) (fun _=>?_)|with_reducible refine exb ?_ (fun _ _=>?_)|with_reducible refine exmap ?_|split)
theorem wbyte_ex(n:Int):∃r,F144 n=some r:=by
 rw[F144]
 repeat'(first|exact⟨_,rfl⟩|exact exck (by omega)|exact byI_ex (by omega) (by omega)|exact rdI_ex (by omega) (by omega)|exact apI_ex (by omega)|with_reducible refine exif (fun _=>?_) (fun _=>?_)|with_reducible refine exb ?_ (fun _ _=>?_)|with_reducible refine exmap ?_|split)
theorem lkey_l8(s:ByteArray)(hs:s.size≤4294967290):∀(n i k:Nat),s.size=i+n→n<k→∃r,F130_l8 s k (i:Int)=some r
 |0,i,k+1,h,_=>by rw[F130_l8,if_neg (by omega)];exact⟨_,rfl⟩
 |n+1,i,k+1,h,hk=>by
  rw[F130_l8,if_pos (by omega),wrapN (by omega)]
  have ih:=lkey_l8 s hs n (i+1) k (by omega) (by omega)
  repeat'(first|exact⟨_,rfl⟩|exact ih|exact wbyte_ex _|exact exck (by omega)|exact byI_ex (by omega) (by omega)|exact rdI_ex (by omega) (by omega)|exact apI_ex (by omega)|with_reducible refine exif (fun _=>?_) (fun _=>?_)|with_reducible refine exb ?_ (fun _ _=>?_)|with_reducible refine exmap ?_|split)
theorem size_ne{s:ByteArray}(h:¬s=(⟨#[]⟩:ByteArray)):0<s.size:=by
 rcases Nat.eq_zero_or_pos s.size with h0|h0
 ·refine(h ?_).elim
  obtain⟨a⟩:=s
  have:a= #[]:=Array.size_eq_zero_iff.1 h0
  rw[this]
 ·exact h0
theorem lkey_ex(s:ByteArray)(hs:s.size≤4294967290):∃r,F130 s=some r:=by
 rw[F130]
 have h8:∃r,F130_l8 s 1099511627776 0=some r:=lkey_l8 s hs s.size 0 1099511627776 (by omega) (by omega)
 have h0:¬s=(⟨#[]⟩:ByteArray)→∃y,byI s 0=some y:=fun h=>byI_ex (by omega) (by have:=size_ne h;omega)
 repeat'(first|exact⟨_,rfl⟩|exact h8|exact h0 (by assumption)|exact exck (by omega)|exact byI_ex (by omega) (by omega)|exact rdI_ex (by omega) (by omega)|exact apI_ex (by omega)|with_reducible refine exif (fun _=>?_) (fun _=>?_)|with_reducible refine exb ?_ (fun _ _=>?_)|with_reducible refine exmap ?_|split)
theorem lval_l2(s:ByteArray)(hs:s.size≤4294967290):∀(n i k:Nat),s.size=i+n→n<k→∃r,F131_l2 s k (i:Int)=some r
 |0,i,k+1,h,_=>by rw[F131_l2,if_neg (by omega)];exact⟨_,rfl⟩
 |n+1,i,k+1,h,hk=>by
  rw[F131_l2,if_pos (by omega),wrapN (by omega)]
  have ih:=lval_l2 s hs n (i+1) k (by omega) (by omega)
  repeat'(first|exact⟨_,rfl⟩|exact ih|exact wbyte_ex _|exact exck (by omega)|exact byI_ex (by omega) (by omega)|exact rdI_ex (by omega) (by omega)|exact apI_ex (by omega)|with_reducible refine exif (fun _=>?_) (fun _=>?_)|with_reducible refine exb ?_ (fun _ _=>?_)|with_reducible refine exmap ?_|split)
theorem lval_ex(s:ByteArray)(hs:s.size≤4294967290):∃r,F131 s=some r:=by
 rw[F131]
 have h2:∃r,F131_l2 s 1099511627776 0=some r:=lval_l2 s hs s.size 0 1099511627776 (by omega) (by omega)
 repeat'(first|exact⟨_,rfl⟩|exact h2|exact exck (by omega)|exact byI_ex (by omega) (by omega)|exact rdI_ex (by omega) (by omega)|exact apI_ex (by omega)|with_reducible refine exif (fun _=>?_) (fun _=>?_)|with_reducible refine exb ?_ (fun _ _=>?_)|with_reducible refine exmap ?_|split)
theorem lvalid_l2(l:List Label)(hl:l.length≤4294967290)(h:∀x∈l,x.Key.size≤4294967290∧x.Value.size≤4294967290):∀(xs:List Label) (i:Nat),l.drop i=xs→∃r,F106_l2 l xs i=some r
 |[],i,_=>⟨_,by rw[F106_l2]⟩
 |x::xs,i,e=>by
  rw[F106_l2]
  have ih:=lvalid_l2 l hl h xs (i+1) (drop_tl e)
  have hx:=List.mem_of_getElem? (drop_hd e)
  have hi:=(List.getElem?_eq_some_iff.1 (drop_hd e)).1
  have g1:=lkey_ex x.Key (h x hx).1
  have g2:=lval_ex x.Value (h x hx).2
  have hp:0<(i:Int)→∃y,rdI l (IntKind.i64.wrap ((i:Int)-1))=some y:=fun h0=>by rw[wr_p h0 (by omega)];exact rdI_ex (by omega) (by omega)
  repeat'(first|exact⟨_,rfl⟩|exact ih|exact g1|exact g2|exact hp (by assumption)|exact exck (by omega)|exact byI_ex (by omega) (by omega)|exact rdI_ex (by omega) (by omega)|exact apI_ex (by omega)|with_reducible refine exif (fun _=>?_) (fun _=>?_)|with_reducible refine exb ?_ (fun _ _=>?_)|with_reducible refine exmap ?_|split)
theorem lvalid_ex(l:List Label)(hl:l.length≤4294967290)(h:∀x∈l,x.Key.size≤4294967290∧x.Value.size≤4294967290):∃r,F106 l=some r:=by
 rw[F106]
 have g:=lvalid_l2 l hl h l 0 (List.drop_zero ..)
 repeat'(first|exact⟨_,rfl⟩|exact g|exact exck (by omega)|exact byI_ex (by omega) (by omega)|exact rdI_ex (by omega) (by omega)|exact apI_ex (by omega)|with_reducible refine exif (fun _=>?_) (fun _=>?_)|with_reducible refine exb ?_ (fun _ _=>?_)|with_reducible refine exmap ?_|split)
theorem own_l1:∀(l:List Owner) (i:Nat) (a:List (Int×Bool)) (n:Int),(∀x∈l,x.Kind.size≤4294967290∧x.Name.size≤4294967290)→∃r,F107_l1 l i a n=some r
 |[],i,a,n,_=>⟨_,by rw[F107_l1]⟩
 |x::l,i,a,n,h=>by
  rw[F107_l1]
  have ih:=fun a n=>own_l1 l (i+1) a n fun y hy=>h y (List.mem_cons_of_mem _ hy)
  have g1:=mkind_ex x.Kind (h x (List.mem_cons_self ..)).1
  have g2:=mname_ex x.Name (h x (List.mem_cons_self ..)).2
  repeat'(first|exact⟨_,rfl⟩|exact ih _ _|exact g1|exact g2|exact exck (by omega)|exact byI_ex (by omega) (by omega)|exact rdI_ex (by omega) (by omega)|exact apI_ex (by omega)|with_reducible refine exif (fun _=>?_) (fun _=>?_)|with_reducible refine exb ?_ (fun _ _=>?_)|with_reducible refine exmap ?_|split)
theorem own_ex(l:List Owner)(hl:l.length≤4294967290)(h:∀x∈l,x.Kind.size≤4294967290∧x.Name.size≤4294967290):∃r,F107 l=some r:=by
 rw[F107]
 have g:=own_l1 l 0 [] 0 h
 repeat'(first|exact⟨_,rfl⟩|exact g|exact exck (by omega)|exact byI_ex (by omega) (by omega)|exact rdI_ex (by omega) (by omega)|exact apI_ex (by omega)|with_reducible refine exif (fun _=>?_) (fun _=>?_)|with_reducible refine exb ?_ (fun _ _=>?_)|with_reducible refine exmap ?_|split)
theorem fin_l1:∀(l:List ByteArray) (i:Nat) (a:List (ByteArray×Bool)),(∀x∈l,x.size≤4294967290)→∃r,F108_l1 l i a=some r
 |[],i,a,_=>⟨_,by rw[F108_l1]⟩
 |x::l,i,a,h=>by
  rw[F108_l1]
  have ih:=fun a=>fin_l1 l (i+1) a fun y hy=>h y (List.mem_cons_of_mem _ hy)
  have g1:=mname_ex x (h x (List.mem_cons_self ..))
  repeat'(first|exact⟨_,rfl⟩|exact ih _|exact g1|exact exck (by omega)|exact byI_ex (by omega) (by omega)|exact rdI_ex (by omega) (by omega)|exact apI_ex (by omega)|with_reducible refine exif (fun _=>?_) (fun _=>?_)|with_reducible refine exb ?_ (fun _ _=>?_)|with_reducible refine exmap ?_|split)
theorem fin_ex(l:List ByteArray)(hl:l.length≤4294967290)(h:∀x∈l,x.size≤4294967290):∃r,F108 l=some r:=by
 rw[F108]
 have g:=fin_l1 l 0 [] h
 repeat'(first|exact⟨_,rfl⟩|exact g|exact exck (by omega)|exact byI_ex (by omega) (by omega)|exact rdI_ex (by omega) (by omega)|exact apI_ex (by omega)|with_reducible refine exif (fun _=>?_) (fun _=>?_)|with_reducible refine exb ?_ (fun _ _=>?_)|with_reducible refine exmap ?_|split)
theorem ris_l1(l:List ByteArray)(hl:l.length≤4294967290):∀(n i k:Nat),l.length≤i+n→1≤i→i≤4294967291→n<k→∃r,F132_l1 l k (i:Int)=some r
 |0,i,k+1,h,_,_,_=>by rw[F132_l1,if_neg (by omega)];exact⟨_,rfl⟩
 |n+1,i,k+1,h,h1,h2,hk=>by
  rw[F132_l1]
  by_cases hi:(i:Int)<(l.length:Int)
  ·rw[if_pos hi,wrapN (by omega),wr_p (by omega) (by omega)]
   have ih:=ris_l1 l hl n (i+1) k (by omega) (by omega) (by omega) (by omega)
   repeat'(first|exact⟨_,rfl⟩|exact ih|exact exck (by omega)|exact byI_ex (by omega) (by omega)|exact rdI_ex (by omega) (by omega)|exact apI_ex (by omega)|with_reducible refine exif (fun _=>?_) (fun _=>?_)|with_reducible refine exb ?_ (fun _ _=>?_)|with_reducible refine exmap ?_|split)
  ·rw[if_neg hi];exact⟨_,rfl⟩
theorem ris_ex(l:List ByteArray)(hl:l.length≤4294967290):∃r,F132 l=some r:=by
 rw[F132]
 have g:∃r,F132_l1 l 1099511627776 1=some r:=ris_l1 l hl l.length 1 1099511627776 (by omega) (by omega) (by omega) (by omega)
 repeat'(first|exact⟨_,rfl⟩|exact g|exact exck (by omega)|exact byI_ex (by omega) (by omega)|exact rdI_ex (by omega) (by omega)|exact apI_ex (by omega)|with_reducible refine exif (fun _=>?_) (fun _=>?_)|with_reducible refine exb ?_ (fun _ _=>?_)|with_reducible refine exmap ?_|split)
theorem man_l1(l:List Manager)(hl:l.length≤4294967290)(h:∀x∈l,x.Fields.length≤4294967290∧x.Name.size≤4294967290):∀(xs:List Manager) (i:Nat),l.drop i=xs→∃r,F109_l1 l xs i=some r
 |[],i,_=>⟨_,by rw[F109_l1]⟩
 |x::xs,i,e=>by
  rw[F109_l1]
  have ih:=man_l1 l hl h xs (i+1) (drop_tl e)
  have hx:=List.mem_of_getElem? (drop_hd e)
  have hi:=(List.getElem?_eq_some_iff.1 (drop_hd e)).1
  have g1:=mname_ex x.Name (h x hx).2
  have g2:=ris_ex x.Fields (h x hx).1
  have hp:0<(i:Int)→∃y,rdI l (IntKind.i64.wrap ((i:Int)-1))=some y:=fun h0=>by rw[wr_p h0 (by omega)];exact rdI_ex (by omega) (by omega)
  repeat'(first|exact⟨_,rfl⟩|exact ih|exact g1|exact g2|exact hp (by assumption)|exact exck (by omega)|exact byI_ex (by omega) (by omega)|exact rdI_ex (by omega) (by omega)|exact apI_ex (by omega)|with_reducible refine exif (fun _=>?_) (fun _=>?_)|with_reducible refine exb ?_ (fun _ _=>?_)|with_reducible refine exmap ?_|split)
theorem man_ex(l:List Manager)(hl:l.length≤4294967290)(h:∀x∈l,x.Fields.length≤4294967290∧x.Name.size≤4294967290):∃r,F109 l=some r:=by
 rw[F109]
 have g:=man_l1 l hl h l 0 (List.drop_zero ..)
 repeat'(first|exact⟨_,rfl⟩|exact g|exact exck (by omega)|exact byI_ex (by omega) (by omega)|exact rdI_ex (by omega) (by omega)|exact apI_ex (by omega)|with_reducible refine exif (fun _=>?_) (fun _=>?_)|with_reducible refine exb ?_ (fun _ _=>?_)|with_reducible refine exmap ?_|split)
theorem mValid_ex{o:Object}(h:OW o):∃r,F79 o.Meta=some r:=by
 rw[F79]
 have g1:=mkind_ex o.Meta.Kind (by have:=h.key;omega)
 have g2:=mspace_ex o.Meta.Namespace (by have:=h.key;omega)
 have g3:=mname_ex o.Meta.Name (by have:=h.key;omega)
 have g4:=lvalid_ex o.Meta.Labels (by have:=h.labels;omega) (fun x hx=>by have:=h.label x hx;omega)
 have g5:=own_ex o.Meta.Owners (by have:=h.owners;omega) (fun x hx=>by have:=h.owner x hx;omega)
 have g6:=fin_ex o.Meta.Finalizers (by have:=h.fins;omega) (fun x hx=>by have:=h.fin x hx;omega)
 have g7:=man_ex o.Meta.Managers (by have:=h.mans;omega) (fun x hx=>by have:=h.man x hx;omega)
 repeat'(first|exact⟨_,rfl⟩|exact g1|exact g2|exact g3|exact g4|exact g5|exact g6|exact g7|exact exck (by omega)|exact byI_ex (by omega) (by omega)|exact rdI_ex (by omega) (by omega)|exact apI_ex (by omega)|with_reducible refine exif (fun _=>?_) (fun _=>?_)|with_reducible refine exb ?_ (fun _ _=>?_)|with_reducible refine exmap ?_|split)
theorem vObj_ex{o:Object}(h:OW o):∃r,F38 o=some r:=by
 rw[F38]
 have g1:=mValid_ex h
 have g2:=vValid_ex o.Spec h.spec
 have g3:=vValid_ex o.Status h.status
 repeat'(first|exact⟨_,rfl⟩|exact g1|exact g2|exact g3|exact exck (by omega)|exact byI_ex (by omega) (by omega)|exact rdI_ex (by omega) (by omega)|exact apI_ex (by omega)|with_reducible refine exif (fun _=>?_) (fun _=>?_)|with_reducible refine exb ?_ (fun _ _=>?_)|with_reducible refine exmap ?_|split)
theorem clone_l5(l:List Manager)(h:∀m∈l,m.Fields.length≤4294967290):∀(xs:List Manager) (i:Nat),l.drop i=xs→F36_l5 xs i l=some l
 |[],i,_=>by rw[F36_l5]
 |x::xs,i,e=>by
  have hx:=drop_hd e
  rw[F36_l5,rdI_val hx]
  simp only[Option.bind_some]
  rw[cl_t (h x (List.mem_of_getElem? hx))]
  simp only[Option.bind_some,Int.toNat_natCast]
  rw[set_same hx]
  exact clone_l5 l h xs (i+1) (drop_tl e)
def parts(o:Object):List Label×List Owner×List ByteArray×List Manager×Int×Int×ByteArray×List TValue×List TField×Int×Int×ByteArray×List TValue×List TField:=
 (o.Meta.Labels,o.Meta.Owners,o.Meta.Finalizers,o.Meta.Managers,o.Spec.Kind,o.Spec.N,o.Spec.S,o.Spec.List_,o.Spec.Fields,o.Status.Kind,o.Status.N,o.Status.S,o.Status.List_,o.Status.Fields)
theorem clone_t{o:Object}(h:OW o):F36 o=some (parts o):=by
 rw[F36,cl_t (by have:=h.labels;omega),Option.bind_some,cl_t (by have:=h.owners;omega),Option.bind_some,cl_t (by have:=h.fins;omega),Option.bind_some,cl_t (by have:=h.mans;omega),Option.bind_some,ck_t (by have:=h.mans;omega),Option.bind_some,clone_l5 _ (fun m hm=>by have:=h.man m hm;omega) _ 0 (List.drop_zero ..),Option.bind_some,cloneV_t _ h.spec,Option.bind_some,cloneV_t _ h.status]
 rfl
theorem cloneAll_l1:∀(l:List Object) (i:Nat) (a:List Object),(∀o∈l,OW o)→a.length+l.length≤4294967290→F65_l1 l i a=some (a++l)
 |[],i,a,_,_=>by rw[F65_l1,List.append_nil]
 |o::l,i,a,h,hl=>by
  rw[F65_l1,clone_t (h o (List.mem_cons_self ..))]
  simp only[Option.bind_some,parts,eta_v]
  rw[apI_t (by simp at hl⊢;omega)]
  simp only[Option.bind_some]
  rw[cloneAll_l1 l _ _ (fun y hy=>h y (List.mem_cons_of_mem _ hy)) (by simp at hl⊢;omega)]
  simp
theorem cloneAll_t{l:List Object}(h:∀o∈l,OW o)(hl:l.length≤4000000):F65 l=some l:=by
 rw[F65,ck_t (by omega),Option.bind_some,cloneAll_l1 l 0 [] h (by simp;omega)];rfl
theorem copied_l4(l:List Change)(h:∀c∈l,OW c.Object):∀(xs:List Change) (i:Nat),l.drop i=xs→F39_l4 xs i l=some l
 |[],i,_=>by rw[F39_l4]
 |x::xs,i,e=>by
  have hx:=drop_hd e
  rw[F39_l4,rdI_val hx]
  simp only[Option.bind_some]
  rw[clone_t (h x (List.mem_of_getElem? hx))]
  simp only[Option.bind_some,Int.toNat_natCast,parts,eta_v]
  rw[show(⟨x.Rev,x.Kind,(⟨x.Object.Meta,x.Object.Spec,x.Object.Status⟩:Object)⟩:Change)=x from rfl,set_same hx]
  exact copied_l4 l h xs (i+1) (drop_tl e)
structure SW(s:TStore):Prop where
 base:∀o∈s.Base,OW o
 objs:∀o∈s.Objects,OW o
 hist:∀c∈s.History,OW c.Object
 bl:s.Base.length≤4000000
 ol:s.Objects.length≤4000000
 hl:s.History.length≤4000000
theorem copied_t{s:TStore}(h:SW s):F39 s=some (s.Base,s.Objects,s.History):=by
 rw[F39,cloneAll_t h.base h.bl,Option.bind_some,cloneAll_t h.objs h.ol,Option.bind_some,cl_t (by have:=h.hl;omega),Option.bind_some,ck_t (by have:=h.hl;omega),Option.bind_some,copied_l4 _ h.hist _ 0 (List.drop_zero ..)]
 rfl
open Go Go.Fw
set_option maxRecDepth 100000
set_option linter.unusedVariables false
set_option linter.unusedSimpArgs false
theorem cint_t(a b:Int):∃n,F113 a b=some n∧(n=0↔a=b):=by
 rw[F113,F135,F135]
 simp only[Option.bind_some,not_true_eq_false,if_false]
 by_cases h1:a<b
 ·rw[if_pos h1];exact⟨_,rfl,by omega⟩
 ·rw[if_neg h1]
  by_cases h2:b<a
  ·rw[if_pos h2];exact⟨_,rfl,by omega⟩
  ·rw[if_neg h2];exact⟨_,rfl,by omega⟩
theorem cstr_t(a b:ByteArray):∃n,F72 a b=some n∧(n=0↔a=b):=⟨scmp a b,rfl,scmp_zero a b⟩
theorem or_l1:∀(l:List Int) (i:Nat),(F112_l1 l i=some (.inr ())∧∀x∈l,x=0)∨(∃n,F112_l1 l i=some (.inl n)∧n≠0∧∃x∈l,x≠0)
 |[],i=> .inl ⟨by rw[F112_l1],by simp⟩
 |x::l,i=>by
  rw[F112_l1]
  by_cases h:x=0
  ·rw[if_neg (by simp[h])]
   rcases or_l1 l (i+1)with⟨h1,h2⟩|⟨n,h1,h2,y,h3,h4⟩
   ·exact .inl ⟨h1,fun z hz=>(List.mem_cons.1 hz).elim (fun e=>e.trans h) (h2 z)⟩
   ·exact .inr ⟨n,h1,h2,y,List.mem_cons_of_mem _ h3,h4⟩
  ·rw[if_pos h];exact .inr ⟨x,rfl,h,x,List.mem_cons_self ..,h⟩
theorem or_t(l:List Int)(hl:l.length≤4294967290):∃n,F112 l=some n∧(n=0↔∀x∈l,x=0):=by
 rw[F112,ck_t (by omega),Option.bind_some]
 rcases or_l1 l 0 with⟨h1,h2⟩|⟨n,h1,h2,y,h3,h4⟩
 ·rw[h1];exact⟨0,rfl,by simpa using h2⟩
 ·rw[h1];exact⟨n,rfl,fun h=>(h2 h).elim,fun h=>(h4 (h y h3)).elim⟩
theorem take_cons'{α:Type}{l:List α}{i:Nat}{y:α}(h:l[i]? =some y)(n:Nat):(l.drop i).take (n+1)=y::(l.drop (i+1)).take n:=by
 obtain⟨h1,h2⟩:=List.getElem?_eq_some_iff.1 h
 rw[List.drop_eq_getElem_cons h1,h2,List.take_succ_cons]
theorem clist_l1(rc:TValue→TValue→Option Int)(l x1:List TValue)(h:∀x∈l,∀y,∃n,rc x y=some n∧(n=0↔x=y)):∀(xs:List TValue) (i:Nat),l.drop i=xs→(F114_l1 rc x1 xs i=some (.inr ())∧(x1.drop i).take xs.length=xs)∨(∃n,F114_l1 rc x1 xs i=some (.inl n)∧n≠0∧(x1.drop i).take xs.length≠xs)
 |[],i,_=> .inl ⟨by rw[F114_l1],by simp⟩
 |x::xs,i,e=>by
  rw[F114_l1]
  by_cases hi:(x1.length:Int)≤(i:Int)
  ·rw[if_pos hi]
   refine .inr ⟨1,rfl,by omega,?_⟩
   rw[List.drop_of_length_le (by omega)];simp
  ·rw[if_neg hi]
   have hy:x1[i]? =some x1[i]:=List.getElem?_eq_getElem (by omega)
   rw[rdI_val hy,Option.bind_some]
   obtain⟨n,h1,h2⟩:=h x (List.mem_of_getElem? (drop_hd e)) x1[i]
   rw[h1,Option.bind_some,List.length_cons,take_cons' hy]
   by_cases hn:n=0
   ·rw[if_neg (by simp[hn]),←h2.1 hn]
    rcases clist_l1 rc l x1 h xs (i+1) (drop_tl e)with⟨h3,h4⟩|⟨m,h3,h4,h5⟩
    ·exact .inl ⟨h3,by rw[h4]⟩
    ·exact .inr ⟨m,h3,h4,fun hh=>h5 (List.cons.inj hh).2⟩
   ·rw[if_pos hn]
    exact .inr ⟨n,rfl,hn,fun hh=>hn (h2.2 (List.cons.inj hh).1.symm)⟩
theorem clist_t(rc:TValue→TValue→Option Int)(l x1:List TValue)(hl:l.length≤4294967290)(h:∀x∈l,∀y,∃n,rc x y=some n∧(n=0↔x=y)):∃n,F114 rc l x1=some n∧(n=0↔l=x1):=by
 rw[F114,ck_t (by omega),Option.bind_some]
 rcases clist_l1 rc l x1 h l 0 (List.drop_zero ..)with⟨h3,h4⟩|⟨m,h3,h4,h5⟩
 ·rw[h3,List.drop_zero]at*
  simp only[Option.bind_some]
  by_cases hx:(l.length:Int)<(x1.length:Int)
  ·rw[if_pos hx];exact⟨_,rfl,fun h=>by omega,fun h=>by rw[h]at hx;omega⟩
  ·rw[if_neg hx];exact⟨_,rfl,fun _=>by rw[List.take_of_length_le (by omega)]at h4;exact h4.symm,fun _=>rfl⟩
 ·rw[h3];exact⟨m,rfl,fun h=>(h4 h).elim,fun h=>(h5 (by rw[List.drop_zero,←h,List.take_length])).elim⟩
theorem cfield_t(rc:TValue→TValue→Option Int)(x y:TField)(h:∃n,rc x.V y.V=some n∧(n=0↔x.V=y.V)):∃n,F116 rc x y=some n∧(n=0↔x=y):=by
 rw[F116]
 obtain⟨a,a1,a2⟩:=cstr_t x.Name y.Name
 obtain⟨b,b1,b2⟩:=h
 obtain⟨c,c1,c2⟩:=or_t [a,b] (by simp)
 rw[a1,Option.bind_some,b1,Option.bind_some,c1]
 refine⟨c,rfl,c2.trans ?_⟩
 simp only[List.mem_cons,List.not_mem_nil,or_false,forall_eq_or_imp,forall_eq,a2,b2]
 cases x;cases y;simp
theorem cfl_l1(rc:TValue→TValue→Option Int)(l x1:List TField)(h:∀x∈l,∀y,∃n,rc x.V y=some n∧(n=0↔x.V=y)):∀(xs:List TField) (i:Nat),l.drop i=xs→(F115_l1 rc x1 xs i=some (.inr ())∧(x1.drop i).take xs.length=xs)∨(∃n,F115_l1 rc x1 xs i=some (.inl n)∧n≠0∧(x1.drop i).take xs.length≠xs)
 |[],i,_=> .inl ⟨by rw[F115_l1],by simp⟩
 |x::xs,i,e=>by
  rw[F115_l1]
  by_cases hi:(x1.length:Int)≤(i:Int)
  ·rw[if_pos hi]
   refine .inr ⟨1,rfl,by omega,?_⟩
   rw[List.drop_of_length_le (by omega)];simp
  ·rw[if_neg hi]
   have hy:x1[i]? =some x1[i]:=List.getElem?_eq_getElem (by omega)
   rw[rdI_val hy,Option.bind_some]
   obtain⟨n,h1,h2⟩:=cfield_t rc x x1[i] (h x (List.mem_of_getElem? (drop_hd e)) _)
   rw[h1,Option.bind_some,List.length_cons,take_cons' hy]
   by_cases hn:n=0
   ·rw[if_neg (by simp[hn]),←h2.1 hn]
    rcases cfl_l1 rc l x1 h xs (i+1) (drop_tl e)with⟨h3,h4⟩|⟨m,h3,h4,h5⟩
    ·exact .inl ⟨h3,by rw[h4]⟩
    ·exact .inr ⟨m,h3,h4,fun hh=>h5 (List.cons.inj hh).2⟩
   ·rw[if_pos hn]
    exact .inr ⟨n,rfl,hn,fun hh=>hn (h2.2 (List.cons.inj hh).1.symm)⟩
theorem cfl_t(rc:TValue→TValue→Option Int)(l x1:List TField)(hl:l.length≤4294967290)(h:∀x∈l,∀y,∃n,rc x.V y=some n∧(n=0↔x.V=y)):∃n,F115 rc l x1=some n∧(n=0↔l=x1):=by
 rw[F115,ck_t (by omega),Option.bind_some]
 rcases cfl_l1 rc l x1 h l 0 (List.drop_zero ..)with⟨h3,h4⟩|⟨m,h3,h4,h5⟩
 ·rw[h3,List.drop_zero]at*
  simp only[Option.bind_some]
  by_cases hx:(l.length:Int)<(x1.length:Int)
  ·rw[if_pos hx];exact⟨_,rfl,fun h=>by omega,fun h=>by rw[h]at hx;omega⟩
  ·rw[if_neg hx];exact⟨_,rfl,fun _=>by rw[List.take_of_length_le (by omega)]at h4;exact h4.symm,fun _=>rfl⟩
 ·rw[h3];exact⟨m,rfl,fun h=>(h4 h).elim,fun h=>(h5 (by rw[List.drop_zero,←h,List.take_length])).elim⟩
theorem cmpV_t:∀(k:Nat) (x y:TValue),wTValue x≤k→wTValue x≤4294967290→∃n,F82k k x y=some n∧(n=0↔x=y)
 |0,x,y,h,_=>by have:=wV_pos x;omega
 |k+1,x,y,h,h2=>by
  have l1:=wV_ll x
  have l2:=wV_fl x
  rw[F82k,F82]
  obtain⟨a,a1,a2⟩:=cint_t x.Kind y.Kind
  obtain⟨b,b1,b2⟩:=cint_t x.N y.N
  obtain⟨c,c1,c2⟩:=cstr_t x.S y.S
  obtain⟨d,d1,d2⟩:=clist_t (F82k k) x.List_ y.List_ (by omega) fun z hz y=>cmpV_t k z y (by have:=wV_list hz;omega) (by have:=wV_list hz;omega)
  obtain⟨e,e1,e2⟩:=cfl_t (F82k k) x.Fields y.Fields (by omega) fun z hz y=>cmpV_t k z.V y (by have:=wV_field hz;omega) (by have:=wV_field hz;omega)
  obtain⟨f,f1,f2⟩:=or_t (lit [a,b,c,d,e]) (by simp[lit])
  rw[a1,Option.bind_some,b1,Option.bind_some,c1,Option.bind_some,d1,Option.bind_some,e1,Option.bind_some,f1]
  refine⟨f,rfl,f2.trans ?_⟩
  simp only[lit,List.mem_cons,List.not_mem_nil,or_false,forall_eq_or_imp,forall_eq,a2,b2,c2,d2,e2]
  cases x;cases y;simp
theorem eqV_t{x:TValue}(y:TValue)(h:wTValue x≤4000000):∃b,F40 x y=some b∧(b=true↔x=y):=by
 obtain⟨n,h1,h2⟩:=cmpV_t 1099511627776 x y (by omega) (by omega)
 exact⟨decide (n=0),by rw[F40,h1];rfl,by simpa using h2⟩
theorem eqLab_l2(l x1:List Label)(hl:l.length=x1.length):∀(xs:List Label) (i:Nat),l.drop i=xs→F45_l2 x1 xs i=some (if xs=x1.drop i then .inr ()else .inl false)
 |[],i,e=>by
  have:l.length≤i:=by simpa using e
  rw[F45_l2,List.drop_of_length_le (by omega)];simp
 |x::xs,i,e=>by
  have hi:=(List.getElem?_eq_some_iff.1 (drop_hd e)).1
  have h1:i<x1.length:=by omega
  rw[F45_l2,rdI_at h1,Option.bind_some,eqLab_l2 l x1 hl xs (i+1) (drop_tl e),List.drop_eq_getElem_cons h1]
  have:(x.Key=x1[i].Key∧x.Value=x1[i].Value)↔x=x1[i]:=by obtain⟨a,b⟩:=x;rcases x1[i]with⟨c,d⟩;simp
  by_cases hx:x=x1[i]
  ·rw[if_neg (not_not_intro (this.2 hx))];simp only[hx,List.cons.injEq,true_and,false_and,not_true_eq_false,not_false_eq_true,if_true,if_false,Option.map_some,decide_true,decide_false,Bool.not_true,Bool.not_false,Bool.false_eq_true]
  ·rw[if_pos (fun hh=>hx (this.1 hh))];simp only[hx,List.cons.injEq,true_and,false_and,not_true_eq_false,not_false_eq_true,if_true,if_false,Option.map_some,decide_true,decide_false,Bool.not_true,Bool.not_false,Bool.false_eq_true]
theorem eqLab_t{l:List Label}(x1:List Label)(hl:l.length≤4294967290):F45 l x1=some (decide (l=x1)):=by
 rw[F45]
 by_cases h:(l.length:Int)=(x1.length:Int)
 ·rw[if_neg (by simpa using h),ck_t (by omega),Option.bind_some,eqLab_l2 l x1 (by omega) l 0 (List.drop_zero ..),List.drop_zero]
  by_cases hx:l=x1<;>simp[hx]
 ·rw[if_pos h]
  have:l≠x1:=fun e=>h (by rw[e])
  simp[this]
theorem eqOwn_l2(l x1:List Owner)(hl:l.length=x1.length):∀(xs:List Owner) (i:Nat),l.drop i=xs→F46_l2 x1 xs i=some (if xs=x1.drop i then .inr ()else .inl false)
 |[],i,e=>by
  have:l.length≤i:=by simpa using e
  rw[F46_l2,List.drop_of_length_le (by omega)];simp
 |x::xs,i,e=>by
  have hi:=(List.getElem?_eq_some_iff.1 (drop_hd e)).1
  have h1:i<x1.length:=by omega
  rw[F46_l2,rdI_at h1,Option.bind_some,eqOwn_l2 l x1 hl xs (i+1) (drop_tl e),List.drop_eq_getElem_cons h1]
  have:(decide (x.Kind=x1[i].Kind)&&(decide (x.Name=x1[i].Name)&&(decide (x.Uid=x1[i].Uid)&&((x.Controller==x1[i].Controller)&&(x.Block==x1[i].Block)))))=decide (x=x1[i]):=by
   obtain⟨a,b,c,d,e⟩:=x;rcases x1[i]with⟨a',b',c',d',e'⟩
   rw[Bool.eq_iff_iff];simp
  rw[this,nb_not]
  by_cases hx:x=x1[i]<;>simp only[hx,List.cons.injEq,true_and,false_and,not_true_eq_false,not_false_eq_true,if_true,if_false,Option.map_some,decide_true,decide_false,Bool.not_true,Bool.not_false,Bool.false_eq_true]
theorem eqOwn_t{l:List Owner}(x1:List Owner)(hl:l.length≤4294967290):F46 l x1=some (decide (l=x1)):=by
 rw[F46]
 by_cases h:(l.length:Int)=(x1.length:Int)
 ·rw[if_neg (by simpa using h),ck_t (by omega),Option.bind_some,eqOwn_l2 l x1 (by omega) l 0 (List.drop_zero ..),List.drop_zero]
  by_cases hx:l=x1<;>simp[hx]
 ·rw[if_pos h]
  have:l≠x1:=fun e=>h (by rw[e])
  simp[this]
theorem eqStr_l2(l x1:List ByteArray)(hl:l.length=x1.length):∀(xs:List ByteArray) (i:Nat),l.drop i=xs→F47_l2 x1 xs i=some (if xs=x1.drop i then .inr ()else .inl false)
 |[],i,e=>by
  have:l.length≤i:=by simpa using e
  rw[F47_l2,List.drop_of_length_le (by omega)];simp
 |x::xs,i,e=>by
  have hi:=(List.getElem?_eq_some_iff.1 (drop_hd e)).1
  have h1:i<x1.length:=by omega
  rw[F47_l2,rdI_at h1,Option.bind_some,eqStr_l2 l x1 hl xs (i+1) (drop_tl e),List.drop_eq_getElem_cons h1]
  by_cases hx:x=x1[i]<;>simp only[hx,List.cons.injEq,true_and,false_and,not_true_eq_false,not_false_eq_true,if_true,if_false,Option.map_some,decide_true,decide_false,Bool.not_true,Bool.not_false,Bool.false_eq_true]
theorem eqStr_t{l:List ByteArray}(x1:List ByteArray)(hl:l.length≤4294967290):F47 l x1=some (decide (l=x1)):=by
 rw[F47]
 by_cases h:(l.length:Int)=(x1.length:Int)
 ·rw[if_neg (by simpa using h),ck_t (by omega),Option.bind_some,eqStr_l2 l x1 (by omega) l 0 (List.drop_zero ..),List.drop_zero]
  by_cases hx:l=x1<;>simp[hx]
 ·rw[if_pos h]
  have:l≠x1:=fun e=>h (by rw[e])
  simp[this]
theorem eqMan1_t{x:Manager}(y:Manager)(h:x.Fields.length≤4294967290):F48 x y=some (decide (x=y)):=by
 rw[F48,eqStr_t _ h]
 obtain⟨a,b⟩:=x;obtain⟨c,d⟩:=y
 by_cases hx:a=c<;>simp[hx]
theorem eqMan_l2(l x1:List Manager)(hl:l.length=x1.length)(hm:∀m∈l,m.Fields.length≤4294967290):∀(xs:List Manager) (i:Nat),l.drop i=xs→F49_l2 x1 xs i=some (if xs=x1.drop i then .inr ()else .inl false)
 |[],i,e=>by
  have:l.length≤i:=by simpa using e
  rw[F49_l2,List.drop_of_length_le (by omega)];simp
 |x::xs,i,e=>by
  have hi:=(List.getElem?_eq_some_iff.1 (drop_hd e)).1
  have h1:i<x1.length:=by omega
  rw[F49_l2,rdI_at h1,Option.bind_some,eqMan1_t _ (hm x (List.mem_of_getElem? (drop_hd e))),Option.bind_some,eqMan_l2 l x1 hl hm xs (i+1) (drop_tl e),List.drop_eq_getElem_cons h1,nb_not]
  by_cases hx:x=x1[i]<;>simp only[hx,List.cons.injEq,true_and,false_and,not_true_eq_false,not_false_eq_true,if_true,if_false,Option.map_some,decide_true,decide_false,Bool.not_true,Bool.not_false,Bool.false_eq_true]
theorem eqMan_t{l:List Manager}(x1:List Manager)(hl:l.length≤4294967290)(hm:∀m∈l,m.Fields.length≤4294967290):F49 l x1=some (decide (l=x1)):=by
 rw[F49]
 by_cases h:(l.length:Int)=(x1.length:Int)
 ·rw[if_neg (by simpa using h),ck_t (by omega),Option.bind_some,eqMan_l2 l x1 (by omega) hm l 0 (List.drop_zero ..),List.drop_zero]
  by_cases hx:l=x1<;>simp[hx]
 ·rw[if_pos h]
  have:l≠x1:=fun e=>h (by rw[e])
  simp[this]
theorem eqO_t{x:Object}(y:Object)(h:OW x):∃b,F16 x y=some b∧(b=true↔x=y):=by
 have b0:∀b:Bool,∃r,some b=some r∧(r=true↔b=true):=fun b=>⟨b,rfl,Iff.rfl⟩
 obtain⟨p,p1,p2⟩:=eqV_t y.Spec h.spec
 obtain⟨q,q1,q2⟩:=eqV_t y.Status h.status
 rw[F16,F44,F44]
 simp only[Option.bind_some]
 rw[eqLab_t _ (by have:=h.labels;omega),eqOwn_t _ (by have:=h.owners;omega),eqStr_t _ (by have:=h.fins;omega),eqMan_t _ (by have:=h.mans;omega) (fun m hm=>by have:=h.man m hm;omega),p1,q1]
 obtain⟨⟨k,ns,nm,u,v,g,c,dl,da,lb,ow,fi,mn⟩,sp,st⟩:=x
 obtain⟨⟨k',ns',nm',u',v',g',c',dl',da',lb',ow',fi',mn'⟩,sp',st'⟩:=y
 simp only[Object.mk.injEq,Meta.mk.injEq]at*
 by_cases h1:k=k'∧ns=ns'∧nm=nm'
 rotate_left
 ·rw[if_pos h1];exact⟨false,rfl,by simp;intro a b c;exact(h1 ⟨a,b,c⟩).elim⟩
 rw[if_neg (not_not_intro h1)]
 by_cases h2:u=u'
 rotate_left
 ·rw[if_pos h2];exact⟨false,rfl,by simp[h2]⟩
 rw[if_neg (not_not_intro h2)]
 by_cases h3:v=v'
 rotate_left
 ·rw[if_pos h3];exact⟨false,rfl,by simp[h3]⟩
 rw[if_neg (not_not_intro h3)]
 by_cases h4:g=g'
 rotate_left
 ·rw[if_pos h4];exact⟨false,rfl,by simp[h4]⟩
 rw[if_neg (not_not_intro h4)]
 by_cases h5:c=c'
 rotate_left
 ·rw[if_pos h5];exact⟨false,rfl,by simp[h5]⟩
 rw[if_neg (not_not_intro h5)]
 by_cases h6:dl=dl'
 rotate_left
 ·rw[if_pos (by cases dl<;>cases dl'<;>simp_all)];exact⟨false,rfl,by simp[h6]⟩
 rw[if_neg (by rw[h6];simp)]
 by_cases h7:da=da'
 rotate_left
 ·simp only[h7,not_false_eq_true,decide_true,Option.bind_some,if_true];exact⟨false,rfl,by simp⟩
 simp only[h7,not_true_eq_false,decide_false,Option.bind_some,Bool.false_eq_true,if_false,nb_not]
 by_cases h8:lb=lb'
 rotate_left
 ·simp only[h8,decide_false,Bool.not_false,if_true,Option.bind_some];exact⟨false,rfl,by simp⟩
 simp only[h8,decide_true,Bool.not_true,Bool.false_eq_true,if_false,Option.bind_some]
 by_cases h9:ow=ow'
 rotate_left
 ·simp only[h9,decide_false,Bool.not_false,if_true,Option.bind_some];exact⟨false,rfl,by simp⟩
 simp only[h9,decide_true,Bool.not_true,Bool.false_eq_true,if_false,Option.bind_some]
 by_cases h10:fi=fi'
 rotate_left
 ·simp only[h10,decide_false,Bool.not_false,if_true,Option.bind_some];exact⟨false,rfl,by simp⟩
 simp only[h10,decide_true,Bool.not_true,Bool.false_eq_true,if_false,Option.bind_some]
 by_cases h11:mn=mn'
 rotate_left
 ·simp only[h11,decide_false,Bool.false_eq_true,if_false,Option.bind_some];exact⟨false,rfl,by simp⟩
 simp only[h11,decide_true,if_true,Option.bind_some]
 cases p
 ·exact⟨false,rfl,by simp[←p2]⟩
 ·simp only[if_true,Option.bind_some]
  exact⟨q,rfl,by simp[h1,h2,h3,h4,h5,h6,←p2,q2]⟩
open Go Go.Fw
set_option maxRecDepth 100000
set_option linter.unusedVariables false
set_option linter.unusedSimpArgs false
def ZO:Object:=⟨⟨⟨#[]⟩,⟨#[]⟩,⟨#[]⟩,0,0,0,0,false,0,[],[],[],[]⟩,⟨0,0,⟨#[]⟩,[],[]⟩,⟨0,0,⟨#[]⟩,[],[]⟩⟩
def cO(k:ByteArray)(y:Object):Int:=scmp (keyO y) k
def Sorted(l:List Object):Prop:=l.Pairwise fun a b=>lt (keyO a) (keyO b)
theorem S_obj{l:List Object}(h:Sorted l)(k:ByteArray):S (cO k) l:=
 h.imp fun{a b} hab hc=>by
   rcases(scmp_np (keyO b) k).1 hc with h1|rfl
   ·exact(scmp_neg (keyO a) k).2 (lt_trans hab h1)
   ·exact(scmp_neg (keyO a) (keyO b)).2 hab
theorem cO_zero{k:ByteArray}{y:Object}:cO k y=0↔keyO y=k:=scmp_zero _ _
theorem cO_neg{k:ByteArray}{y:Object}:cO k y<0↔lt (keyO y) k:=scmp_neg _ _
def rm(k:ByteArray)(l:List Object):List Object:=l.filter fun y=>decide (cO k y≠0)
def repS(l:List Object)(c:Change):List Object:=if c.Kind=2 then rm (keyO c.Object) l else insC (cO (keyO c.Object)) c.Object (rm (keyO c.Object) l)
def getS(l:List Object)(k:ByteArray):Option Object:=l.find? fun y=>decide (cO k y=0)
theorem rm_sorted{l:List Object}(k:ByteArray)(h:Sorted l):Sorted (rm k l):=h.filter _
theorem rm_mem{l:List Object}{k:ByteArray}{y:Object}:y∈rm k l↔y∈l∧keyO y≠k:=by
 unfold rm;rw[List.mem_filter];simp[cO_zero]
theorem rm_len(k:ByteArray)(l:List Object):(rm k l).length≤l.length:=List.length_filter_le ..
theorem rep_mem{l:List Object}{c:Change}{y:Object}(h:y∈repS l c):y∈l∨y=c.Object:=by
 unfold repS at h
 split at h
 ·exact .inl (rm_mem.1 h).1
 ·rcases(insC_mem _ _ _ _).1 h with h|h
  ·exact .inr h
  ·exact .inl (rm_mem.1 h).1
theorem rep_len(l:List Object)(c:Change):(repS l c).length≤l.length+1:=by
 have:=rm_len (keyO c.Object) l
 unfold repS
 split
 ·omega
 ·rw[insC_len];omega
theorem rep_sorted{l:List Object}(c:Change)(h:Sorted l):Sorted (repS l c):=by
 unfold repS
 split
 ·exact rm_sorted _ h
 ·refine insC_pw (R:=fun a b=>lt (keyO a) (keyO b)) (fun a b d=>lt_trans) (fun y hy hc=>cO_neg.1 hc) (fun y hy hc=>?_) (rm_sorted _ h)
  exact lt_of_not (mt cO_neg.2 hc) (rm_mem.1 hy).2
theorem or_neg{n:Int}{b:Bool}(h:(decide (n=0)||b)=true)(hn:n<0):b=true:=by
 simp at h;rcases h with h|h
 ·omega
 ·exact h
theorem set_ins{c:Object→Int}{x:Object}:∀{l:List Object},S c l→hasC c l=true→l.set (plc c l) x=insC c x (l.filter fun y=>decide (c y≠0))
 |[],_,h=>by simp[hasC]at h
 |y::l,hs,h=>by
  have hs2:=List.pairwise_cons.1 hs
  rw[hasC_cons]at h
  unfold plc
  by_cases hc:c y<0
  ·rw[if_pos hc,List.filter_cons_of_pos (by simp;omega),List.set_cons_succ,set_ins hs2.2 (or_neg h hc)]
   rw[insC,if_pos hc]
  ·rw[if_neg hc,List.set_cons_zero]
   have hg:∀z∈l,0<c z:=fun z hz=>by have:=hs2.1 z hz;omega
   rw[hasC_gt hg]at h
   simp at h
   rw[List.filter_cons_of_neg (by simp[h]),List.filter_eq_self.2 fun z hz=>by have:=hg z hz;simp;omega]
   cases l with
   |nil=>rfl
   |cons z l=>have:=hg z (List.mem_cons_self ..);rw[insC,if_neg (by omega)]
theorem get_has{l:List Object}{k:ByteArray}:hasC (cO k) l=(getS l k).isSome:=by
 unfold hasC getS
 rw[Bool.eq_iff_iff,List.any_eq_true,List.find?_isSome]
theorem get_plc{l:List Object}{k:ByteArray}(hs:S (cO k) l)(h:hasC (cO k) l=true):l[plc (cO k) l]? =getS l k:=by
 induction l with
 |nil=>simp[hasC]at h
 |cons y l ih=>
  have hs2:=List.pairwise_cons.1 hs
  rw[hasC_cons]at h
  unfold plc getS
  by_cases hc:cO k y<0
  ·rw[if_pos hc,List.getElem?_cons_succ,List.find?_cons_of_neg (by simp;omega)]
   exact ih hs2.2 (or_neg h hc)
  ·rw[if_neg hc]
   have hg:∀z∈l,0<cO k z:=fun z hz=>by have:=hs2.1 z hz;omega
   rw[hasC_gt hg]at h
   simp at h
   rw[List.find?_cons_of_pos (by simp[h])];rfl
theorem get_mem{l:List Object}{k:ByteArray}{o:Object}(h:getS l k=some o):o∈l∧keyO o=k:=
 ⟨List.mem_of_find?_eq_some h,by have:=List.find?_some h;exact cO_zero.1 (by simpa using this)⟩
theorem find1_t{y:Object}(h:OW y)(k:ByteArray):F71 y k=some (cO k y):=by
 rw[F71,KeyOf_t h.key];rfl
theorem bs_t(l:List Object)(k:ByteArray)(h:∀o∈l,OW o):∀(n:Nat) (a b:Int),F70_l1 l k n a b=bsL (cO k) l n a b
 |0,a,b=>by rw[F70_l1,bsL]
 |n+1,a,b=>by
  rw[F70_l1,bsL]
  simp only[bs_t l k h n]
  show(if a<b then(rdI l (mid a b)).bind (fun y3=>(F71 y3 k).bind fun t4=>if t4<0 then bsL (cO k) l n (IntKind.i64.wrap (mid a b+1)) b else bsL (cO k) l n a (mid a b))else some a)=_
  by_cases hab:a<b
  ·rw[if_pos hab,if_pos hab]
   cases hr:rdI l (mid a b)with
   |none=>rfl
   |some y=>
    have hy:=List.mem_of_getElem? (rdI_some hr).2.1
    simp only[Option.bind_some,find1_t (h y hy) k]
  ·rw[if_neg hab,if_neg hab]
theorem find_t'{l:List Object}(k:ByteArray)(hs:Sorted l)(h:∀o∈l,OW o)(hl:l.length≤1000000):F35 l k=some ((plc (cO k) l:Int),hasC (cO k) l):=by
 rw[F35,F70,bs_t l k h]
 have hp:=plc_le (cO k) l
 have:=bsL_spec (S_obj hs k) hl 1099511627776 0 l.length (by omega) (by omega) hp (by omega)
 rw[show((0:Nat):Int)=0 from rfl]at this
 rw[this,Option.bind_some]
 have ft:=find_t (S_obj hs k)
 have e:(if(plc (cO k) l:Int)<(l.length:Int)then(rdI l (plc (cO k) l:Int)).bind fun y8=>(F71 y8 k).bind fun t9=>some (decide (t9=0))else some false)=(if(plc (cO k) l:Int)<(l.length:Int)then(rdI l (plc (cO k) l:Int)).bind fun y=>some (decide (cO k y=0))else some false):=by
  by_cases hab:(plc (cO k) l:Int)<(l.length:Int)
  ·rw[if_pos hab,if_pos hab]
   cases hr:rdI l (plc (cO k) l:Int)with
   |none=>rfl
   |some y=>
    have hy:=List.mem_of_getElem? (rdI_some hr).2.1
    simp only[Option.bind_some,find1_t (h y hy) k]
  ·rw[if_neg hab,if_neg hab]
 rw[e,ft];rfl
theorem replay_t{l:List Object}(c:Change)(hs:Sorted l)(h:∀o∈l,OW o)(hc:OW c.Object)(hl:l.length≤1000000):∃b,F52 l c=some (repS l c,b)∧(b=true↔c.Kind≠2∨hasC (cO (keyO c.Object)) l=true):=by
 have hp:=plc_le (cO (keyO c.Object)) l
 have hS:=S_obj hs (keyO c.Object)
 rw[F52,KeyOf_t hc.key,Option.bind_some]
 show∃b,(F35 l (keyO c.Object)).bind _=_∧_
 rw[find_t' _ hs h hl]
 simp only[Option.bind_some,nb_not]
 unfold repS
 by_cases h2:c.Kind=2
 ·simp only[h2,if_true,Option.bind_some]
  cases hh:hasC (cO (keyO c.Object)) l with
  |false=>
   simp only[Bool.not_false,if_true]
   refine⟨false,?_,by simp⟩
   unfold rm
   rw[List.filter_eq_self.2]
   intro z hz
   have:=List.any_eq_false.1 hh z hz
   simpa using this
  |true=>
   simp only[Bool.not_true,Bool.false_eq_true,if_false]
   have hlt:plc (cO (keyO c.Object)) l<l.length:=by
    have hg:=get_plc hS hh
    rcases Nat.lt_or_ge (plc (cO (keyO c.Object)) l) l.length with h3|h3
    ·exact h3
    ·rw[List.getElem?_eq_none h3]at hg
     have:=get_has (l:=l) (k:=keyO c.Object)
     rw[hh,←hg]at this;simp at this
   rw[show IntKind.i64.wrap ((plc (cO (keyO c.Object)) l:Int)+1)=((plc (cO (keyO c.Object)) l+1:Nat):Int)from wrapN (by omega)]
   refine⟨true,?_,by simp⟩
   rw[delI,if_pos ⟨by omega,by omega,by omega,by omega⟩,Option.bind_some,Int.toNat_natCast,Int.toNat_natCast,rem_C hS hh]
   rfl
 ·simp only[h2,if_false,Option.bind_some,Bool.false_eq_true]
  cases hh:hasC (cO (keyO c.Object)) l with
  |true=>
   have hlt:plc (cO (keyO c.Object)) l<l.length:=by
    have hg:=get_plc hS hh
    rcases Nat.lt_or_ge (plc (cO (keyO c.Object)) l) l.length with h3|h3
    ·exact h3
    ·rw[List.getElem?_eq_none h3]at hg
     have:=get_has (l:=l) (k:=keyO c.Object)
     rw[hh,←hg]at this;simp at this
   simp only[if_true,rdI_at hlt,Option.bind_some,Int.toNat_natCast]
   exact⟨true,by rw[set_ins hS hh];rfl,by simp⟩
  |false=>
   simp only[Bool.false_eq_true,if_false]
   refine⟨true,?_,by simp[h2]⟩
   rw[insI,if_pos ⟨by omega,by omega,by omega⟩,Option.bind_some,Int.toNat_natCast,insC_plc]
   unfold rm
   rw[List.filter_eq_self.2]
   intro z hz
   have:=List.any_eq_false.1 hh z hz
   simpa using this
theorem fold_keep(P:Object→Prop):∀{cs:List Change} {l:List Object},(∀o∈l,P o)→(∀c∈cs,P c.Object)→∀o∈cs.foldl repS l,P o
 |[],l,h,_=>h
 |c::cs,l,h,hc=>fold_keep P (cs:=cs) (l:=repS l c) (fun o ho=>(rep_mem ho).elim (h o) fun e=>e▸hc c (List.mem_cons_self ..)) (fun d hd=>hc d (List.mem_cons_of_mem _ hd))
theorem fold_sorted:∀{cs:List Change} {l:List Object},Sorted l→Sorted (cs.foldl repS l)
 |[],l,h=>h
 |c::cs,l,h=>fold_sorted (cs:=cs) (l:=repS l c) (rep_sorted c h)
theorem fold_len:∀(cs:List Change) (l:List Object),(cs.foldl repS l).length≤l.length+cs.length
 |[],l=>Nat.le_refl _
 |c::cs,l=>by have:=fold_len cs (repS l c);have:=rep_len l c;simp only[List.foldl_cons,List.length_cons];omega
theorem at_l3:∀(cs:List Change) (i:Nat) (l:List Object),Sorted l→(∀o∈l,OW o)→(∀c∈cs,OW c.Object)→l.length+cs.length≤1000000→F66_l3 cs i l=some (cs.foldl repS l)
 |[],i,l,_,_,_,_=>by rw[F66_l3];rfl
 |c::cs,i,l,hs,h,hc,hl=>by
  rw[F66_l3]
  simp only[List.length_cons]at hl
  obtain⟨b,h1,_⟩:=replay_t c hs h (hc c (List.mem_cons_self ..)) (by omega)
  rw[h1,Option.bind_some,at_l3 cs (i+1) (repS l c) (rep_sorted c hs) (fun o ho=>(rep_mem ho).elim (h o) fun e=>e▸hc c (List.mem_cons_self ..)) (fun d hd=>hc d (List.mem_cons_of_mem _ hd)) (by have:=rep_len l c;omega)]
  rfl
open Go Go.Fw
set_option maxRecDepth 100000
set_option linter.unusedVariables false
set_option linter.unusedSimpArgs false
structure Inv(n:Nat)(s:TStore):Prop where
 ob:∀o∈s.Base,OW o
 oo:∀o∈s.Objects,OW o
 oh:∀c∈s.History,OW c.Object
 sb:Sorted s.Base
 so:Sorted s.Objects
 lb:(s.Base.length:Int)≤s.Floor
 lo:(s.Objects.length:Int)≤s.Rev
 fl:0≤s.Floor
 fr:s.Floor≤s.Rev
 rv:s.Rev≤n
 hl:(s.History.length:Int)=s.Rev-s.Floor
 u1:1≤s.NextUid
 un:s.NextUid≤n+1
 rp:s.History.foldl repS s.Base=s.Objects
theorem Inv.mono{n m:Nat}{s:TStore}(h:Inv n s)(hm:n≤m):Inv m s:=
 {h with rv:=by have:=h.rv;omega,un:=by have:=h.un;omega}
theorem Inv.sw{n:Nat}{s:TStore}(h:Inv n s)(hn:n≤3000):SW s:=
 ⟨h.ob,h.oo,h.oh,by have:=h.lb;have:=h.fr;have:=h.rv;omega,by have:=h.lo;have:=h.rv;omega,by have:=h.hl;have:=h.rv;have:=h.fl;omega⟩
def atL(s:TStore)(rev:Int):List Object:=(s.History.take (rev-s.Floor).toNat).foldl repS s.Base
theorem at_t{n:Nat}{s:TStore}(h:Inv n s)(hn:n≤3000){rev:Int}(h1:s.Floor≤rev)(h2:rev≤s.Rev):F66 s rev=some (atL s rev):=by
 have:=h.lb;have:=h.hl;have:=h.rv;have:=h.fl;have:=h.fr
 rw[F66,cl_t (by omega),Option.bind_some,wrapI (by omega) (by omega)]
 obtain⟨k,hk⟩:∃k:Nat,rev-s.Floor=k:=⟨(rev-s.Floor).toNat,by omega⟩
 have hs:slI s.History 0 (k:Int)=some (s.History.take k):=by
  have:=slI_t (xs:=s.History) (l:=0) (h:=k) (by omega) (by omega)
  simpa using this
 rw[hk,hs,Option.bind_some,ck_t ⟨by omega,by rw[List.length_take];omega⟩,Option.bind_some,at_l3 _ 0 s.Base h.sb h.ob (fun c hc=>h.oh c (List.mem_of_mem_take hc)) (by rw[List.length_take];omega)]
 unfold atL;rw[hk];rfl
theorem atL_keep{n:Nat}{s:TStore}(h:Inv n s)(rev:Int):Sorted (atL s rev)∧(∀o∈atL s rev,OW o)∧(atL s rev).length≤s.Base.length+(rev-s.Floor).toNat:=
 ⟨fold_sorted h.sb,fold_keep OW h.ob (fun c hc=>h.oh c (List.mem_of_mem_take hc)),Nat.le_trans (fold_len _ _) (by rw[List.length_take];omega)⟩
def commitS(s:TStore)(kind:Int)(o:Object):TStore:=
 ⟨s.Rev+1,s.Floor,s.NextUid,s.Base,repS s.Objects ⟨s.Rev+1,kind,o⟩,s.History++[⟨s.Rev+1,kind,o⟩]⟩
theorem commit_t{n:Nat}{s:TStore}(h:Inv n s)(hn:n≤3000)(kind:Int){o:Object}(ho:OW o):F41 s kind o=some ((commitS s kind o).Rev,(commitS s kind o).Floor,(commitS s kind o).Base,(commitS s kind o).Objects,(commitS s kind o).History):=by
 have h1:=h.lo;have h2:=h.hl;have h3:=h.rv;have h4:=h.fl;have h5:=h.fr
 have e:IntKind.i64.wrap (s.Rev+1)=s.Rev+1:=wrapI (by omega) (by omega)
 rw[F41,copied_t (h.sw hn),Option.bind_some,clone_t ho,Option.bind_some,Option.bind_some,e]
 simp only[parts,eta_v]
 obtain⟨b,hb,_⟩:=replay_t (l:=s.Objects) ⟨s.Rev+1,kind,o⟩ h.so h.oo ho (by omega)
 show(F52 s.Objects ⟨s.Rev+1,kind,o⟩).bind _=_
 rw[hb,Option.bind_some]
 show(apI s.History [⟨s.Rev+1,kind,o⟩]).bind _=_
 rw[apI_t (by simp;omega),Option.bind_some,if_neg (by simp;omega)]
 rfl
theorem OW_meta{o:Object}(h:OW o)(u v g c:Int)(dl:Bool)(da:Int):OW ⟨⟨o.Meta.Kind,o.Meta.Namespace,o.Meta.Name,u,v,g,c,dl,da,o.Meta.Labels,o.Meta.Owners,o.Meta.Finalizers,o.Meta.Managers⟩,o.Spec,o.Status⟩:=
 ⟨h.key,h.labels,h.owners,h.fins,h.mans,h.man,h.spec,h.status,h.label,h.owner,h.fin⟩
theorem OW_ZO:OW ZO:=oW (by unfold ZO wObject wMeta;rw[wTValue_u];simp[wN,wS,wL,show(⟨#[]⟩:ByteArray).size=0 from rfl])
theorem commit_inv{n:Nat}{s:TStore}(h:Inv n s)(kind:Int){o:Object}(ho:OW o):Inv (n+1) (commitS s kind o) where
 ob:=h.ob
 oo:=fun x hx=>(rep_mem hx).elim (h.oo x) fun e=>e▸ho
 oh:=fun c hc=>(List.mem_append.1 hc).elim (h.oh c) fun e=>by rw[List.mem_singleton.1 e];exact ho
 sb:=h.sb
 so:=rep_sorted _ h.so
 lb:=h.lb
 lo:=by have:=h.lo;have:=rep_len s.Objects ⟨s.Rev+1,kind,o⟩;show((repS s.Objects ⟨s.Rev+1,kind,o⟩).length:Int)≤s.Rev+1;omega
 fl:=h.fl
 fr:=by have:=h.fr;show s.Floor≤s.Rev+1;omega
 rv:=by have:=h.rv;show s.Rev+1≤((n+1:Nat):Int);omega
 hl:=by have:=h.hl;show((s.History++[_]).length:Int)=s.Rev+1-s.Floor;simp;omega
 u1:=h.u1
 un:=by have:=h.un;show s.NextUid≤((n+1:Nat):Int)+1;omega
 rp:=by show(s.History++[_]).foldl repS s.Base=_;rw[List.foldl_append,h.rp];rfl
def okO(o:Object):Bool:=(F38 o).getD false
theorem okO_t{o:Object}(h:OW o):F38 o=some (okO o):=by
 obtain⟨r,hr⟩:=vObj_ex h
 unfold okO;rw[hr];rfl
def newO(s:TStore)(o:Object)(now:Int):Object:=
 ⟨⟨o.Meta.Kind,o.Meta.Namespace,o.Meta.Name,s.NextUid,s.Rev+1,1,now,false,0,o.Meta.Labels,o.Meta.Owners,o.Meta.Finalizers,o.Meta.Managers⟩,o.Spec,o.Status⟩
def bump(s:TStore):TStore:=⟨s.Rev,s.Floor,s.NextUid+1,s.Base,s.Objects,s.History⟩
def createS(s:TStore)(o:Object)(now:Int):TStore×Object×Int:=
 if okO o=false∨now<0∨1000000000000<now then(s,ZO,1)
 else if hasC (cO (keyO o)) s.Objects=true then(s,ZO,8)
 else(bump (commitS s 1 (newO s o now)),newO s o now,0)
def tup8(r:TStore×Object×Int):Int×Int×Int×List Object×List Object×List Change×Object×Int:=
 (r.1.Rev,r.1.Floor,r.1.NextUid,r.1.Base,r.1.Objects,r.1.History,r.2.1,r.2.2)
theorem create_t{n:Nat}{s:TStore}(h:Inv n s)(hn:n≤400){o:Object}(ho:OW o)(now:Int):F32 s o now=some (tup8 (createS s o now)):=by
 have h1:=h.lo;have h2:=h.hl;have h3:=h.rv;have h4:=h.fl;have h5:=h.fr;have h6:=h.un;have h7:=h.u1
 have e:IntKind.i64.wrap (s.Rev+1)=s.Rev+1:=wrapI (by omega) (by omega)
 have e2:IntKind.i64.wrap (s.NextUid+1)=s.NextUid+1:=wrapI (by omega) (by omega)
 rw[F32,KeyOf_t ho.key,Option.bind_some]
 show(F35 s.Objects (keyO o)).bind _=_
 rw[find_t' _ h.so h.oo (by omega),Option.bind_some,okO_t ho,Option.bind_some,nb_not,copied_t (h.sw (by omega)),clone_t ho]
 unfold createS
 by_cases g1:okO o=false∨now<0∨1000000000000<now
 ·rw[if_pos g1]
  have:(if(!okO o)=true then some true else if now<0 then some true else some (decide (1000000000000<now)))=some true:=by
   rcases g1 with g|g|g
   ·simp[g]
   ·by_cases g2:okO o<;>simp[g,g2]
   ·by_cases g2:okO o<;>simp[g,g2]
  rw[this];rfl
 rw[if_neg g1]
 have:(if(!okO o)=true then some true else if now<0 then some true else some (decide (1000000000000<now)))=some false:=by
  simp only[not_or,Bool.not_eq_false]at g1
  rw[if_neg (by simp[g1.1]),if_neg g1.2.1,decide_eq_false g1.2.2]
 rw[this]
 simp only[Option.bind_some,Bool.false_eq_true,if_false]
 by_cases g2:hasC (cO (keyO o)) s.Objects=true
 ·rw[if_pos g2,if_pos g2];rfl
 rw[if_neg g2,if_neg g2]
 rw[if_neg (by omega),if_neg (by omega)]
 have:decide (1000000000000000≤s.NextUid)=false:=by simp;omega
 rw[this]
 simp only[Option.bind_some,Bool.false_eq_true,if_false,parts,eta_v,e,e2]
 rw[commit_t h (by omega) 1 (OW_meta ho _ _ _ _ _ _)]
 rfl
theorem create_inv{n:Nat}{s:TStore}(h:Inv n s){o:Object}(ho:OW o)(now:Int):Inv (n+1) (createS s o now).1∧OW (createS s o now).2.1:=by
 unfold createS
 split
 ·exact⟨h.mono (by omega),OW_ZO⟩
 split
 ·exact⟨h.mono (by omega),OW_ZO⟩
 have hc:=commit_inv h 1 (OW_meta ho s.NextUid (s.Rev+1) 1 now false 0)
 exact⟨{hc with u1:=by have:=h.u1;show 1≤s.NextUid+1;omega,un:=by have:=h.un;show s.NextUid+1≤((n+1:Nat):Int)+1;omega},OW_meta ho _ _ _ _ _ _⟩
def tupO(y:Object)(b:Bool):ByteArray×ByteArray×ByteArray×Int×Int×Int×Int×Bool×Int×List Label×List Owner×List ByteArray×List Manager×Int×Int×ByteArray×List TValue×List TField×Int×Int×ByteArray×List TValue×List TField×Bool:=
 (y.Meta.Kind,y.Meta.Namespace,y.Meta.Name,y.Meta.Uid,y.Meta.Version,y.Meta.Generation,y.Meta.Created,y.Meta.Deleting,y.Meta.DeleteAt,y.Meta.Labels,y.Meta.Owners,y.Meta.Finalizers,y.Meta.Managers,y.Spec.Kind,y.Spec.N,y.Spec.S,y.Spec.List_,y.Spec.Fields,y.Status.Kind,y.Status.N,y.Status.S,y.Status.List_,y.Status.Fields,b)
theorem get_t{n:Nat}{s:TStore}(h:Inv n s)(hn:n≤3000)(k:ByteArray):F10 s k=some (tupO ((getS s.Objects k).getD ZO) (getS s.Objects k).isSome):=by
 have h1:=h.lo;have h3:=h.rv
 rw[F10,find_t' _ h.so h.oo (by omega),Option.bind_some]
 simp only[get_has]
 cases hg:getS s.Objects k with
 |none=>rfl
 |some y=>
  have hp:=get_plc (S_obj h.so k) (by rw[get_has,hg];rfl)
  rw[hg]at hp
  simp only[Option.isSome_some,if_true,rdI_val hp,Option.bind_some]
  rw[clone_t (h.oo y (get_mem hg).1)]
  rfl
theorem find_l1{k:ByteArray}(l:List Object)(h:∀o∈l,OW o):∀(xs:List Object) (i:Nat),l.drop i=xs→(getS xs k=none∧F55_l1 k xs i=some (.inr ()))∨∃(y:Object) (j:Nat),getS xs k=some y∧F55_l1 k xs i=some (.inl (j:Int))∧l[j]? =some y
 |[],i,_=> .inl ⟨rfl,by rw[F55_l1]⟩
 |x::xs,i,e=>by
  have hx:=drop_hd e
  rw[F55_l1,rkey_t (h x (List.mem_of_getElem? hx)),Option.bind_some]
  by_cases hk:keyO x=k
  ·rw[if_pos hk]
   refine .inr ⟨x,i,?_,rfl,hx⟩
   unfold getS;rw[List.find?_cons_of_pos (by simp[cO_zero,hk])]
  ·rw[if_neg hk]
   have e1:getS (x::xs) k=getS xs k:=by unfold getS;rw[List.find?_cons_of_neg (by simp[cO_zero,hk])]
   rw[e1]
   exact find_l1 l h xs (i+1) (drop_tl e)
theorem rget_t{s:TStore}(h:∀o∈s.Objects,OW o)(hl:s.Objects.length≤4000000)(k:ByteArray):F28 s k=some ((getS s.Objects k).getD ZO,(getS s.Objects k).isSome):=by
 rw[F28,F55,ck_t (by omega),Option.bind_some]
 rcases find_l1 (k:=k) s.Objects h s.Objects 0 (List.drop_zero ..)with⟨h1,h2⟩|⟨y,j,h1,h2,h3⟩
 ·rw[h1,h2];rfl
 ·rw[h1,h2,Option.bind_some]
  simp only[Option.bind_some]
  rw[if_neg (by omega),rdI_val h3];rfl
open Classical in
noncomputable def updO(s:TStore)(o old:Object):Object:=
 ⟨⟨o.Meta.Kind,o.Meta.Namespace,o.Meta.Name,old.Meta.Uid,old.Meta.Version,(if o.Spec=old.Spec then old.Meta.Generation else IntKind.i64.wrap (old.Meta.Generation+1)),old.Meta.Created,o.Meta.Deleting,o.Meta.DeleteAt,o.Meta.Labels,o.Meta.Owners,o.Meta.Finalizers,o.Meta.Managers⟩,o.Spec,o.Status⟩
def withV(o:Object)(v:Int):Object:=
 ⟨⟨o.Meta.Kind,o.Meta.Namespace,o.Meta.Name,o.Meta.Uid,v,o.Meta.Generation,o.Meta.Created,o.Meta.Deleting,o.Meta.DeleteAt,o.Meta.Labels,o.Meta.Owners,o.Meta.Finalizers,o.Meta.Managers⟩,o.Spec,o.Status⟩
open Classical in
noncomputable def updateS(s:TStore)(o:Object):TStore×Object×Int:=
 if okO o=false then(s,ZO,1)else
 match getS s.Objects (keyO o)with
 |none=>(s,ZO,7)
 |some old=>
  if(o.Meta.Version≠0∧o.Meta.Version≠old.Meta.Version)∨(o.Meta.Uid≠0∧o.Meta.Uid≠old.Meta.Uid)then(s,ZO,9)
  else if updO s o old=old then(s,old,0)
  else(commitS s 1 (withV (updO s o old) (s.Rev+1)),withV (updO s o old) (s.Rev+1),0)
def tup28(nu:Int)(r:TStore×Object×Int):=(r.1.Rev,r.1.Floor,r.1.Base,r.1.Objects,r.1.History,r.2.1.Meta.Kind,r.2.1.Meta.Namespace,r.2.1.Meta.Name,r.2.1.Meta.Uid,r.2.1.Meta.Version,r.2.1.Meta.Generation,r.2.1.Meta.Created,r.2.1.Meta.Deleting,r.2.1.Meta.DeleteAt,r.2.1.Meta.Labels,r.2.1.Meta.Owners,r.2.1.Meta.Finalizers,r.2.1.Meta.Managers,r.2.1.Spec.Kind,r.2.1.Spec.N,r.2.1.Spec.S,r.2.1.Spec.List_,r.2.1.Spec.Fields,r.2.1.Status.Kind,r.2.1.Status.N,r.2.1.Status.S,r.2.1.Status.List_,r.2.1.Status.Fields,r.2.2)
theorem update_t{n:Nat}{s:TStore}(h:Inv n s)(hn:n≤400){o:Object}(ho:OW o):F12 s o=some (tup28 0 (updateS s o)):=by
 have h1:=h.lo;have h2:=h.hl;have h3:=h.rv;have h4:=h.fl;have h5:=h.fr
 have e:IntKind.i64.wrap (s.Rev+1)=s.Rev+1:=wrapI (by omega) (by omega)
 rw[F12,okO_t ho,Option.bind_some,nb_not,copied_t (h.sw (by omega)),KeyOf_t ho.key]
 unfold updateS
 cases g1:okO o with
 |false=>rfl
 |true=>
  simp only[Bool.not_true,Bool.false_eq_true,if_false,Option.bind_some,Bool.true_eq_false]
  rw[get_t h (by omega)]
  show _=some (tup28 0 (match getS s.Objects (keyO o)with|none=>_|some old=>_))
  rw[show keyB o.Meta=keyO o from rfl]
  cases hg:getS s.Objects (keyO o)with
  |none=>rfl
  |some old=>
   have hold:=h.oo old (get_mem hg).1
   simp only[Option.isSome_some,Option.getD_some,Option.bind_some,tupO,show nb true=false from rfl,Bool.false_eq_true,if_false,eta_v]
   have ec:(if¬o.Meta.Version=0 then(if¬o.Meta.Version=old.Meta.Version then some true else(if¬o.Meta.Uid=0 then some (decide (¬o.Meta.Uid=old.Meta.Uid))else some false))else(if¬o.Meta.Uid=0 then some (decide (¬o.Meta.Uid=old.Meta.Uid))else some false))=some (decide ((o.Meta.Version≠0∧o.Meta.Version≠old.Meta.Version)∨(o.Meta.Uid≠0∧o.Meta.Uid≠old.Meta.Uid))):=by
    by_cases a1:o.Meta.Version=0<;>by_cases a2:o.Meta.Version=old.Meta.Version<;>by_cases a3:o.Meta.Uid=0<;>by_cases a4:o.Meta.Uid=old.Meta.Uid<;>simp[a1,a2,a3,a4]
   rw[ec,Option.bind_some]
   by_cases g2:(o.Meta.Version≠0∧o.Meta.Version≠old.Meta.Version)∨(o.Meta.Uid≠0∧o.Meta.Uid≠old.Meta.Uid)
   ·rw[decide_eq_true g2,if_pos rfl,if_pos g2];rfl
   rw[decide_eq_false g2,if_neg (by simp),if_neg g2,clone_t ho]
   simp only[Option.bind_some,parts,eta_v]
   obtain⟨b,b1,b2⟩:=eqV_t old.Spec ho.spec
   rw[b1,Option.bind_some]
   have eg:(if nb b=true then some (IntKind.i64.wrap (old.Meta.Generation+1))else some old.Meta.Generation)=some (updO s o old).Meta.Generation:=by
    cases b
    ·have:¬o.Spec=old.Spec:=fun hh=>by have:=b2.2 hh;cases this
     simp[nb_not,updO,this]
    ·simp[nb_not,updO,b2.1 rfl]
   rw[eg,Option.bind_some]
   have hu:OW (updO s o old):=OW_meta ho _ _ _ _ _ _
   obtain⟨c,c1,c2⟩:=eqO_t old hu
   show(F16 (updO s o old) old).bind _=_
   rw[c1,Option.bind_some]
   cases c
   ·have:¬updO s o old=old:=fun hh=>by have:=c2.2 hh;cases this
    rw[if_neg (by simp),if_neg (by omega),if_neg this]
    simp only[Option.bind_some,e]
    have hw:OW (withV (updO s o old) (s.Rev+1)):=OW_meta hu _ _ _ _ _ _
    show(F41 s 1 (withV (updO s o old) (s.Rev+1))).bind _=_
    rw[commit_t h (by omega) 1 hw]
    rfl
   ·rw[if_pos rfl,if_pos (c2.1 rfl)];rfl
theorem update_inv{n:Nat}{s:TStore}(h:Inv n s){o:Object}(ho:OW o):Inv (n+1) (updateS s o).1∧OW (updateS s o).2.1:=by
 unfold updateS
 split
 ·exact⟨h.mono (by omega),OW_ZO⟩
 split
 ·exact⟨h.mono (by omega),OW_ZO⟩
 ·rename_i old hg
  split
  ·exact⟨h.mono (by omega),OW_ZO⟩
  split
  ·exact⟨h.mono (by omega),h.oo old (get_mem hg).1⟩
  have hu:OW (updO s o old):=OW_meta ho _ _ _ _ _ _
  have hw:OW (withV (updO s o old) (s.Rev+1)):=OW_meta hu _ _ _ _ _ _
  exact⟨commit_inv h 1 hw,hw⟩
def deleteS(s:TStore)(k:ByteArray)(v:Int):TStore×Object×Int:=
 match getS s.Objects k with
 |none=>(s,ZO,7)
 |some old=>
  if v≠0∧v≠old.Meta.Version then(s,ZO,9)
  else(commitS s 2 (withV old (s.Rev+1)),withV old (s.Rev+1),0)
def tup7(r:TStore×Object×Int):=(r.1.Rev,r.1.Floor,r.1.Base,r.1.Objects,r.1.History,r.2.1,r.2.2)
theorem delete_t{n:Nat}{s:TStore}(h:Inv n s)(hn:n≤400)(k:ByteArray)(v:Int):F13 s k v=some (tup7 (deleteS s k v)):=by
 have h1:=h.lo;have h2:=h.hl;have h3:=h.rv;have h4:=h.fl;have h5:=h.fr
 have e:IntKind.i64.wrap (s.Rev+1)=s.Rev+1:=wrapI (by omega) (by omega)
 rw[F13,get_t h (by omega),copied_t (h.sw (by omega))]
 unfold deleteS
 cases hg:getS s.Objects k with
 |none=>rfl
 |some old=>
  have hold:=h.oo old (get_mem hg).1
  simp only[Option.isSome_some,Option.getD_some,Option.bind_some,tupO,nb_not,Bool.not_true,Bool.false_eq_true,if_false,eta_v]
  have ec:(if¬v=0 then some (decide (¬v=old.Meta.Version))else some false)=some (decide (v≠0∧v≠old.Meta.Version)):=by
   by_cases a1:v=0<;>by_cases a2:v=old.Meta.Version<;>simp[a1,a2]
  rw[ec,Option.bind_some]
  by_cases g2:v≠0∧v≠old.Meta.Version
  ·rw[decide_eq_true g2,if_pos rfl,if_pos g2];rfl
  rw[decide_eq_false g2,if_neg (by simp),if_neg g2,if_neg (by omega)]
  simp only[e]
  have hw:OW (withV old (s.Rev+1)):=OW_meta hold _ _ _ _ _ _
  show(F41 s 2 (withV old (s.Rev+1))).bind _=_
  rw[commit_t h (by omega) 2 hw]
  rfl
theorem delete_inv{n:Nat}{s:TStore}(h:Inv n s)(k:ByteArray)(v:Int):Inv (n+1) (deleteS s k v).1∧OW (deleteS s k v).2.1:=by
 unfold deleteS
 split
 ·exact⟨h.mono (by omega),OW_ZO⟩
 ·rename_i old hg
  split
  ·exact⟨h.mono (by omega),OW_ZO⟩
  have hw:OW (withV old (s.Rev+1)):=OW_meta (h.oo old (get_mem hg).1) _ _ _ _ _ _
  exact⟨commit_inv h 2 hw,hw⟩
def compS(s:TStore)(rev:Int):TStore:=⟨s.Rev,rev,s.NextUid,atL s rev,s.Objects,s.History.drop (rev-s.Floor).toNat⟩
def compactS(s:TStore)(rev:Int):TStore×Int:=if rev<s.Floor∨s.Rev<rev then(s,5)else(compS s rev,0)
def tup5(r:TStore×Int):=(r.1.Floor,r.1.Base,r.1.Objects,r.1.History,r.2)
theorem comp_inv{n:Nat}{s:TStore}(h:Inv n s){rev:Int}(h1:s.Floor≤rev)(h2:rev≤s.Rev):Inv n (compS s rev):=by
 have k1:=h.lo;have k2:=h.hl;have k3:=h.rv;have k4:=h.fl;have k5:=h.fr;have k6:=h.lb
 obtain⟨a1,a2,a3⟩:=atL_keep h rev
 exact{ob:=a2,oo:=h.oo,oh:=fun c hc=>h.oh c (List.mem_of_mem_drop hc),sb:=a1,so:=h.so,lb:=by show((atL s rev).length:Int)≤rev;omega,lo:=k1,fl:=by show 0≤rev;omega,fr:=h2,rv:=k3,hl:=by show((s.History.drop _).length:Int)=s.Rev-rev;rw[List.length_drop];omega,u1:=h.u1,un:=h.un,rp:=by show(s.History.drop _).foldl repS ((s.History.take _).foldl repS s.Base)=s.Objects;rw[←List.foldl_append,List.take_append_drop];exact h.rp}
theorem compact_t{n:Nat}{s:TStore}(h:Inv n s)(hn:n≤400)(rev:Int):F34 s rev=some (tup5 (compactS s rev)):=by
 have k1:=h.lo;have k2:=h.hl;have k3:=h.rv;have k4:=h.fl;have k5:=h.fr;have k6:=h.lb
 rw[F34,copied_t (h.sw (by omega))]
 unfold compactS
 by_cases g:rev<s.Floor∨s.Rev<rev
 ·rw[if_pos g]
  have:(if rev<s.Floor then some true else some (decide (s.Rev<rev)))=some true:=by
   by_cases g1:rev<s.Floor
   ·rw[if_pos g1]
   ·rw[if_neg g1,decide_eq_true (g.resolve_left g1)]
  rw[this];rfl
 ·rw[if_neg g]
  have:(if rev<s.Floor then some true else some (decide (s.Rev<rev)))=some false:=by
   rw[if_neg (fun hh=>g (.inl hh)),decide_eq_false (fun hh=>g (.inr hh))]
  rw[this]
  simp only[Option.bind_some,Bool.false_eq_true,if_false]
  rw[F69,at_t h (by omega) (by omega) (by omega),Option.bind_some,wrapI (by omega) (by omega)]
  obtain⟨k,hk⟩:∃k:Nat,rev-s.Floor=k:=⟨(rev-s.Floor).toNat,by omega⟩
  have hs:slI s.History (k:Int) (s.History.length:Int)=some (s.History.drop k):=by
   rw[slI_t (by omega) (Nat.le_refl _),List.take_of_length_le (by simp)]
  rw[hk,hs,Option.bind_some,Option.bind_some]
  have hc:=comp_inv h (rev:=rev) (by omega) (by omega)
  have e:(⟨s.Rev,rev,s.NextUid,atL s rev,s.Objects,s.History.drop k⟩:TStore)=compS s rev:=by unfold compS;rw[hk];rfl
  rw[show(⟨s.Rev,rev,s.NextUid,(atL s rev,s.History.drop k).1,s.Objects,(atL s rev,s.History.drop k).2⟩:TStore)=compS s rev from e,copied_t (hc.sw (by omega))]
  rfl
theorem compact_inv{n:Nat}{s:TStore}(h:Inv n s)(rev:Int):Inv n (compactS s rev).1:=by
 unfold compactS
 split
 ·exact h
 ·exact comp_inv h (by omega) (by omega)
def verS(s:TStore)(op:TOp):Int:=if op.Version<0 then((getS s.Objects (if op.Kind=2 then keyB op.O.Meta else op.Key)).getD ZO).Meta.Version else op.Version
noncomputable def stepS(s:TStore)(op:TOp):TStore×Object×Int:=
 if op.Kind=1 then createS s op.O op.Now
 else if op.Kind=2 then updateS s (withV op.O (verS s op))
 else if op.Kind=3 then deleteS s op.Key (verS s op)
 else((compactS s op.Rev).1,ZO,(compactS s op.Rev).2)
theorem prep_t{n:Nat}{s:TStore}(h:Inv n s)(hn:n≤400){op:TOp}(ho:OW op.O):F58 s op=some (if op.Kind=2 then verS s op else op.O.Meta.Version,verS s op):=by
 have k1:=h.lo;have k3:=h.rv
 rw[F58,rKeyOf_t ho.key]
 have e1:(if op.Kind=2 then(some (keyB op.O.Meta)).bind fun t3=>some t3 else some op.Key)=some (if op.Kind=2 then keyB op.O.Meta else op.Key):=by split<;>rfl
 rw[e1,Option.bind_some,rget_t h.oo (by omega)]
 have e2:(if op.Version<0 then(some ((getS s.Objects (if op.Kind=2 then keyB op.O.Meta else op.Key)).getD ZO,(getS s.Objects (if op.Kind=2 then keyB op.O.Meta else op.Key)).isSome)).bind fun t6=>some t6.1.Meta.Version else some op.Version)=some (verS s op):=by unfold verS;split<;>rfl
 rw[e2,Option.bind_some]
 split<;>rfl
theorem upd_nu(s:TStore)(o:Object):(updateS s o).1.NextUid=s.NextUid:=by
 unfold updateS
 split
 ·rfl
 split
 ·rfl
 split
 ·rfl
 split<;>rfl
theorem del_nu(s:TStore)(k:ByteArray)(v:Int):(deleteS s k v).1.NextUid=s.NextUid:=by
 unfold deleteS
 split
 ·rfl
 split<;>rfl
theorem comp_nu(s:TStore)(rev:Int):(compactS s rev).1.NextUid=s.NextUid∧(compactS s rev).1.Rev=s.Rev:=by
 unfold compactS
 split<;>exact⟨rfl,rfl⟩
theorem step_t{n:Nat}{s:TStore}(h:Inv n s)(hn:n≤400){op:TOp}(ho:OW op.O):F22 s op=some (tup8 (stepS s op)):=by
 rw[F22,prep_t h hn ho,Option.bind_some]
 unfold stepS
 by_cases g1:op.Kind=1
 ·have g2:¬op.Kind=2:=by omega
  simp only[g1,if_true]
  rw[create_t h hn (o:=⟨⟨op.O.Meta.Kind,op.O.Meta.Namespace,op.O.Meta.Name,op.O.Meta.Uid,_,op.O.Meta.Generation,op.O.Meta.Created,op.O.Meta.Deleting,op.O.Meta.DeleteAt,op.O.Meta.Labels,op.O.Meta.Owners,op.O.Meta.Finalizers,op.O.Meta.Managers⟩,op.O.Spec,op.O.Status⟩) (OW_meta ho _ _ _ _ _ _)]
  simp only[Option.bind_some,tup8,eta_v]
  rfl
 by_cases g2:op.Kind=2
 ·simp only[g2,if_true,if_neg (show¬(2:Int)=1 by omega)]
  have e:F12 s (⟨⟨op.O.Meta.Kind,op.O.Meta.Namespace,op.O.Meta.Name,op.O.Meta.Uid,verS s op,op.O.Meta.Generation,op.O.Meta.Created,op.O.Meta.Deleting,op.O.Meta.DeleteAt,op.O.Meta.Labels,op.O.Meta.Owners,op.O.Meta.Finalizers,op.O.Meta.Managers⟩,op.O.Spec,op.O.Status⟩:Object)=some (tup28 0 (updateS s (withV op.O (verS s op)))):=update_t h hn (OW_meta ho _ _ _ _ _ _)
  rw[e]
  simp only[Option.bind_some,tup28,tup8,eta_v,upd_nu]
 by_cases g3:op.Kind=3
 ·simp only[if_neg g1,if_neg g2,if_pos g3]
  rw[delete_t h hn]
  simp only[Option.bind_some,tup7,tup8,eta_v,del_nu]
 ·simp only[if_neg g1,if_neg g2,if_neg g3]
  rw[compact_t h hn]
  simp only[Option.bind_some,tup5,tup8,comp_nu]
  rfl
theorem step_inv{n:Nat}{s:TStore}(h:Inv n s){op:TOp}(ho:OW op.O):Inv (n+1) (stepS s op).1∧OW (stepS s op).2.1:=by
 unfold stepS
 split
 ·exact create_inv h ho _
 split
 ·exact update_inv h (OW_meta ho _ _ _ _ _ _)
 split
 ·exact delete_inv h _ _
 ·exact⟨(compact_inv h _).mono (by omega),OW_ZO⟩
noncomputable def playS(s:TStore)(l:List TOp):TStore:=l.foldl (fun s op=>(stepS s op).1) s
def S0:TStore:=⟨0,0,1,[],[],[]⟩
theorem inv0:Inv 0 S0 where
 ob:=by intro o h;cases h
 oo:=by intro o h;cases h
 oh:=by intro o h;cases h
 sb:=List.Pairwise.nil
 so:=List.Pairwise.nil
 lb:=by decide
 lo:=by decide
 fl:=by decide
 fr:=by decide
 rv:=by decide
 hl:=by decide
 u1:=by decide
 un:=by decide
 rp:=rfl
theorem play_inv:∀{l:List TOp} {n:Nat} {s:TStore},Inv n s→(∀op∈l,OW op.O)→Inv (n+l.length) (playS s l)
 |[],n,s,h,_=>h
 |op::l,n,s,h,ho=>by
  have:=play_inv (l:=l) (step_inv h (ho op (List.mem_cons_self ..))).1 fun o hx=>ho o (List.mem_cons_of_mem _ hx)
  exact this.mono (by simp;omega)
open Go Go.Fw
set_option maxRecDepth 100000
set_option linter.unusedVariables false
set_option linter.unusedSimpArgs false
theorem awake_t:F8=some true:=by
 set_option maxRecDepth 1000000 in
 kernel_rfl
theorem wt_l1:∀(l:List Manager) (i:Nat) (n:Int),∃r,F7_l1 l i n=some r
 |[],i,n=>⟨_,by rw[F7_l1]⟩
 |x::l,i,n=>by rw[F7_l1];exact wt_l1 l _ _
theorem wt_ex{o:Object}(h:OW o):∃r,F7 o=some r:=by
 rw[F7,size_same]
 have g1:=vsize_ex 1099511627776 o.Spec (by have:=h.spec;omega) (by have:=h.spec;omega)
 have g2:=vsize_ex 1099511627776 o.Status (by have:=h.status;omega) (by have:=h.status;omega)
 refine exb (exb (exck (by have:=h.mans;omega)) fun _ _=>wt_l1 _ _ _) fun _ _=>?_
 repeat'(first|exact⟨_,rfl⟩|exact g1|exact g2|exact exck (by omega)|exact byI_ex (by omega) (by omega)|exact rdI_ex (by omega) (by omega)|exact apI_ex (by omega)|with_reducible refine exif (fun _=>?_) (fun _=>?_)|with_reducible refine exb ?_ (fun _ _=>?_)|with_reducible refine exmap ?_|split)
theorem light_l1(l:List TOp)(h:∀op∈l,OW op.O)(hl:l.length≤4000000):∀(m k i:Nat) (n:Int),l.length≤i+m→i≤4000000→m<k→∃r,F6_l1 l k n (i:Int)=some r
 |0,k+1,i,n,h1,_,_=>by rw[F6_l1,if_neg (by omega)];exact⟨_,rfl⟩
 |m+1,k+1,i,n,h1,h2,h3=>by
  rw[F6_l1]
  by_cases hi:(i:Int)<(l.length:Int)
  ·rw[if_pos hi,wrapN (by omega),rdI_at (by omega),Option.bind_some]
   obtain⟨w,hw⟩:=wt_ex (h l[i] (List.getElem_mem _))
   have ih:=fun n=>light_l1 l h hl m k (i+1) n (by omega) (by omega) (by omega)
   rw[Option.bind_some,hw,Option.bind_some]
   split
   ·exact ih _
   ·exact⟨_,rfl⟩
  ·rw[if_neg hi];exact⟨_,rfl⟩
theorem light_t{l:List TOp}(h:∀op∈l,OW op.O)(hl:l.length≤4000000):∃b,F6 l=some b∧(b=true→l.length≤40):=by
 obtain⟨r,hr⟩:=light_l1 l h hl l.length 1099511627776 0 0 (by omega) (by omega) (by omega)
 rw[F6]
 rw[show((0:Nat):Int)=0 from rfl]at hr
 rw[hr,Option.bind_some]
 by_cases g:(l.length:Int)≤40
 ·rw[if_pos g];exact⟨_,rfl,fun _=>by omega⟩
 ·rw[if_neg g];exact⟨false,rfl,by simp⟩
theorem lget_l1(k:ByteArray):∀(l:List Label) (i:Nat),∃r,F139_l1 k l i=some r
 |[],i=>⟨_,by rw[F139_l1]⟩
 |x::l,i=>by
  rw[F139_l1]
  have ih:=lget_l1 k l (i+1)
  repeat'(first|exact⟨_,rfl⟩|exact ih|exact exck (by omega)|exact byI_ex (by omega) (by omega)|exact rdI_ex (by omega) (by omega)|exact apI_ex (by omega)|with_reducible refine exif (fun _=>?_) (fun _=>?_)|with_reducible refine exb ?_ (fun _ _=>?_)|with_reducible refine exmap ?_|split)
theorem lget_ex{l:List Label}(k:ByteArray)(hl:l.length≤4000000):∃r,F139 l k=some r:=by
 rw[F139]
 have g:=lget_l1 k l 0
 repeat'(first|exact⟨_,rfl⟩|exact g|exact exck (by omega)|exact byI_ex (by omega) (by omega)|exact rdI_ex (by omega) (by omega)|exact apI_ex (by omega)|with_reducible refine exif (fun _=>?_) (fun _=>?_)|with_reducible refine exb ?_ (fun _ _=>?_)|with_reducible refine exmap ?_|split)
theorem idx_l1(k:ByteArray):∀(l:List ByteArray) (i:Nat),∃r,F147_l1 k l i=some r
 |[],i=>⟨_,by rw[F147_l1]⟩
 |x::l,i=>by
  rw[F147_l1]
  have ih:=idx_l1 k l (i+1)
  repeat'(first|exact⟨_,rfl⟩|exact ih|exact exck (by omega)|exact byI_ex (by omega) (by omega)|exact rdI_ex (by omega) (by omega)|exact apI_ex (by omega)|with_reducible refine exif (fun _=>?_) (fun _=>?_)|with_reducible refine exb ?_ (fun _ _=>?_)|with_reducible refine exmap ?_|split)
theorem cont_ex{l:List ByteArray}(k:ByteArray)(hl:l.length≤4000000):∃r,F140 l k=some r:=by
 rw[F140,F147]
 have g:=idx_l1 k l 0
 repeat'(first|exact⟨_,rfl⟩|exact g|exact exck (by omega)|exact byI_ex (by omega) (by omega)|exact rdI_ex (by omega) (by omega)|exact apI_ex (by omega)|with_reducible refine exif (fun _=>?_) (fun _=>?_)|with_reducible refine exb ?_ (fun _ _=>?_)|with_reducible refine exmap ?_|split)
theorem holds_ex{r:Requirement}{l:List Label}(h1:r.Values.length≤4000000)(hl:l.length≤4000000):∃b,F126 r l=some b:=by
 rw[F126]
 have g:=lget_ex r.Key hl
 have g2:=fun k=>cont_ex (l:=r.Values) k h1
 repeat'(first|exact⟨_,rfl⟩|exact g|exact g2 _|exact exck (by omega)|exact byI_ex (by omega) (by omega)|exact rdI_ex (by omega) (by omega)|exact apI_ex (by omega)|with_reducible refine exif (fun _=>?_) (fun _=>?_)|with_reducible refine exb ?_ (fun _ _=>?_)|with_reducible refine exmap ?_|split)
theorem mat_l1{l:List Label}(hl:l.length≤4000000):∀(sel:List Requirement) (i:Nat),(∀r∈sel,r.Values.length≤4000000)→∃b,F99_l1 l sel i=some b
 |[],i,_=>⟨_,by rw[F99_l1]⟩
 |x::sel,i,h=>by
  rw[F99_l1]
  have ih:=mat_l1 hl sel (i+1) fun r hr=>h r (List.mem_cons_of_mem _ hr)
  have g:=holds_ex (h x (List.mem_cons_self ..)) hl
  repeat'(first|exact⟨_,rfl⟩|exact ih|exact g|exact exck (by omega)|exact byI_ex (by omega) (by omega)|exact rdI_ex (by omega) (by omega)|exact apI_ex (by omega)|with_reducible refine exif (fun _=>?_) (fun _=>?_)|with_reducible refine exb ?_ (fun _ _=>?_)|with_reducible refine exmap ?_|split)
def selOk(sel:List Requirement):Prop:=sel.length≤4000000∧∀r∈sel,r.Values.length≤4000000
def matB(sel:List Requirement)(l:List Label):Bool:=(F99 sel l).getD false
theorem mat_t{sel:List Requirement}{l:List Label}(h:selOk sel)(hl:l.length≤4000000):F99 sel l=some (matB sel l):=by
 have:∃b,F99 sel l=some b:=by
  rw[F99]
  have g:=mat_l1 hl sel 0 h.2
  have:=h.1
  repeat'(first|exact⟨_,rfl⟩|exact g|exact exck (by omega)|exact byI_ex (by omega) (by omega)|exact rdI_ex (by omega) (by omega)|exact apI_ex (by omega)|with_reducible refine exif (fun _=>?_) (fun _=>?_)|with_reducible refine exb ?_ (fun _ _=>?_)|with_reducible refine exmap ?_|split)
 obtain⟨b,hb⟩:=this
 unfold matB;rw[hb];rfl
def e0:ByteArray:=⟨#[]⟩
def selS(f:Filter)(o:Object):Bool:=(decide (f.Kind=e0)||decide (f.Kind=o.Meta.Kind))&&((decide (f.Namespace=e0)||decide (f.Namespace=o.Meta.Namespace))&&matB f.Selector o.Meta.Labels)
theorem sel_t'(f:Filter)(o:Object)(b:Bool):(if f.Kind=(⟨#[]⟩:ByteArray)then(if f.Namespace=(⟨#[]⟩:ByteArray)then(some b).bind fun t26=>some t26 else(if f.Namespace=o.Meta.Namespace then(some b).bind fun t28=>some t28 else some false))else(if f.Kind=o.Meta.Kind then(if f.Namespace=(⟨#[]⟩:ByteArray)then(some b).bind fun t31=>some t31 else(if f.Namespace=o.Meta.Namespace then(some b).bind fun t33=>some t33 else some false))else some false))=some ((decide (f.Kind=e0)||decide (f.Kind=o.Meta.Kind))&&((decide (f.Namespace=e0)||decide (f.Namespace=o.Meta.Namespace))&&b)):=by
 unfold e0
 by_cases a1:f.Kind=(⟨#[]⟩:ByteArray)<;>by_cases a2:f.Kind=o.Meta.Kind<;>by_cases a3:f.Namespace=(⟨#[]⟩:ByteArray)<;>by_cases a4:f.Namespace=o.Meta.Namespace<;>simp only[a1,a2,a3,a4,if_true,if_false,Option.bind_some,decide_true,decide_false,Bool.true_or,Bool.or_true,Bool.false_or,Bool.or_false,Bool.true_and,Bool.false_and,Bool.or_self,ite_self]
theorem sel_t{f:Filter}{o:Object}(h:selOk f.Selector)(ho:OW o):F67 f o=some (selS f o):=by
 rw[F67,mat_t h ho.labels,sel_t'];rfl
theorem list_l1{f:Filter}(h:selOk f.Selector):∀(l:List Object) (i:Nat) (a:List Object),(∀o∈l,OW o)→a.length+l.length≤4000000→F29_l1 f l i a=some (a++l.filter (selS f))
 |[],i,a,_,_=>by rw[F29_l1];simp
 |o::l,i,a,ho,hl=>by
  have h1:=ho o (List.mem_cons_self ..)
  simp only[List.length_cons]at hl
  rw[F29_l1,sel_t h h1,Option.bind_some,clone_t h1]
  cases hs:selS f o with
  |false=>
   simp only[Bool.false_eq_true,if_false,Option.bind_some]
   rw[list_l1 h l (i+1) a (fun x hx=>ho x (List.mem_cons_of_mem _ hx)) (by omega),List.filter_cons_of_neg (by simp[hs])]
  |true=>
   simp only[if_true,Option.bind_some,parts,eta_v]
   rw[apI_t (by simp;omega)]
   simp only[Option.bind_some]
   rw[list_l1 h l (i+1) _ (fun x hx=>ho x (List.mem_cons_of_mem _ hx)) (by simp;omega),List.filter_cons_of_pos (by simp[hs])]
   simp
theorem list_t{n:Nat}{s:TStore}(hi:Inv n s)(hn:n≤400){f:Filter}(h:selOk f.Selector):F29 s f=some (s.Objects.filter (selS f)):=by
 have h1:=hi.lo;have h3:=hi.rv
 rw[F29,ck_t (by omega),Option.bind_some,list_l1 h _ 0 [] hi.oo (by simp;omega)];rfl
theorem ops_ow{l:List TOp}(h:wL wTOp l≤1048576):(∀op∈l,OW op.O)∧l.length≤4000000:=by
 refine⟨fun op ho=>oW ?_,?_⟩
 ·have:=wL_mem (w:=wTOp) ho
  unfold wTOp at this
  unfold wTOp at h
  omega
 ·have:=wL_len (w:=wTOp) (fun a=>by unfold wTOp;omega) l
  omega
open Go Go.Fw
set_option maxRecDepth 100000
set_option linter.unusedVariables false
set_option linter.unusedSimpArgs false
theorem lt_asy{a b:ByteArray}(h:lt a b):¬lt b a:=fun h'=>lt_irrefl a (lt_trans h h')
theorem le_of(a b:ByteArray):(Op.bytesLess a.toList b.toList||decide (a=b))=decide (¬lt b a):=by
 rw[bl_lt]
 by_cases h:lt a b
 ·simp[h,lt_asy h]
 ·by_cases h2:a=b
  ·subst h2;simp[lt_irrefl]
  ·simp[h,h2,lt_of_not h h2]
theorem nb_leq(a b:ByteArray):nb (Op.bytesLess a.toList b.toList||decide (a=b))=decide (lt b a):=by rw[le_of,nb_not];simp
theorem ordI_t(a b:Int):∃n,F125 (decide (a<b)) (decide (b<a))=some n∧(n=0↔a=b):=by
 rw[F125]
 by_cases h1:a<b
 ·rw[decide_eq_true h1,if_pos rfl];exact⟨_,rfl,by omega⟩
 ·rw[decide_eq_false h1,if_neg (by simp)]
  by_cases h2:b<a
  ·rw[decide_eq_true h2,if_pos rfl];exact⟨_,rfl,by omega⟩
  ·rw[decide_eq_false h2,if_neg (by simp)];exact⟨_,rfl,by omega⟩
theorem ordS_t(a b:ByteArray):∃n,F125 (Op.bytesLess a.toList b.toList) (nb (Op.bytesLess a.toList b.toList||decide (a=b)))=some n∧(n=0↔a=b):=by
 rw[F125,nb_leq,bl_lt]
 by_cases h1:lt a b
 ·rw[decide_eq_true h1,if_pos rfl];exact⟨_,rfl,by simp[lt_ne h1]⟩
 ·rw[decide_eq_false h1,if_neg (by simp)]
  by_cases h2:lt b a
  ·rw[decide_eq_true h2,if_pos rfl];exact⟨_,rfl,by simp[Ne.symm (lt_ne h2)]⟩
  ·rw[decide_eq_false h2,if_neg (by simp)];exact⟨_,rfl,by simp[lt_tri h1 h2]⟩
theorem eq_take{α:Type}{l r:List α}{m:Nat}(hm:min l.length r.length=m):l=r↔l.take m=r.take m∧l.length=r.length:=by
 constructor
 ·rintro rfl;exact⟨rfl,rfl⟩
 ·rintro⟨h1,h2⟩
  rwa [List.take_of_length_le (by omega),List.take_of_length_le (by omega)]at h1
theorem rcmp_l8(rc:TValue→TValue→Option Int)(x y:TValue)(hb:x.List_.length≤4294967290)(h:∀z∈x.List_,∀w,∃n,rc z w=some n∧(n=0↔z=w)):∀(m i k:Nat) (a:Int),min x.List_.length y.List_.length=i+m→m<k→∃n,F98_l8 rc x y k a (i:Int)=some n∧(n=0↔a=0∧(x.List_.drop i).take m=(y.List_.drop i).take m)
 |0,i,k+1,a,h1,_=>by
  rw[F98_l8]
  have:(if(i:Int)<(x.List_.length:Int)then(if(i:Int)<(y.List_.length:Int)then some (decide (a=0))else some false)else some false)=some false:=by
   by_cases g:(i:Int)<(x.List_.length:Int)
   ·rw[if_pos g,if_neg (by omega)]
   ·rw[if_neg g]
  rw[this]
  exact⟨a,rfl,by simp⟩
 |m+1,i,k+1,a,h1,hk=>by
  rw[F98_l8,if_pos (by omega),if_pos (by omega),Option.bind_some]
  by_cases h0:a=0
  ·rw[decide_eq_true h0,if_pos rfl,rdI_at (by omega),Option.bind_some,rdI_at (by omega),Option.bind_some,wrapN (by omega)]
   obtain⟨n,h2,h3⟩:=h x.List_[i] (List.getElem_mem _) y.List_[i]
   rw[h2,Option.bind_some]
   obtain⟨r,h4,h5⟩:=rcmp_l8 rc x y hb h m (i+1) k n (by omega) (by omega)
   refine⟨r,h4,h5.trans ?_⟩
   rw[h3,take_cons' (List.getElem?_eq_getElem (by omega)),take_cons' (List.getElem?_eq_getElem (by omega)),List.cons.injEq]
   simp[h0]
  ·rw[decide_eq_false h0,if_neg (by simp)]
   exact⟨a,rfl,by simp[h0]⟩
theorem rcmp_l19(rc:TValue→TValue→Option Int)(x y:TValue)(hb:x.Fields.length≤4294967290)(h:∀z∈x.Fields,∀w,∃n,rc z.V w=some n∧(n=0↔z.V=w)):∀(m i k:Nat) (a:Int),min x.Fields.length y.Fields.length=i+m→m<k→∃n,F98_l19 rc x y k a (i:Int)=some n∧(n=0↔a=0∧(x.Fields.drop i).take m=(y.Fields.drop i).take m)
 |0,i,k+1,a,h1,_=>by
  rw[F98_l19]
  have:(if(i:Int)<(x.Fields.length:Int)then(if(i:Int)<(y.Fields.length:Int)then some (decide (a=0))else some false)else some false)=some false:=by
   by_cases g:(i:Int)<(x.Fields.length:Int)
   ·rw[if_pos g,if_neg (by omega)]
   ·rw[if_neg g]
  rw[this]
  exact⟨a,rfl,by simp⟩
 |m+1,i,k+1,a,h1,hk=>by
  rw[F98_l19,if_pos (by omega),if_pos (by omega),Option.bind_some]
  by_cases h0:a=0
  ·rw[decide_eq_true h0,if_pos rfl,rdI_at (by omega),Option.bind_some,rdI_at (by omega),Option.bind_some,wrapN (by omega)]
   obtain⟨n,h2,h3⟩:=ordS_t x.Fields[i].Name y.Fields[i].Name
   obtain⟨p,p2,p3⟩:=h x.Fields[i] (List.getElem_mem _) y.Fields[i].V
   rw[h2,Option.bind_some,p2]
   have e:∃q,(if n=0 then(some p).bind fun t29=>some t29 else some n)=some q∧(q=0↔x.Fields[i]=y.Fields[i]):=by
    have hf:x.Fields[i]=y.Fields[i]↔x.Fields[i].Name=y.Fields[i].Name∧x.Fields[i].V=y.Fields[i].V:=by
     rcases x.Fields[i]with⟨a1,a2⟩;rcases y.Fields[i]with⟨b1,b2⟩;simp
    by_cases hn:n=0
    ·rw[if_pos hn];exact⟨p,rfl,by rw[p3,hf];simp[h3.1 hn]⟩
    ·rw[if_neg hn];exact⟨n,rfl,by rw[hf,h3];constructor
                                  ·intro hh;exact(hn (h3.2 hh)).elim
                                  ·intro hh;exact hh.1⟩
   obtain⟨q,e1,e2⟩:=e
   rw[e1,Option.bind_some]
   obtain⟨r,h4,h5⟩:=rcmp_l19 rc x y hb h m (i+1) k q (by omega) (by omega)
   refine⟨r,h4,h5.trans ?_⟩
   rw[e2,take_cons' (List.getElem?_eq_getElem (by omega)),take_cons' (List.getElem?_eq_getElem (by omega)),List.cons.injEq]
   simp[h0]
  ·rw[decide_eq_false h0,if_neg (by simp)]
   exact⟨a,rfl,by simp[h0]⟩
theorem zif{a:Int}{e:Option Int}{P Q:Prop}(ha:a=0↔P)(h:∃n,e=some n∧(n=0↔Q)):∃n,(if a=0 then e.bind fun t=>some t else some a)=some n∧(n=0↔P∧Q):=by
 obtain⟨n,h1,h2⟩:=h
 by_cases h0:a=0
 ·rw[if_pos h0,h1];exact⟨n,rfl,by rw[h2];simp[ha.1 h0]⟩
 ·rw[if_neg h0];exact⟨a,rfl,fun hh=>(h0 hh).elim,fun hh=>ha.2 hh.1⟩
theorem rcmp_t:∀(k:Nat) (x y:TValue),wTValue x≤k→wTValue x≤4294967290→∃n,F98k k x y=some n∧(n=0↔x=y)
 |0,x,y,h,_=>by have:=wV_pos x;omega
 |k+1,x,y,h,h2=>by
  have l1:=wV_ll x
  have l2:=wV_fl x
  rw[F98k,F98]
  obtain⟨a,a1,a2⟩:=ordI_t x.Kind y.Kind
  obtain⟨b,b1,b2⟩:=zif a2 (ordI_t x.N y.N)
  obtain⟨c,c1,c2⟩:=zif b2 (ordS_t x.S y.S)
  obtain⟨d,d1,d2⟩:=rcmp_l8 (F98k k) x y (by omega) (fun z hz y=>rcmp_t k z y (by have:=wV_list hz;omega) (by have:=wV_list hz;omega)) (min x.List_.length y.List_.length) 0 1099511627776 c (by omega) (by omega)
  obtain⟨e,e1,e2⟩:=zif d2 (ordI_t (x.List_.length:Int) (y.List_.length:Int))
  obtain⟨f,f1,f2⟩:=rcmp_l19 (F98k k) x y (by omega) (fun z hz y=>rcmp_t k z.V y (by have:=wV_field hz;omega) (by have:=wV_field hz;omega)) (min x.Fields.length y.Fields.length) 0 1099511627776 e (by omega) (by omega)
  obtain⟨g,g1,g2⟩:=zif f2 (ordI_t (x.Fields.length:Int) (y.Fields.length:Int))
  rw[show((0:Nat):Int)=0 from rfl]at d1 f1
  rw[a1,Option.bind_some,b1,Option.bind_some,c1,Option.bind_some,d1,Option.bind_some,e1,Option.bind_some,f1,Option.bind_some,g1]
  refine⟨g,rfl,g2.trans ?_⟩
  rw[e2,c2,List.drop_zero,List.drop_zero,List.drop_zero,List.drop_zero]
  have t1:=eq_take (l:=x.List_) (r:=y.List_) rfl
  have t2:=eq_take (l:=x.Fields) (r:=y.Fields) rfl
  have hx:x=y↔x.Kind=y.Kind∧x.N=y.N∧x.S=y.S∧x.List_=y.List_∧x.Fields=y.Fields:=by cases x;cases y;simp
  rw[hx,t1,t2]
  constructor
  ·rintro⟨⟨⟨⟨⟨⟨h1,h2⟩,h3⟩,h4⟩,h5⟩,h6⟩,h7⟩
   exact⟨h1,h2,h3,⟨h4,by omega⟩,h6,by omega⟩
  ·rintro⟨h1,h2,h3,⟨h4,h5⟩,h6,h7⟩
   exact⟨⟨⟨⟨⟨⟨h1,h2⟩,h3⟩,h4⟩,by omega⟩,h6⟩,by omega⟩
theorem reqV_t{x:TValue}(y:TValue)(h:wTValue x≤4000000):∃b,F64 x y=some b∧(b=true↔x=y):=by
 obtain⟨n,h1,h2⟩:=rcmp_t 1099511627776 x y (by omega) (by omega)
 exact⟨decide (n=0),by rw[F64,h1];rfl,by simpa using h2⟩
theorem rsame_l2(l x1:List ByteArray)(hl:l.length=x1.length):∀(xs:List ByteArray) (i:Nat),l.drop i=xs→F97_l2 x1 xs i=some (if xs=x1.drop i then .inr ()else .inl false)
 |[],i,e=>by
  have:l.length≤i:=by simpa using e
  rw[F97_l2,List.drop_of_length_le (by omega)];simp
 |x::xs,i,e=>by
  have hi:=(List.getElem?_eq_some_iff.1 (drop_hd e)).1
  have h1:i<x1.length:=by omega
  rw[F97_l2,rdI_at h1,Option.bind_some,rsame_l2 l x1 hl xs (i+1) (drop_tl e),List.drop_eq_getElem_cons h1]
  by_cases hx:x=x1[i]<;>simp only[hx,List.cons.injEq,true_and,false_and,not_true_eq_false,not_false_eq_true,if_true,if_false,Option.map_some,decide_true,decide_false,Bool.not_true,Bool.not_false,Bool.false_eq_true]
theorem rsame_t{l:List ByteArray}(x1:List ByteArray)(hl:l.length≤4294967290):F97 l x1=some (decide (l=x1)):=by
 rw[F97]
 by_cases h:(l.length:Int)=(x1.length:Int)
 ·rw[if_neg (by simpa using h),ck_t (by omega),Option.bind_some,rsame_l2 l x1 (by omega) l 0 (List.drop_zero ..),List.drop_zero]
  by_cases hx:l=x1<;>simp[hx]
 ·rw[if_pos h]
  have:l≠x1:=fun e=>h (by rw[e])
  simp[this]
theorem rmeta_l19(m:Meta)(l:List Label)(hl:l.length=m.Labels.length):∀(xs:List Label) (i:Nat),l.drop i=xs→F63_l19 m xs i=some (if xs=m.Labels.drop i then .inr ()else .inl false)
 |[],i,e=>by
  have:l.length≤i:=by simpa using e
  rw[F63_l19,List.drop_of_length_le (by omega)];simp
 |x::xs,i,e=>by
  have hi:=(List.getElem?_eq_some_iff.1 (drop_hd e)).1
  have h1:i<m.Labels.length:=by omega
  rw[F63_l19,rdI_at h1,Option.bind_some,rmeta_l19 m l hl xs (i+1) (drop_tl e),List.drop_eq_getElem_cons h1]
  have:(x.Key=m.Labels[i].Key∧x.Value=m.Labels[i].Value)↔x=m.Labels[i]:=by obtain⟨a,b⟩:=x;rcases m.Labels[i]with⟨c,d⟩;simp
  by_cases hx:x=m.Labels[i]
  ·rw[if_neg (not_not_intro (this.2 hx))];simp only[hx,List.cons.injEq,true_and]
  ·rw[if_pos (fun hh=>hx (this.1 hh))];simp only[hx,List.cons.injEq,false_and,if_false,Option.map_some]
theorem rmeta_l24(m:Meta)(l:List Owner)(hl:l.length=m.Owners.length):∀(xs:List Owner) (i:Nat),l.drop i=xs→F63_l24 m xs i=some (if xs=m.Owners.drop i then .inr ()else .inl false)
 |[],i,e=>by
  have:l.length≤i:=by simpa using e
  rw[F63_l24,List.drop_of_length_le (by omega)];simp
 |x::xs,i,e=>by
  have hi:=(List.getElem?_eq_some_iff.1 (drop_hd e)).1
  have h1:i<m.Owners.length:=by omega
  rw[F63_l24,rdI_at h1,Option.bind_some,rmeta_l24 m l hl xs (i+1) (drop_tl e),List.drop_eq_getElem_cons h1]
  have:(decide (x.Kind=m.Owners[i].Kind)&&(decide (x.Name=m.Owners[i].Name)&&(decide (x.Uid=m.Owners[i].Uid)&&((x.Controller==m.Owners[i].Controller)&&(x.Block==m.Owners[i].Block)))))=decide (x=m.Owners[i]):=by
   obtain⟨a,b,c,d,e⟩:=x;rcases m.Owners[i]with⟨a',b',c',d',e'⟩
   rw[Bool.eq_iff_iff];simp
  rw[this,nb_not]
  by_cases hx:x=m.Owners[i]<;>simp only[hx,List.cons.injEq,true_and,false_and,not_true_eq_false,not_false_eq_true,if_true,if_false,Option.map_some,decide_true,decide_false,Bool.not_true,Bool.not_false,Bool.false_eq_true]
theorem rmeta_l29(m:Meta)(l:List Manager)(hl:l.length=m.Managers.length)(hm:∀z∈l,z.Fields.length≤4294967290):∀(xs:List Manager) (i:Nat),l.drop i=xs→F63_l29 m xs i=some (if xs=m.Managers.drop i then .inr ()else .inl false)
 |[],i,e=>by
  have:l.length≤i:=by simpa using e
  rw[F63_l29,List.drop_of_length_le (by omega)];simp
 |x::xs,i,e=>by
  have hi:=(List.getElem?_eq_some_iff.1 (drop_hd e)).1
  have h1:i<m.Managers.length:=by omega
  rw[F63_l29,rdI_at h1,Option.bind_some,rmeta_l29 m l hl hm xs (i+1) (drop_tl e),List.drop_eq_getElem_cons h1,rsame_t _ (hm x (List.mem_of_getElem? (drop_hd e)))]
  have hf:x=m.Managers[i]↔x.Name=m.Managers[i].Name∧x.Fields=m.Managers[i].Fields:=by obtain⟨a,b⟩:=x;rcases m.Managers[i]with⟨c,d⟩;simp
  have e2:(if¬x.Name=m.Managers[i].Name then some true else(some (decide (x.Fields=m.Managers[i].Fields))).bind fun t34=>some (nb t34))=some (decide (¬x=m.Managers[i])):=by
   by_cases h2:x.Name=m.Managers[i].Name<;>by_cases h3:x.Fields=m.Managers[i].Fields<;>simp[hf,h2,h3,nb_not]
  rw[e2,Option.bind_some]
  by_cases hx:x=m.Managers[i]<;>simp only[hx,List.cons.injEq,true_and,false_and,not_true_eq_false,not_false_eq_true,if_true,if_false,Option.map_some,decide_true,decide_false,Bool.not_true,Bool.not_false,Bool.false_eq_true]
theorem app_inj{a b c:ByteArray}(h:a++b=a++c):b=c:=by
 have:=congrArg (fun x:ByteArray=>x.data.toList) h
 simp only[ByteArray.data_append,Array.toList_append]at this
 have e:=List.append_cancel_left this
 obtain⟨⟨b⟩⟩:=b;obtain⟨⟨c⟩⟩:=c
 simp only at e;rw[e]
open Go Go.Fw
set_option maxRecDepth 100000
set_option linter.unusedVariables false
set_option linter.unusedSimpArgs false
theorem ne_of{α β:Type}{f:α→β}{a b:α}(h:f a≠f b):a≠b:=fun e=>h (by rw[e])
theorem rmeta_t{o p:Object}(ho:OW o)(hp:OW p):F63 o.Meta p.Meta=some (decide (o.Meta=p.Meta)):=by
 have b1:=ho.labels;have b2:=ho.owners;have b3:=ho.fins;have b4:=ho.mans;have b5:=ho.man
 rw[F63,rKeyOf_t ho.key,rKeyOf_t hp.key]
 simp only[Option.bind_some]
 generalize o.Meta=m at*
 generalize p.Meta=m' at*
 by_cases h0:keyB m=keyB m'
 rotate_left
 ·rw[if_pos h0];simp[ne_of h0]
 rw[if_neg (not_not_intro h0)]
 by_cases h1:m.Kind=m'.Kind
 rotate_left
 ·rw[if_pos h1];simp[ne_of h1]
 rw[if_neg (not_not_intro h1)]
 by_cases h2:m.Namespace=m'.Namespace
 rotate_left
 ·rw[if_pos h2];simp[ne_of h2]
 rw[if_neg (not_not_intro h2)]
 by_cases h3:m.Uid=m'.Uid
 rotate_left
 ·rw[if_pos h3];simp[ne_of h3]
 rw[if_neg (not_not_intro h3)]
 by_cases h4:m.Version=m'.Version
 rotate_left
 ·rw[if_pos h4];simp[ne_of h4]
 rw[if_neg (not_not_intro h4)]
 by_cases h5:m.Generation=m'.Generation
 rotate_left
 ·rw[if_pos h5];simp[ne_of h5]
 rw[if_neg (not_not_intro h5)]
 by_cases h6:m.Created=m'.Created
 rotate_left
 ·rw[if_pos h6];simp[ne_of h6]
 rw[if_neg (not_not_intro h6)]
 by_cases h7:m.Deleting=m'.Deleting
 rotate_left
 ·rw[if_pos (by cases hh:m.Deleting<;>cases hk:m'.Deleting<;>simp_all)];simp[ne_of h7]
 rw[if_neg (by rw[h7];simp)]
 by_cases h8:m.DeleteAt=m'.DeleteAt
 rotate_left
 ·rw[decide_eq_true h8];simp[ne_of h8]
 rw[decide_eq_false (not_not_intro h8)]
 simp only[Option.bind_some,Bool.false_eq_true,if_false]
 by_cases g1:(m.Labels.length:Int)=(m'.Labels.length:Int)
 rotate_left
 ·rw[if_pos g1];simp[ne_of (f:=fun m:Meta=>(m.Labels.length:Int)) g1]
 rw[if_neg (not_not_intro g1)]
 by_cases g2:(m.Owners.length:Int)=(m'.Owners.length:Int)
 rotate_left
 ·rw[if_pos g2];simp[ne_of (f:=fun m:Meta=>(m.Owners.length:Int)) g2]
 rw[if_neg (not_not_intro g2)]
 by_cases g3:(m.Managers.length:Int)=(m'.Managers.length:Int)
 rotate_left
 ·rw[if_pos g3];simp[ne_of (f:=fun m:Meta=>(m.Managers.length:Int)) g3]
 rw[if_neg (not_not_intro g3),rsame_t _ (by omega)]
 simp only[Option.bind_some,nb_not]
 by_cases g4:m.Finalizers=m'.Finalizers
 rotate_left
 ·simp only[g4,decide_false,Bool.not_false,if_true];simp[ne_of g4]
 simp only[g4,decide_true,Bool.not_true,Bool.false_eq_true,if_false]
 rw[ck_t (by omega),ck_t (by omega),ck_t (by omega)]
 simp only[Option.bind_some]
 rw[rmeta_l19 m' m.Labels (by omega) m.Labels 0 (List.drop_zero ..),rmeta_l24 m' m.Owners (by omega) m.Owners 0 (List.drop_zero ..),rmeta_l29 m' m.Managers (by omega) (fun z hz=>by have:=b5 z hz;omega) m.Managers 0 (List.drop_zero ..)]
 simp only[List.drop_zero,Option.bind_some]
 by_cases k1:m.Labels=m'.Labels
 rotate_left
 ·simp only[k1,if_false];simp[ne_of k1]
 simp only[k1,if_true]
 by_cases k2:m.Owners=m'.Owners
 rotate_left
 ·simp only[k2,if_false];simp[ne_of k2]
 simp only[k2,if_true]
 by_cases k3:m.Managers=m'.Managers
 rotate_left
 ·simp only[k3,if_false];simp[ne_of k3]
 simp only[k3,if_true]
 have h9:m.Name=m'.Name:=by
  unfold keyB at h0
  rw[h1,h2]at h0
  exact app_inj h0
 have:m=m':=by
  obtain⟨a1,a2,a3,a4,a5,a6,a7,a8,a9,a10,a11,a12,a13⟩:=m
  obtain⟨c1,c2,c3,c4,c5,c6,c7,c8,c9,c10,c11,c12,c13⟩:=m'
  simp only at*
  simp only[Meta.mk.injEq]
  exact⟨h1,h2,h9,h3,h4,h5,h6,h7,h8,k1,k2,g4,k3⟩
 simp[this]
theorem reqO_t{o p:Object}(ho:OW o)(hp:OW p):∃b,F24 o p=some b∧(b=true↔o=p):=by
 obtain⟨a,a1,a2⟩:=reqV_t p.Spec ho.spec
 obtain⟨c,c1,c2⟩:=reqV_t p.Status ho.status
 rw[F24,rmeta_t ho hp,a1,c1]
 have hx:o=p↔o.Meta=p.Meta∧o.Spec=p.Spec∧o.Status=p.Status:=by cases o;cases p;simp
 rw[hx]
 simp only[Option.bind_some]
 by_cases h1:o.Meta=p.Meta
 ·cases a
  ·refine⟨false,by simp[h1],?_⟩
   constructor
   ·intro h;cases h
   ·rintro⟨_,h2,_⟩;exact a2.2 h2
  ·refine⟨c,by simp[h1],?_⟩
   rw[c2];exact⟨fun h=>⟨h1,a2.1 rfl,h⟩,fun h=>h.2.2⟩
 ·exact⟨false,by simp[h1],by simp[h1]⟩
theorem reqO_self{o:Object}(ho:OW o):F24 o o=some true:=by
 obtain⟨b,h1,h2⟩:=reqO_t ho ho
 rw[h1,h2.2 rfl]
theorem reql_l1(l:List Object)(h:∀o∈l,OW o)(hl:l.length≤4000000):∀(m i k:Nat),l.length=i+m→m<k→F27_l1 l l k (i:Int)=some (.inr ())
 |0,i,k+1,h1,_=>by
  rw[F27_l1,if_neg (by omega)];rfl
 |m+1,i,k+1,h1,h2=>by
  rw[F27_l1,if_pos (by omega),decide_eq_true (by omega),Option.bind_some,if_pos rfl,rdI_at (by omega),Option.bind_some,Option.bind_some,reqO_self (h _ (List.getElem_mem _)),wrapN (by omega)]
  simp only[Option.bind_some,show nb true=false from rfl,Bool.false_eq_true,if_false]
  exact reql_l1 l h hl m (i+1) k (by omega) (by omega)
theorem reql_self{l:List Object}(h:∀o∈l,OW o)(hl:l.length≤4000000):F27 l l=some true:=by
 have:=reql_l1 l h hl l.length 0 1099511627776 (by omega) (by omega)
 rw[show((0:Nat):Int)=0 from rfl]at this
 rw[F27,this];simp
theorem rsameS_l10(s:TStore)(h:∀c∈s.History,OW c.Object):∀(xs:List Change) (i:Nat),s.History.drop i=xs→F15_l10 s xs i=some (.inr ())
 |[],i,_=>by rw[F15_l10]
 |x::xs,i,e=>by
  have hx:=drop_hd e
  rw[F15_l10,rdI_val hx]
  simp only[Option.bind_some,not_true_eq_false,if_false]
  rw[reqO_self (h x (List.mem_of_getElem? hx))]
  simp only[Option.bind_some,show nb true=false from rfl,Bool.false_eq_true,if_false]
  exact rsameS_l10 s h xs (i+1) (drop_tl e)
theorem rsameS_self{s:TStore}(h:SW s):F15 s s=some true:=by
 have:=h.hl
 rw[F15]
 simp only[not_true_eq_false,if_false]
 rw[reql_self h.base h.bl,reql_self h.objs h.ol]
 simp only[Option.bind_some,show nb true=false from rfl,Bool.false_eq_true,if_false]
 rw[ck_t (by omega),Option.bind_some,rsameS_l10 s h.hist _ 0 (List.drop_zero ..)]
 rfl
open Go Go.Fw
set_option maxRecDepth 100000
set_option linter.unusedVariables false
set_option linter.unusedSimpArgs false
def restC(m:Meta):Option Bool:=(((F103 m.Kind).bind fun t6=>(if t6=true then(F104 m.Namespace).bind fun t8=>(if t8=true then(F105 m.Name).bind fun t10=>(if t10=true then(F106 m.Labels).bind fun t12=>(if t12=true then(F107 m.Owners).bind fun t14=>(if t14=true then(F108 m.Finalizers).bind fun t16=>(if t16=true then(F109 m.Managers).bind fun t18=>some t18 else some false)else some false)else some false)else some false)else some false)else some false)).bind fun o5=>some o5)
def num(m:Meta):Prop:=0≤m.Uid∧0≤m.Version∧0≤m.Generation∧0≤m.Created∧0≤m.DeleteAt∧(m.Deleting=true∨m.DeleteAt=0)
instance(m:Meta):Decidable (num m):=by unfold num;exact inferInstance
theorem mn(a b:Int):(if b<a then b else a)<0↔a<0∨b<0:=by split<;>omega
theorem mvalid_eq(m:Meta):F79 m=if num m then restC m else some false:=by
 rw[F79]
 simp only[mn]
 have e:(if(((m.Uid<0∨m.Version<0)∨m.Generation<0)∨m.Created<0)∨m.DeleteAt<0 then some true else(if(nb m.Deleting)=true then some (decide (¬(m.DeleteAt=0)))else some false))=some (decide (¬num m)):=by
  unfold num
  rw[nb_not]
  by_cases h:(((m.Uid<0∨m.Version<0)∨m.Generation<0)∨m.Created<0)∨m.DeleteAt<0
  ·rw[if_pos h]
   have:¬(0≤m.Uid∧0≤m.Version∧0≤m.Generation∧0≤m.Created∧0≤m.DeleteAt∧(m.Deleting=true∨m.DeleteAt=0)):=by omega
   rw[decide_eq_true this]
  ·rw[if_neg h]
   have h1:0≤m.Uid∧0≤m.Version∧0≤m.Generation∧0≤m.Created∧0≤m.DeleteAt:=by omega
   by_cases hd:m.Deleting=true<;>by_cases h2:m.DeleteAt=0<;>simp[h1.1,h1.2.1,h1.2.2.1,h1.2.2.2.1,h1.2.2.2.2,hd,h2]
 rw[e]
 by_cases h:num m
 ·rw[decide_eq_false (not_not_intro h),if_pos h];rfl
 ·rw[decide_eq_true h,if_neg h];rfl
def rest(o:Object):Prop:=restC o.Meta=some true∧F80 o.Spec=some true∧F80 o.Status=some true
theorem okO_iff{o:Object}(h:OW o):okO o=true↔num o.Meta∧rest o:=by
 have h0:=okO_t h
 obtain⟨a,ha⟩:=mValid_ex h
 obtain⟨b,hb⟩:=vValid_ex o.Spec h.spec
 obtain⟨c,hc⟩:=vValid_ex o.Status h.status
 rw[F38,ha,hb,hc]at h0
 unfold rest
 rw[hb,hc]
 rw[mvalid_eq]at ha
 have hv:okO o=(a&&(b&&c)):=by
  cases a<;>cases b<;>cases c<;>simp at h0<;>simp[←h0]
 rw[hv]
 by_cases hn:num o.Meta
 ·rw[if_pos hn]at ha
  rw[ha];simp[hn]
 ·rw[if_neg hn]at ha
  cases ha
  simp[hn]
theorem rest_meta{o:Object}(h:rest o)(u v g c:Int)(dl:Bool)(da:Int):rest ⟨⟨o.Meta.Kind,o.Meta.Namespace,o.Meta.Name,u,v,g,c,dl,da,o.Meta.Labels,o.Meta.Owners,o.Meta.Finalizers,o.Meta.Managers⟩,o.Spec,o.Status⟩:=h
def OV(rev next:Int)(o:Object):Prop:=okO o=true∧1≤o.Meta.Uid∧o.Meta.Uid<next∧1≤o.Meta.Generation∧o.Meta.Generation≤o.Meta.Version∧o.Meta.Version≤rev
theorem OV.mono{r n r' n':Int}{o:Object}(h:OV r n o)(hr:r≤r')(hn:n≤n'):OV r' n' o:=by
 obtain⟨h1,h2,h3,h4,h5,h6⟩:=h
 exact⟨h1,h2,by omega,h4,h5,by omega⟩
def Dist(l:List Object):Prop:=l.Pairwise fun a b=>a.Meta.Uid≠b.Meta.Uid
def pre(s:TStore)(k:Nat):List Object:=(s.History.take k).foldl repS s.Base
structure HV(s:TStore)(i:Nat)(c:Change):Prop where
 rev:c.Rev=s.Floor+1+i
 ver:c.Object.Meta.Version=c.Rev
 kind:c.Kind=1∨c.Kind=2
 ov:OV (s.Floor+1+i) s.NextUid c.Object
 has:c.Kind=2→hasC (cO (keyO c.Object)) (pre s i)=true
structure Inv2(s:TStore):Prop where
 b:∀o∈s.Base,OV s.Floor s.NextUid o
 h:∀(i:Nat) (c:Change),s.History[i]? =some c→HV s i c
 d:∀k,k≤s.History.length→Dist (pre s k)
theorem pre_succ{s:TStore}{k:Nat}{c:Change}(h:s.History[k]? =some c):pre s (k+1)=repS (pre s k) c:=by
 unfold pre
 obtain⟨h1,h2⟩:=List.getElem?_eq_some_iff.1 h
 rw[List.take_add_one,h,List.foldl_append];rfl
theorem pre_ov{s:TStore}(h:Inv2 s):∀k,k≤s.History.length→∀o∈pre s k,OV (s.Floor+k) s.NextUid o
 |0,_,o,ho=>by
  have:=h.b o (by unfold pre at ho;simpa using ho)
  exact this.mono (by omega) (by omega)
 |k+1,hk,o,ho=>by
  have hc:s.History[k]? =some s.History[k]:=List.getElem?_eq_getElem (by omega)
  rw[pre_succ hc]at ho
  rcases rep_mem ho with h1|h1
  ·exact(pre_ov h k (by omega) o h1).mono (by omega) (by omega)
  ·rw[h1];exact((h.h k _ hc).ov).mono (by omega) (by omega)
theorem pre_all{n:Nat}{s:TStore}(hi:Inv n s):pre s s.History.length=s.Objects:=by
 unfold pre;rw[List.take_length];exact hi.rp
theorem obj_ov{n:Nat}{s:TStore}(hi:Inv n s)(h:Inv2 s):(∀o∈s.Objects,OV s.Rev s.NextUid o)∧Dist s.Objects:=by
 rw[←pre_all hi]
 refine⟨fun o ho=>(pre_ov h _ (Nat.le_refl _) o ho).mono (by have:=hi.hl;omega) (by omega),h.d _ (Nat.le_refl _)⟩
theorem insC_perm(c:Object→Int)(x:Object):∀l:List Object,(insC c x l).Perm (x::l)
 |[]=>List.Perm.refl _
 |y::l=>by
  unfold insC
  split
  ·exact((insC_perm c x l).cons y).trans (List.Perm.swap x y l)
  ·exact List.Perm.refl _
theorem rep_dist{l:List Object}{c:Change}(h:Dist l)(hc:c.Kind≠2→∀y∈l,keyO y≠keyO c.Object→c.Object.Meta.Uid≠y.Meta.Uid):Dist (repS l c):=by
 unfold repS
 split
 ·exact h.filter _
 ·rename_i h2
  refine((insC_perm _ _ _).pairwise_iff (fun hh=>Ne.symm hh)).2 (List.pairwise_cons.2 ⟨fun y hy=>?_,h.filter _⟩)
  exact hc h2 y (rm_mem.1 hy).1 (rm_mem.1 hy).2
theorem commit_inv2{n:Nat}{s:TStore}(hi:Inv n s)(h:Inv2 s){kind:Int}{o:Object}{nu:Int}(hnu:s.NextUid≤nu)(hk:kind=1∨kind=2)(hv:OV (s.Rev+1) nu o)(hver:o.Meta.Version=s.Rev+1)
 (h1:kind=1→∀y∈s.Objects,keyO y≠keyO o→o.Meta.Uid≠y.Meta.Uid) (h2:kind=2→hasC (cO (keyO o)) s.Objects=true):
 Inv2 ⟨s.Rev+1,s.Floor,nu,s.Base,repS s.Objects ⟨s.Rev+1,kind,o⟩,s.History++[⟨s.Rev+1,kind,o⟩]⟩:=by
 have hl:=hi.hl
 have hpre:∀k,k≤s.History.length→pre ⟨s.Rev+1,s.Floor,nu,s.Base,repS s.Objects ⟨s.Rev+1,kind,o⟩,s.History++[⟨s.Rev+1,kind,o⟩]⟩ k=pre s k:=fun k hk=>by
  unfold pre;rw[show((⟨s.Rev+1,s.Floor,nu,s.Base,repS s.Objects ⟨s.Rev+1,kind,o⟩,s.History++[⟨s.Rev+1,kind,o⟩]⟩:TStore).History.take k)=s.History.take k from List.take_append_of_le_length hk]
 have hall:=pre_all hi
 have hd:=(obj_ov hi h).2
 refine⟨fun x hx=>(h.b x hx).mono (Int.le_refl _) hnu,fun i c hc=>?_,fun k hk2=>?_⟩
 ·rcases Nat.lt_or_ge i s.History.length with hlt|hge
  ·have hc':s.History[i]? =some c:=by rw[←List.getElem?_append_left hlt];exact hc
   have hh:=h.h i c hc'
   exact⟨hh.rev,hh.ver,hh.kind,hh.ov.mono (Int.le_refl _) hnu,fun h3=>by rw[hpre i (by omega)];exact hh.has h3⟩
  ·have hi2:i=s.History.length:=by
    have:=(List.getElem?_eq_some_iff.1 hc).1
    have e:((⟨s.Rev+1,s.Floor,nu,s.Base,repS s.Objects ⟨s.Rev+1,kind,o⟩,s.History++[⟨s.Rev+1,kind,o⟩]⟩:TStore).History).length=s.History.length+1:=by simp
    omega
   subst hi2
   have:c=⟨s.Rev+1,kind,o⟩:=by
    have h3:(s.History++[(⟨s.Rev+1,kind,o⟩:Change)])[s.History.length]? =some c:=hc
    simpa using h3.symm
   subst this
   refine⟨by show s.Rev+1=s.Floor+1+(s.History.length:Int);omega,hver,hk,hv.mono (by show s.Rev+1≤s.Floor+1+(s.History.length:Int);omega) (Int.le_refl _),fun h3=>?_⟩
   rw[hpre _ (Nat.le_refl _),hall]
   exact h2 h3
 ·rcases Nat.lt_or_ge s.History.length k with hlt|hge
  ·have hk3:k=s.History.length+1:=by
    have e:((⟨s.Rev+1,s.Floor,nu,s.Base,repS s.Objects ⟨s.Rev+1,kind,o⟩,s.History++[⟨s.Rev+1,kind,o⟩]⟩:TStore).History).length=s.History.length+1:=by simp
    omega
   subst hk3
   rw[pre_succ (c:=⟨s.Rev+1,kind,o⟩) (by show(s.History++[(⟨s.Rev+1,kind,o⟩:Change)])[s.History.length]? =_;simp),hpre _ (Nat.le_refl _),hall]
   refine rep_dist hd fun h3=>h1 ?_
   exact hk.resolve_right h3
  ·rw[hpre k hge];exact h.d k hge
open Go Go.Fw
set_option maxRecDepth 100000
set_option linter.unusedVariables false
set_option linter.unusedSimpArgs false
theorem create_inv2{n:Nat}{s:TStore}(hi:Inv n s)(h:Inv2 s)(hn:n≤400){o:Object}(ho:OW o)(now:Int):Inv2 (createS s o now).1:=by
 unfold createS
 split
 ·exact h
 rename_i g1
 split
 ·exact h
 rename_i g2
 simp only[not_or,Bool.not_eq_false]at g1
 have hu:=hi.u1;have hr:=hi.fr;have hf:=hi.fl
 obtain⟨h1,h2⟩:=(okO_iff ho).1 g1.1
 have hov:=(obj_ov hi h).1
 refine commit_inv2 hi h (kind:=1) (o:=newO s o now) (nu:=s.NextUid+1) (by omega) (.inl rfl) ⟨?_,?_,?_,?_,?_,?_⟩ rfl (fun _ y hy _=>?_) (fun h=>by cases h)
 ·exact(okO_iff (OW_meta ho _ _ _ _ _ _)).2 ⟨⟨by show 0≤s.NextUid;omega,by show 0≤s.Rev+1;omega,by show(0:Int)≤1;omega,by show 0≤now;omega,Int.le_refl _,.inr rfl⟩,rest_meta h2 _ _ _ _ _ _⟩
 ·show 1≤s.NextUid;omega
 ·show s.NextUid<s.NextUid+1;omega
 ·show(1:Int)≤1;omega
 ·show(1:Int)≤s.Rev+1;omega
 ·show s.Rev+1≤s.Rev+1;omega
 ·have:=(hov y hy).2.2.1
  show s.NextUid≠y.Meta.Uid;omega
theorem upd_ov{n:Nat}{s:TStore}(hi:Inv n s)(h:Inv2 s)(hn:n≤400){o old:Object}(ho:OW o)(hok:okO o=true)(hold:old∈s.Objects):OV (s.Rev+1) s.NextUid (withV (updO s o old) (s.Rev+1)):=by
 obtain⟨h1,h2⟩:=(okO_iff ho).1 hok
 have hov:=(obj_ov hi h).1 old hold
 obtain⟨k1,k2,k3,k4,k5,k6⟩:=hov
 have hnum:=((okO_iff (hi.oo old hold)).1 k1).1
 have hr:=hi.rv;have hf:=hi.fl;have hfr:=hi.fr
 have hg:1≤(updO s o old).Meta.Generation∧(updO s o old).Meta.Generation≤s.Rev+1:=by
  unfold updO
  simp only
  split
  ·omega
  ·rw[wrapI (by omega) (by omega)];omega
 have hu:OW (updO s o old):=OW_meta ho _ _ _ _ _ _
 refine⟨(okO_iff (OW_meta hu _ _ _ _ _ _)).2 ⟨⟨hnum.1,by show 0≤s.Rev+1;omega,by show 0≤(updO s o old).Meta.Generation;omega,hnum.2.2.2.1,h1.2.2.2.2.1,h1.2.2.2.2.2⟩,h2⟩,k2,k3,hg.1,hg.2,Int.le_refl _⟩
theorem dist_ne{l:List Object}(h:Dist l){x y:Object}(hx:x∈l)(hy:y∈l)(hne:x≠y):x.Meta.Uid≠y.Meta.Uid:=by
 induction l with
 |nil=>cases hx
 |cons a l ih=>
  have h2:=List.pairwise_cons.1 h
  rcases List.mem_cons.1 hx with e1|h1<;>rcases List.mem_cons.1 hy with e2|h3
  ·exact(hne (e1.trans e2.symm)).elim
  ·rw[e1];exact h2.1 y h3
  ·rw[e2];exact(h2.1 x h1).symm
  ·exact ih h2.2 h1 h3
theorem update_inv2{n:Nat}{s:TStore}(hi:Inv n s)(h:Inv2 s)(hn:n≤400){o:Object}(ho:OW o):Inv2 (updateS s o).1:=by
 unfold updateS
 split
 ·exact h
 rename_i g1
 split
 ·exact h
 ·rename_i old hg
  split
  ·exact h
  split
  ·exact h
  obtain⟨hm,hk⟩:=get_mem hg
  refine commit_inv2 hi h (kind:=1) (o:=withV (updO s o old) (s.Rev+1)) (nu:=s.NextUid) (Int.le_refl _) (.inl rfl) (upd_ov hi h hn ho (by simpa using g1) hm) rfl (fun _ y hy hne=>?_) (fun h=>by cases h)
  show old.Meta.Uid≠y.Meta.Uid
  refine dist_ne (obj_ov hi h).2 hm hy fun e=>hne ?_
  rw[←e,hk];rfl
theorem delete_inv2{n:Nat}{s:TStore}(hi:Inv n s)(h:Inv2 s)(hn:n≤400)(k:ByteArray)(v:Int):Inv2 (deleteS s k v).1:=by
 unfold deleteS
 split
 ·exact h
 ·rename_i old hg
  split
  ·exact h
  obtain⟨hm,hk⟩:=get_mem hg
  have hold:=hi.oo old hm
  obtain⟨k1,k2,k3,k4,k5,k6⟩:=(obj_ov hi h).1 old hm
  have hnum:=(okO_iff hold).1 k1
  have hr:=hi.rv;have hf:=hi.fl;have hfr:=hi.fr
  refine commit_inv2 hi h (kind:=2) (o:=withV old (s.Rev+1)) (nu:=s.NextUid) (Int.le_refl _) (.inr rfl) ⟨(okO_iff (OW_meta hold _ _ _ _ _ _)).2 ⟨⟨hnum.1.1,by show 0≤s.Rev+1;omega,hnum.1.2.2⟩,hnum.2⟩,k2,k3,k4,by show old.Meta.Generation≤s.Rev+1;omega,Int.le_refl _⟩ rfl (fun h=>by cases h) (fun _=>?_)
  have:keyO (withV old (s.Rev+1))=k:=hk
  rw[this,get_has,hg];rfl
theorem comp_pre{s:TStore}(rev:Int)(j:Nat):pre (compS s rev) j=pre s ((rev-s.Floor).toNat+j):=by
 unfold pre
 show((s.History.drop _).take j).foldl repS ((s.History.take _).foldl repS s.Base)=_
 rw[←List.foldl_append,List.take_add]
theorem comp_inv2{n:Nat}{s:TStore}(hi:Inv n s)(h:Inv2 s){rev:Int}(h1:s.Floor≤rev)(h2:rev≤s.Rev):Inv2 (compS s rev):=by
 have hl:=hi.hl
 have hlen:(compS s rev).History.length=s.History.length-(rev-s.Floor).toNat:=List.length_drop ..
 refine⟨fun o ho=>?_,fun i c hc=>?_,fun k hk=>?_⟩
 ·have:o∈pre s (rev-s.Floor).toNat:=ho
  exact(pre_ov h _ (by omega) o this).mono (by show _≤rev;omega) (Int.le_refl _)
 ·have hc':s.History[(rev-s.Floor).toNat+i]? =some c:=by
   have:(s.History.drop (rev-s.Floor).toNat)[i]? =some c:=hc
   rwa [List.getElem?_drop]at this
  have hh:=h.h _ c hc'
  refine⟨by have:=hh.rev;show c.Rev=rev+1+i;omega,hh.ver,hh.kind,hh.ov.mono (by show _≤rev+1+(i:Int);omega) (Int.le_refl _),fun h3=>?_⟩
  rw[comp_pre];exact hh.has h3
 ·rw[comp_pre];exact h.d _ (by omega)
theorem step_inv2{n:Nat}{s:TStore}(hi:Inv n s)(h:Inv2 s)(hn:n≤400){op:TOp}(ho:OW op.O):Inv2 (stepS s op).1:=by
 unfold stepS
 split
 ·exact create_inv2 hi h hn ho _
 split
 ·exact update_inv2 hi h hn (OW_meta ho _ _ _ _ _ _)
 split
 ·exact delete_inv2 hi h hn _ _
 ·show Inv2 (compactS s op.Rev).1
  unfold compactS
  split
  ·exact h
  ·exact comp_inv2 hi h (by omega) (by omega)
theorem inv20:Inv2 S0 where
 b:=by intro o h;cases h
 h:=by intro i c hc;simp[S0]at hc
 d:=by intro k hk;unfold pre S0;simp[Dist]
theorem play_inv2:∀{l:List TOp} {n:Nat} {s:TStore},Inv n s→Inv2 s→n+l.length≤400→(∀op∈l,OW op.O)→Inv2 (playS s l)
 |[],n,s,_,h,_,_=>h
 |op::l,n,s,hi,h,hn,ho=>by
  have h1:=ho op (List.mem_cons_self ..)
  simp only[List.length_cons]at hn
  exact play_inv2 (l:=l) (step_inv hi h1).1 (step_inv2 hi h (by omega) h1) (by omega) fun o hx=>ho o (List.mem_cons_of_mem _ hx)
open Go Go.Fw
set_option maxRecDepth 100000
set_option linter.unusedVariables false
set_option linter.unusedSimpArgs false
theorem pre_ow{n:Nat}{s:TStore}(hi:Inv n s)(k:Nat):Sorted (pre s k)∧(∀o∈pre s k,OW o)∧(pre s k).length≤s.Base.length+k:=
 ⟨fold_sorted hi.sb,fold_keep OW hi.ob (fun c hc=>hi.oh c (List.mem_of_mem_take hc)),Nat.le_trans (fold_len _ _) (by rw[List.length_take];omega)⟩
theorem At_t{n:Nat}{s:TStore}(hi:Inv n s)(hn:n≤400){rev:Int}(h1:s.Floor≤rev)(h2:rev≤s.Rev):F25 s rev=some (atL s rev,0):=by
 have hr:=hi.rv;have hf:=hi.fl;have hlb:=hi.lb
 obtain⟨p1,p2,p3⟩:=atL_keep hi rev
 rw[F25,if_neg (by omega),decide_eq_false (by omega)]
 simp only[Option.bind_some,Bool.false_eq_true,if_false]
 rw[if_neg (by omega),at_t hi (by omega) h1 h2,Option.bind_some,cloneAll_t p2 (by omega)]
 rfl
theorem At_over{s:TStore}{rev:Int}(h:rev<0∨s.Rev<rev):F25 s rev=some ([],5):=by
 rw[F25]
 have:(if rev<0 then some true else some (decide (s.Rev<rev)))=some true:=by
  by_cases g:rev<0
  ·rw[if_pos g]
  ·rw[if_neg g,decide_eq_true (h.resolve_left g)]
 rw[this];rfl
theorem At_under{s:TStore}{rev:Int}(h:0≤rev)(h2:rev≤s.Rev)(h3:rev<s.Floor):F25 s rev=some ([],10):=by
 rw[F25,if_neg (by omega),decide_eq_false (by omega)]
 simp only[Option.bind_some,Bool.false_eq_true,if_false]
 rw[if_pos h3]
open Go Go.Fw
set_option maxRecDepth 100000
set_option linter.unusedVariables false
set_option linter.unusedSimpArgs false
theorem char_eq(n:Int):F136 n=F144 n:=rfl
theorem rkey_l8(s:ByteArray):∀(k:Nat) (i:Int),F117_l8 s k i=F130_l8 s k i
 |0,i=>by rw[F117_l8,F130_l8]
 |k+1,i=>by rw[F117_l8,F130_l8];simp only[rkey_l8 s k,char_eq]
theorem rkey_eq(s:ByteArray):F117 s=F130 s:=by
 rw[F117,F130]
 simp only[rkey_l8]
 by_cases h:s=(⟨#[]⟩:ByteArray)
 ·rw[if_pos h,if_pos (by rw[h];decide)]<;>rfl
 ·have:=size_ne h
  rw[if_neg h,if_neg (by omega)]
  all_goals rfl
theorem rval_l2(s:ByteArray):∀(k:Nat) (i:Int),F118_l2 s k i=F131_l2 s k i
 |0,i=>by rw[F118_l2,F131_l2]
 |k+1,i=>by rw[F118_l2,F131_l2];simp only[rval_l2 s k,char_eq]
theorem rval_eq(s:ByteArray):F118 s=F131 s:=by
 rw[F118,F131]
 simp only[rval_l2]
 all_goals first
  |rfl
  |(split<;>rfl)
theorem rlab_l2(l:List Label):∀(xs:List Label) (i:Nat),F85_l2 l xs i=F106_l2 l xs i
 |[],i=>by rw[F85_l2,F106_l2]
 |x::xs,i=>by
  rw[F85_l2,F106_l2]
  simp only[rlab_l2 l xs,rkey_eq,rval_eq,nb_bl,le_of]
theorem rlab_eq(l:List Label):F85 l=F106 l:=by
 rw[F85,F106]
 simp only[rlab_l2]
 all_goals first
  |rfl
  |(split<;>rfl)
def LB(r:Bool ⊕ Unit):Prop:=r= .inl false∨r= .inr ()
theorem stepLB{c:Option Bool}{e:Option (Bool ⊕ Unit)}(hc:∃b,c=some b)(he:∃r,e=some r∧LB r):∃r,(c.bind fun o=>if o=true then(some false).map Sum.inl else e)=some r∧LB r:=by
 obtain⟨b,hb⟩:=hc
 rw[hb]
 cases b
 ·exact he
 ·exact⟨.inl false,rfl,.inl rfl⟩
theorem nameLB(s:ByteArray)(hs:s.size≤4294967290):∀(n i k:Nat),s.size=i+n→n<k→∃r,F105_l1 s k (i:Int)=some r∧LB r
 |0,i,k+1,h,_=>by rw[F105_l1,if_neg (by omega)];exact⟨_,rfl,.inr rfl⟩
 |n+1,i,k+1,h,hk=>by
  obtain⟨y,hy⟩:=byI_ex (b:=s) (i:=(i:Int)) (by omega) (by omega)
  rw[F105_l1,if_pos (by omega),wrapN (by omega),hy,Option.bind_some]
  exact stepLB (by repeat'(first|exact⟨_,rfl⟩|exact exck (by omega)|exact byI_ex (by omega) (by omega)|exact rdI_ex (by omega) (by omega)|exact apI_ex (by omega)|with_reducible refine exif (fun _=>?_) (fun _=>?_)|with_reducible refine exb ?_ (fun _ _=>?_)|with_reducible refine exmap ?_|split)) (nameLB s hs n (i+1) k (by omega) (by omega))
theorem rname_l8(s:ByteArray):∀(k:Nat) (i:Int),F84_l8 s k i=F105_l1 s k i
 |0,i=>by rw[F84_l8,F105_l1]
 |k+1,i=>by
  rw[F84_l8,F105_l1]
  simp only[rname_l8 s k]
  by_cases hi:i<(s.size:Int)
  ·rw[if_pos hi,if_pos hi]
   cases hb:byI s i with
   |none=>rfl
   |some y=>
    simp only[Option.bind_some]
    by_cases a1:97≤y<;>by_cases a2:y≤122<;>by_cases a3:48≤y<;>by_cases a4:y≤57<;>by_cases a5:y=45<;>simp[a1,a2,a3,a4,a5]
  ·rw[if_neg hi,if_neg hi]
theorem rname_eq(s:ByteArray)(hs:s.size≤4294967290):F84 s=F105 s:=by
 obtain⟨r,h1,h2⟩:=nameLB s hs s.size 0 1099511627776 (by omega) (by omega)
 rw[show((0:Nat):Int)=0 from rfl]at h1
 rw[F84,F105,rname_l8,h1]
 simp only[Option.bind_some]
 by_cases h:s=(⟨#[]⟩:ByteArray)
 ·have hz:s.size=0:=by rw[h];rfl
  rw[if_pos h]
  rcases h2 with rfl|rfl
  ·rfl
  ·simp only[Option.bind_some,if_true];rw[if_neg (by omega)];rfl
 have hp:=size_ne h
 rw[if_neg h]
 by_cases h4:40<(s.size:Int)
 ·rw[if_pos h4]
  rcases h2 with rfl|rfl
  ·rfl
  ·simp only[Option.bind_some,if_true];rw[if_pos (by omega),if_neg (by omega)];rfl
 rw[if_neg h4]
 obtain⟨y,hy⟩:=byI_ex (b:=s) (i:=0) (by omega) (by omega)
 obtain⟨z,hz⟩:=byI_ex (b:=s) (i:=IntKind.i64.wrap ((s.size:Int)-1)) (by rw[wr_p (by omega) (by omega)];omega) (by rw[wr_p (by omega) (by omega)];omega)
 rw[hy,hz,if_pos (show 1≤(s.size:Int)by omega),if_pos (show(s.size:Int)≤40 by omega)]
 rcases h2 with rfl|rfl<;>by_cases a1:y=45<;>by_cases a2:z=45<;>simp[a1,a2]
theorem kindLB(s:ByteArray)(hs:s.size≤4294967290):∀(n i k:Nat),s.size=i+n→n<k→∃r,F103_l1 s k (i:Int)=some r∧LB r
 |0,i,k+1,h,_=>by rw[F103_l1,if_neg (by omega)];exact⟨_,rfl,.inr rfl⟩
 |n+1,i,k+1,h,hk=>by
  obtain⟨y,hy⟩:=byI_ex (b:=s) (i:=(i:Int)) (by omega) (by omega)
  rw[F103_l1,if_pos (by omega),wrapN (by omega),hy,Option.bind_some]
  exact stepLB (by repeat'(first|exact⟨_,rfl⟩|exact exck (by omega)|exact byI_ex (by omega) (by omega)|exact rdI_ex (by omega) (by omega)|exact apI_ex (by omega)|with_reducible refine exif (fun _=>?_) (fun _=>?_)|with_reducible refine exb ?_ (fun _ _=>?_)|with_reducible refine exmap ?_|split)) (kindLB s hs n (i+1) k (by omega) (by omega))
theorem rkind_l8(s:ByteArray)(hs:s.size≤4294967290):∀(k:Nat) (i:Int),0<i→i≤4294967291→F83_l8 s k i=F103_l1 s k i
 |0,i,_,_=>by rw[F83_l8,F103_l1]
 |k+1,i,h0,h1=>by
  rw[F83_l8,F103_l1]
  by_cases hi:i<(s.size:Int)
  ·rw[if_pos hi,if_pos hi,wrapI (n:=i+1) (by omega) (by omega),rkind_l8 s hs k (i+1) (by omega) (by omega)]
   cases hb:byI s i with
   |none=>rfl
   |some y=>
    simp only[Option.bind_some]
    by_cases a1:97≤y<;>by_cases a2:y≤122<;>by_cases a3:65≤y<;>by_cases a4:y≤90<;>simp only[h0,a1,a2,a3,a4,if_true,if_false,Option.bind_some,not_true_eq_false,not_false_eq_true,decide_true,decide_false,Bool.false_eq_true]<;>omega
  ·rw[if_neg hi,if_neg hi]
theorem rkind_eq(s:ByteArray)(hs:s.size≤4294967290):F83 s=F103 s:=by
 obtain⟨r,h1,h2⟩:=kindLB s hs s.size 0 1099511627776 (by omega) (by omega)
 rw[show((0:Nat):Int)=0 from rfl]at h1
 by_cases h:s=(⟨#[]⟩:ByteArray)
 ·rw[h];kernel_rfl
 have hp:=size_ne h
 obtain⟨y,hy⟩:=byI_ex (b:=s) (i:=0) (by omega) (by omega)
 have hl:F83_l8 s 1099511627776 0=if 65≤y∧y≤90 then F103_l1 s 1099511627776 0 else F83_l8 s 1099511627776 0:=by
  split
  ·rename_i hc
   rw[show(1099511627776:Nat)=1099511627775+1 from rfl,F83_l8,F103_l1,if_pos (by omega),if_pos (by omega),hy]
   simp only[Option.bind_some]
   rw[if_neg (show¬97≤y by omega),if_pos hc.1,decide_eq_false (not_not_intro hc.2),if_pos hc.1,if_pos hc.2]
   simp only[Option.bind_some,Bool.false_eq_true,if_false]
   rw[wrapI (n:=(0:Int)+1) (by omega) (by omega)]
   exact rkind_l8 s hs _ _ (by omega) (by omega)
  ·rfl
 by_cases hc:65≤y∧y≤90
 ·rw[F83,F103,hl,if_pos hc,h1,if_neg h,hy]
  simp only[Option.bind_some]
  by_cases h4:40<(s.size:Int)
  ·rw[if_pos h4]
   rcases h2 with rfl|rfl
   ·rfl
   ·simp only[Option.bind_some,if_true];rw[if_pos (by omega),decide_eq_false (by omega)];rfl
  ·rw[if_neg h4,if_neg (by omega),decide_eq_false (by omega)]
   rcases h2 with rfl|rfl
   ·rfl
   ·simp only[Option.bind_some,Bool.false_eq_true,if_false];rw[if_pos (by omega),decide_eq_true (by omega)];rfl
 ·have hr:r= .inl false:=by
   rw[show(1099511627776:Nat)=1099511627775+1 from rfl,F103_l1,if_pos (by omega),hy,Option.bind_some]at h1
   have e:(if 65≤y then(if y≤90 then some false else(if 0<(0:Int)then(if 97≤y then some (decide (¬(y≤122)))else some true)else some true))else(if 0<(0:Int)then(if 97≤y then some (decide (¬(y≤122)))else some true)else some true))=some true:=by
    by_cases b1:65≤y
    ·rw[if_pos b1,if_neg (fun b2=>hc ⟨b1,b2⟩)];rfl
    ·rw[if_neg b1];rfl
   rw[e]at h1
   simpa using h1.symm
  rw[F83,F103,h1,hr,if_neg h,hy]
  simp only[Option.bind_some]
  have e:(if 40<(s.size:Int)then some true else(if y<65 then some true else some (decide (90<y))))=some true:=by
   by_cases b1:40<(s.size:Int)
   ·rw[if_pos b1]
   ·rw[if_neg b1]
    by_cases b2:y<65
    ·rw[if_pos b2]
    ·rw[if_neg b2,decide_eq_true (by omega)]
  rw[e];rfl
open Go Go.Fw
set_option maxRecDepth 100000
set_option linter.unusedVariables false
set_option linter.unusedSimpArgs false
theorem getM_putS(k k':ByteArray)(v:Bool):∀m:List (ByteArray×Bool),getM k (putM k' v m)=if k'=k then some v else getM k m
 |[]=>by simp[putM,getM]
 |e::r=>by
  rw[putM]
  by_cases h:e.1=k'
  ·rw[if_pos h,getM,getM]
   by_cases h2:k'=k
   ·rw[if_pos h2,if_pos h2]
   ·rw[if_neg h2,if_neg h2,if_neg (by rw[h];exact h2)]
  ·rw[if_neg h,getM,getM_putS k k' v r,getM]
   by_cases h2:e.1=k
   ·rw[if_pos h2,if_pos h2,if_neg (by rw[←h2];exact fun h'=>h h'.symm)]
   ·rw[if_neg h2,if_neg h2]
theorem getM_putU(k k':Int)(v:Bool):∀m:List (Int×Bool),getM k (putM k' v m)=if k'=k then some v else getM k m
 |[]=>by simp[putM,getM]
 |e::r=>by
  rw[putM]
  by_cases h:e.1=k'
  ·rw[if_pos h,getM,getM]
   by_cases h2:k'=k
   ·rw[if_pos h2,if_pos h2]
   ·rw[if_neg h2,if_neg h2,if_neg (by rw[h];exact h2)]
  ·rw[if_neg h,getM,getM_putU k k' v r,getM]
   by_cases h2:e.1=k
   ·rw[if_pos h2,if_pos h2,if_neg (by rw[←h2];exact fun h'=>h h'.symm)]
   ·rw[if_neg h2,if_neg h2]
theorem rown_l11(l:List Owner)(x:Owner)(i:Nat)(hi:i≤l.length)(hl:l.length≤4294967290):∀(n j k:Nat),j+n=i→n<k→F86_l11 i l x k (j:Int)=some (if∃y∈(l.take i).drop j,y.Uid=x.Uid then .inl (.inl false)else .inr ())
 |0,j,k+1,h,_=>by
  have:(l.take i).drop j=[]:=List.drop_of_length_le (by rw[List.length_take];omega)
  rw[F86_l11,if_neg (by omega),this];simp
 |n+1,j,k+1,h,hk=>by
  have hj:j<(l.take i).length:=by rw[List.length_take];omega
  rw[F86_l11,if_pos (by omega),rdI_at (by omega),Option.bind_some,wrapN (by omega),rown_l11 l x i hi hl n (j+1) k (by omega) (by omega),List.drop_eq_getElem_cons hj,List.getElem_take]
  by_cases hu:(l[j]'(by omega)).Uid=x.Uid<;>simp[hu]
theorem rown_l1(l:List Owner)(hl:l.length≤4294967290)(hs:∀x∈l,x.Kind.size≤4294967290∧x.Name.size≤4294967290):∀(xs:List Owner) (i:Nat) (m:List (Int×Bool)) (n:Int),l.drop i=xs→(∀u,(getM u m).getD false=true↔∃y∈l.take i,y.Uid=u)→F86_l1 l xs i n=F107_l1 xs i m n
 |[],i,m,n,_,_=>by rw[F86_l1,F107_l1]
 |x::xs,i,m,n,e,hm=>by
  have hx:=drop_hd e
  obtain⟨hlt,hgx⟩:=List.getElem?_eq_some_iff.1 hx
  have hmem:=List.mem_of_getElem? hx
  have ih:=fun n=>rown_l1 l hl hs xs (i+1) (putM x.Uid true m) n (drop_tl e) (fun u=>by
   rw[getM_putU,List.take_add_one,hx]
   by_cases hu:x.Uid=u
   ·rw[if_pos hu];simp[hu]
   ·rw[if_neg hu,hm u];simp[hu])
  obtain⟨a,ha⟩:=mkind_ex x.Kind (hs x hmem).1
  obtain⟨b,hb⟩:=mname_ex x.Name (hs x hmem).2
  have h11:=rown_l11 l x i (by omega) hl i 0 1099511627776 (by omega) (by omega)
  rw[show((0:Nat):Int)=0 from rfl,List.drop_zero]at h11
  rw[F86_l1,F107_l1,rkind_eq _ (hs x hmem).1,rname_eq _ (hs x hmem).2,ha,hb,h11]
  simp only[ih,Option.bind_some]
  simp only[←hm x.Uid]
  generalize (getM x.Uid m).getD false=g
  cases a<;>cases b<;>by_cases hu:x.Uid≤0<;>by_cases hc:x.Controller=true<;>cases g<;>simp[hu,hc,nb_not]
theorem rown_eq(l:List Owner)(hl:l.length≤4294967290)(hs:∀x∈l,x.Kind.size≤4294967290∧x.Name.size≤4294967290):F86 l=F107 l:=by
 rw[F86,F107,ck_t (by omega),rown_l1 l hl hs l 0 [] 0 (List.drop_zero ..) (fun u=>by simp[getM])]
 all_goals first
  |rfl
  |(congr 1;funext o;split<;>rfl)
theorem rfin_l5(l:List ByteArray)(x:ByteArray)(i:Nat)(hi:i≤l.length)(hl:l.length≤4294967290):∀(n j k:Nat),j+n=i→n<k→F87_l5 i l x k (j:Int)=some (if∃y∈(l.take i).drop j,y=x then .inl (.inl false)else .inr ())
 |0,j,k+1,h,_=>by
  have:(l.take i).drop j=[]:=List.drop_of_length_le (by rw[List.length_take];omega)
  rw[F87_l5,if_neg (by omega),this];simp
 |n+1,j,k+1,h,hk=>by
  have hj:j<(l.take i).length:=by rw[List.length_take];omega
  rw[F87_l5,if_pos (by omega),rdI_at (by omega),Option.bind_some,wrapN (by omega),rfin_l5 l x i hi hl n (j+1) k (by omega) (by omega),List.drop_eq_getElem_cons hj,List.getElem_take]
  by_cases hu:l[j]'(by omega)=x
  ·rw[if_pos hu,if_pos ⟨_,List.mem_cons_self ..,hu⟩];rfl
  ·rw[if_neg hu]
   by_cases hex:∃y,y∈(l.take i).drop (j+1)∧y=x
   ·obtain⟨y,h1,h2⟩:=hex
    rw[if_pos ⟨y,h1,h2⟩,if_pos ⟨y,List.mem_cons_of_mem _ h1,h2⟩]
   ·rw[if_neg hex,if_neg]
    rintro⟨y,h1,h2⟩
    rcases List.mem_cons.1 h1 with e|h1
    ·exact hu (e▸h2)
    ·exact hex ⟨y,h1,h2⟩
theorem rfin_l1(l:List ByteArray)(hl:l.length≤4294967290)(hs:∀x∈l,x.size≤4294967290):∀(xs:List ByteArray) (i:Nat) (m:List (ByteArray×Bool)),l.drop i=xs→(∀u,(getM u m).getD false=true↔∃y∈l.take i,y=u)→F87_l1 l xs i=F108_l1 xs i m
 |[],i,m,_,_=>by rw[F87_l1,F108_l1]
 |x::xs,i,m,e,hm=>by
  have hx:=drop_hd e
  obtain⟨hlt,hgx⟩:=List.getElem?_eq_some_iff.1 hx
  have hmem:=List.mem_of_getElem? hx
  have ih:=rfin_l1 l hl hs xs (i+1) (putM x true m) (drop_tl e) (fun u=>by
   rw[getM_putS,List.take_add_one,hx]
   by_cases hu:x=u
   ·rw[if_pos hu];simp[hu]
   ·rw[if_neg hu,hm u];simp[show¬u=x from fun h=>hu h.symm])
  obtain⟨b,hb⟩:=mname_ex x (hs x hmem)
  have h11:=rfin_l5 l x i (by omega) hl i 0 1099511627776 (by omega) (by omega)
  rw[show((0:Nat):Int)=0 from rfl,List.drop_zero]at h11
  rw[F87_l1,F108_l1,rname_eq _ (hs x hmem),hb,h11]
  simp only[ih,Option.bind_some]
  simp only[←hm x]
  generalize (getM x m).getD false=g
  cases b<;>cases g<;>simp[nb_not]
theorem rfin_eq(l:List ByteArray)(hl:l.length≤4294967290)(hs:∀x∈l,x.size≤4294967290):F87 l=F108 l:=by
 rw[F87,F108,ck_t (by omega),rfin_l1 l hl hs l 0 [] (List.drop_zero ..) (fun u=>by simp[getM])]
 all_goals first
  |rfl
  |(congr 1;funext o;split<;>rfl)
theorem rris_l1(l:List ByteArray):∀(k:Nat) (i:Int),F119_l1 l k i=F132_l1 l k i
 |0,i=>by rw[F119_l1,F132_l1]
 |k+1,i=>by
  rw[F119_l1,F132_l1]
  simp only[rris_l1 l k]
  by_cases hi:i<(l.length:Int)
  ·rw[if_pos hi,if_pos hi]
   cases h1:rdI l i with
   |none=>cases h2:rdI l (IntKind.i64.wrap (i-1))<;>rfl
   |some y=>cases h2:rdI l (IntKind.i64.wrap (i-1))with
    |none=>rfl
    |some z=>simp only[Option.bind_some,nb_bl,le_of]
  ·rw[if_neg hi,if_neg hi]
theorem rris_eq(l:List ByteArray):F119 l=F132 l:=by
 rw[F119,F132,rris_l1]
 all_goals first
  |rfl
  |(congr 1;funext o;split<;>rfl)
theorem rman_l1(l:List Manager)(hl:l.length≤4294967290)(hs:∀x∈l,x.Fields.length≤4294967290∧x.Name.size≤4294967290):∀(xs:List Manager) (i:Nat),l.drop i=xs→F88_l1 l xs i=F109_l1 l xs i
 |[],i,_=>by rw[F88_l1,F109_l1]
 |x::xs,i,e=>by
  have hx:=drop_hd e
  obtain⟨hlt,hgx⟩:=List.getElem?_eq_some_iff.1 hx
  have hmem:=List.mem_of_getElem? hx
  have ih:=rman_l1 l hl hs xs (i+1) (drop_tl e)
  obtain⟨b,hb⟩:=mname_ex x.Name (hs x hmem).2
  obtain⟨c,hc⟩:=ris_ex x.Fields (hs x hmem).1
  rw[F88_l1,F109_l1,rname_eq _ (hs x hmem).2,rris_eq,hb,hc,ih]
  simp only[Option.bind_some]
  by_cases h0:0<(i:Int)
  ·rw[wr_p h0 (by omega),rdI_at (by omega)]
   simp only[h0,if_true,Option.bind_some,nb_bl,le_of]
   by_cases g:lt (l[i-1]'(by omega)).Name x.Name<;>cases b<;>by_cases a1:(x.Fields.length:Int)<1<;>by_cases a2:600<(x.Fields.length:Int)<;>cases c<;>simp[g,a1,a2,nb_not]
  ·simp only[h0,if_false]
   cases b<;>by_cases a1:(x.Fields.length:Int)<1<;>by_cases a2:600<(x.Fields.length:Int)<;>cases c<;>simp[a1,a2,nb_not]
theorem rman_eq(l:List Manager)(hl:l.length≤4294967290)(hs:∀x∈l,x.Fields.length≤4294967290∧x.Name.size≤4294967290):F88 l=F109 l:=by
 rw[F88,F109,ck_t (by omega),rman_l1 l hl hs l 0 (List.drop_zero ..)]
 all_goals first
  |rfl
  |(congr 1;funext o;split<;>rfl)
open Go Go.Fw
set_option maxRecDepth 100000
set_option linter.unusedVariables false
set_option linter.unusedSimpArgs false
theorem rtext_l1(s:ByteArray):∀(k:Nat) (i:Int),F137_l1 s k i=F145_l1 s k i
 |0,i=>by rw[F137_l1,F145_l1]
 |k+1,i=>by rw[F137_l1,F145_l1];simp only[rtext_l1 s k]
theorem rtext_eq(s:ByteArray):F137 s=F145 s:=by
 rw[F137,F145,rtext_l1]
 all_goals first
  |rfl
  |(congr 1;funext o;split<;>rfl)
theorem rscalar_eq(v:TValue):F120 v=F133 v:=by
 rw[F120,F133,rtext_eq]
 by_cases h1:v.Kind=1
 ·simp only[if_pos h1]
  by_cases a1:v.N=0<;>by_cases a2:v.N=1<;>by_cases a3:v.S=(⟨#[]⟩:ByteArray)<;>simp[a1,a2,a3]
 ·simp only[if_neg h1]
  by_cases h2:v.Kind=2
  ·simp only[if_pos h2]
   by_cases a1:(-1000000000000000)≤v.N<;>by_cases a2:v.N≤1000000000000000<;>by_cases a3:v.S=(⟨#[]⟩:ByteArray)<;>simp[a1,a2,a3]
  ·simp only[if_neg h2]
theorem rfield_l1(s:ByteArray):∀(k:Nat) (i:Int),F121_l1 s k i=F134_l1 s k i
 |0,i=>by rw[F121_l1,F134_l1]
 |k+1,i=>by
  rw[F121_l1,F134_l1]
  simp only[rfield_l1 s k]
  by_cases hi:i<(s.size:Int)
  ·rw[if_pos hi,if_pos hi]
   cases hb:byI s i with
   |none=>rfl
   |some y=>
    simp only[Option.bind_some]
    by_cases a1:97≤y
    ·by_cases a2:y≤122
     ·simp[a1,a2,nb_not]
     ·have b1:65≤y:=by omega
      have b2:¬y≤90:=by omega
      have b3:48≤y:=by omega
      have b4:¬y≤57:=by omega
      by_cases a5:y=45<;>by_cases a6:y=95<;>by_cases a7:y=47<;>simp[a1,a2,b1,b2,b3,b4,a5,a6,a7,nb_not]
    ·by_cases a3:65≤y
     ·by_cases a4:y≤90
      ·simp[a1,a3,a4,nb_not]
      ·have b3:48≤y:=by omega
       have b4:¬y≤57:=by omega
       by_cases a5:y=45<;>by_cases a6:y=95<;>by_cases a7:y=47<;>simp[a1,a3,a4,b3,b4,a5,a6,a7,nb_not]
     ·by_cases a5:y=45<;>by_cases a6:y=95<;>by_cases a7:y=47<;>by_cases b3:48≤y<;>by_cases b4:y≤57<;>simp[a1,a3,b3,b4,a5,a6,a7,nb_not]
  ·rw[if_neg hi,if_neg hi]
theorem rfield_eq(s:ByteArray):F121 s=F134 s:=by
 rw[F121,F134,rfield_l1]
 all_goals first
  |rfl
  |(congr 1;funext o;split<;>rfl)
theorem rval_l13(rc:TValue→Int→Option Bool)(d:Int):∀(l:List TValue) (i:Nat),F89_l13 rc d l i=F110_l16 rc d l i
 |[],i=>by rw[F89_l13,F110_l16]
 |x::l,i=>by rw[F89_l13,F110_l16];simp only[rval_l13 rc d l]
theorem rval_l18(rc:TValue→Int→Option Bool)(v:TValue)(d:Int):∀(l:List TField) (i:Nat),F89_l18 rc v d l i=F110_l21 rc v d l i
 |[],i=>by rw[F89_l18,F110_l21]
 |x::l,i=>by rw[F89_l18,F110_l21];simp only[rval_l18 rc v d l,rfield_eq,nb_bl,le_of]
theorem rvalid_step(rc:TValue→Int→Option Bool)(v:TValue)(d:Int):F89 rc v d=F110 rc v d:=by
 rw[F89,F110,rscalar_eq]
 simp only[rval_l13,rval_l18]
 by_cases h0:d=0
 ·simp only[if_pos h0,Option.bind_some,if_true]
 simp only[if_neg h0]
 cases hs:F133 v with
 |none=>rfl
 |some b=>
  simp only[Option.bind_some]
  cases b with
  |false=>rfl
  |true=>
   simp only[show nb true=false from rfl,Bool.false_eq_true,if_false]
   by_cases a1:v.Kind=4<;>by_cases a2:v.Kind=5<;>by_cases a3:0<(v.List_.length:Int)<;>by_cases a4:0<(v.Fields.length:Int)<;>by_cases a5:64<(v.List_.length:Int)<;>by_cases a6:64<(v.Fields.length:Int)<;>first|omega|(simp only[a1,a2,a3,a4,a5,a6,if_true,if_false,not_true_eq_false,not_false_eq_true,decide_true,decide_false,Option.bind_some,Bool.false_eq_true]<;>rfl)
theorem rvalidk:∀k:Nat,F89k k=F110k k
 |0=>rfl
 |k+1=>by funext v d;rw[F89k,F110k,rvalidk k,rvalid_step]
theorem rValid_eq(v:TValue):F43 v=F80 v:=by
 rw[F43,F80,rvalidk,size_same]
theorem rmValid_t{o:Object}(h:OW o):F42 o.Meta=F79 o.Meta:=by
 have k1:=h.key;have k2:=h.labels;have k3:=h.owners;have k4:=h.fins;have k5:=h.mans
 have s1:∀x∈o.Meta.Owners,x.Kind.size≤4294967290∧x.Name.size≤4294967290:=fun x hx=>by have:=h.owner x hx;omega
 have s2:∀x∈o.Meta.Finalizers,x.size≤4294967290:=fun x hx=>by have:=h.fin x hx;omega
 have s3:∀x∈o.Meta.Managers,x.Fields.length≤4294967290∧x.Name.size≤4294967290:=fun x hx=>by have:=h.man x hx;omega
 obtain⟨a,ha⟩:=mkind_ex o.Meta.Kind (by omega)
 obtain⟨b,hb⟩:=mname_ex o.Meta.Namespace (by omega)
 obtain⟨c,hc⟩:=mname_ex o.Meta.Name (by omega)
 obtain⟨d,hd⟩:=lvalid_ex o.Meta.Labels (by omega) (fun x hx=>by have:=h.label x hx;omega)
 obtain⟨e,he⟩:=own_ex o.Meta.Owners (by omega) s1
 obtain⟨f,hf⟩:=fin_ex o.Meta.Finalizers (by omega) s2
 obtain⟨g,hg⟩:=man_ex o.Meta.Managers (by omega) s3
 rw[mvalid_eq,restC,F42,F104,rkind_eq _ (by omega),rname_eq _ (by omega),rname_eq _ (by omega),rlab_eq,rown_eq _ (by omega) s1,rfin_eq _ (by omega) s2,rman_eq _ (by omega) s3,ha,hb,hc,hd,he,hf,hg]
 have e0:(if o.Meta.Uid<0 then some true else(if o.Meta.Version<0 then some true else(if o.Meta.Generation<0 then some true else(if o.Meta.Created<0 then some true else(if o.Meta.DeleteAt<0 then some true else(if(nb o.Meta.Deleting)=true then some (decide (¬(o.Meta.DeleteAt=0)))else some false))))))=some (decide (¬num o.Meta)):=by
  unfold num
  rw[nb_not]
  by_cases c1:o.Meta.Uid<0
  ·rw[if_pos c1,decide_eq_true (by omega)]
  rw[if_neg c1]
  by_cases c2:o.Meta.Version<0
  ·rw[if_pos c2,decide_eq_true (by omega)]
  rw[if_neg c2]
  by_cases c3:o.Meta.Generation<0
  ·rw[if_pos c3,decide_eq_true (by omega)]
  rw[if_neg c3]
  by_cases c4:o.Meta.Created<0
  ·rw[if_pos c4,decide_eq_true (by omega)]
  rw[if_neg c4]
  by_cases c5:o.Meta.DeleteAt<0
  ·rw[if_pos c5,decide_eq_true (by omega)]
  rw[if_neg c5]
  have q1:0≤o.Meta.Uid:=by omega
  have q2:0≤o.Meta.Version:=by omega
  have q3:0≤o.Meta.Generation:=by omega
  have q4:0≤o.Meta.Created:=by omega
  have q5:0≤o.Meta.DeleteAt:=by omega
  by_cases hdl:o.Meta.Deleting=true<;>by_cases h2:o.Meta.DeleteAt=0<;>simp[q1,q2,q3,q4,q5,hdl,h2]
 rw[e0]
 by_cases hn:num o.Meta<;>by_cases hs:o.Meta.Namespace=(⟨#[]⟩:ByteArray)<;>cases a<;>cases b<;>cases c<;>cases d<;>cases e<;>cases f<;>simp[hn,hs,nb_not]
theorem rSound_t{o:Object}(h:OW o):F14 o=some (okO o):=by
 have h0:=okO_t h
 rw[F38]at h0
 rw[F14,rmValid_t h,rValid_eq,rValid_eq]
 exact h0
open Go Go.Fw
set_option maxRecDepth 100000
set_option linter.unusedVariables false
set_option linter.unusedSimpArgs false
open Go Go.Fw
set_option maxRecDepth 100000
set_option linter.unusedVariables false
set_option linter.unusedSimpArgs false
theorem sorted_rm{x:Object}{l:List Object}(h:Sorted (x::l)){k:ByteArray}(hk:keyO x=k∨lt k (keyO x)):rm k l=l:=by
 unfold rm
 rw[List.filter_eq_self.2]
 intro z hz
 have h1:=(List.pairwise_cons.1 h).1 z hz
 have:¬keyO z=k:=by
  rintro rfl
  rcases hk with hk|hk
  ·rw[hk]at h1;exact lt_irrefl _ h1
  ·exact lt_asy h1 hk
 simpa[cO_zero]using this
theorem insC_front{k:ByteArray}{o:Object}:∀{l:List Object},(∀z∈l,lt k (keyO z))→insC (cO k) o l=o::l
 |[],_=>rfl
 |z::l,h=>by rw[insC,if_neg (fun hh=>lt_asy (h z (List.mem_cons_self ..)) (cO_neg.1 hh))]
theorem rput_done(o:Object):∀(xs:List Object) (i:Nat) (out:List Object),out.length+xs.length≤5000000→F94_l1 o xs i out true=some (out++xs,true)
 |[],i,out,_=>by rw[F94_l1];simp
 |x::xs,i,out,hl=>by
  simp only[List.length_cons]at hl
  rw[F94_l1]
  simp only[show nb true=false from rfl,Bool.false_eq_true,if_false,Option.bind_some]
  rw[apI_t (by simp;omega)]
  simp only[Option.bind_some]
  rw[rput_done o xs (i+1) _ (by simp;omega)]
  simp
theorem rput_ins(o:Object)(ho:OW o):∀(xs:List Object) (i:Nat) (out:List Object),Sorted xs→(∀x∈xs,OW x)→out.length+xs.length≤4000000→∃a b,F94_l1 o xs i out false=some (a,b)∧a.length≤out.length+xs.length+1∧(if b=true then a else a++[o])=out++insC (cO (keyO o)) o (rm (keyO o) xs)
 |[],i,out,_,_,_=>⟨out,false,by rw[F94_l1],by simp,by simp[rm,insC]⟩
 |x::xs,i,out,hs,hx,hl=>by
  simp only[List.length_cons]at hl
  have hs2:=List.pairwise_cons.1 hs
  have hxs:∀z∈xs,OW z:=fun z h=>hx z (List.mem_cons_of_mem _ h)
  rw[F94_l1,rkey_t (hx x (List.mem_cons_self ..)),rkey_t ho]
  simp only[show nb false=true from rfl,if_true,Option.bind_some,nb_bl]
  by_cases h1:lt (keyO x) (keyO o)
  ·have hk:¬keyO x=keyO o:=fun e=>lt_ne h1 e
   rw[decide_eq_false (not_not_intro h1),if_neg (by simp)]
   simp only[Option.bind_some]
   rw[apI_t (by simp;omega)]
   simp only[Option.bind_some]
   obtain⟨a,b,g1,g2,g3⟩:=rput_ins o ho xs (i+1) (out++[x]) hs2.2 hxs (by simp;omega)
   refine⟨a,b,g1,by simp only[List.length_append,List.length_cons,List.length_nil]at g2⊢;omega,?_⟩
   rw[g3]
   have e1:rm (keyO o) (x::xs)=x::rm (keyO o) xs:=by unfold rm;rw[List.filter_cons_of_pos (by simp[cO_zero,hk])]
   rw[e1,insC,if_pos (cO_neg.2 h1)]
   simp
  ·rw[decide_eq_true h1,if_pos rfl,apI_t (by simp;omega)]
   simp only[Option.bind_some]
   by_cases hk:keyO x=keyO o
   ·rw[if_pos hk]
    simp only[Option.map_some,Option.bind_some]
    rw[rput_done o xs (i+1) _ (by simp;omega)]
    refine⟨_,_,rfl,by simp<;>omega,?_⟩
    have e1:rm (keyO o) (x::xs)=xs:=by
     have:=sorted_rm hs (k:=keyO o) (.inl hk)
     unfold rm at this⊢
     rw[List.filter_cons_of_neg (by simp[cO_zero,hk]),this]
    rw[if_pos rfl,e1,insC_front fun z hz=>by rw[←hk];exact hs2.1 z hz]
    simp
   ·rw[if_neg hk]
    simp only[Option.bind_some]
    rw[apI_t (by simp;omega)]
    simp only[Option.bind_some]
    rw[rput_done o xs (i+1) _ (by simp;omega)]
    refine⟨_,_,rfl,by simp<;>omega,?_⟩
    have hlt:=lt_of_not h1 hk
    have e1:rm (keyO o) (x::xs)=x::xs:=by
     have:=sorted_rm hs (k:=keyO o) (.inr hlt)
     unfold rm at this⊢
     rw[List.filter_cons_of_pos (by simp[cO_zero,hk]),this]
    rw[if_pos rfl,e1,insC_front fun z hz=>by
     rcases List.mem_cons.1 hz with e|hz
     ·rw[e];exact hlt
     ·exact lt_trans hlt (hs2.1 z hz)]
    simp
theorem rwith_l1(k:ByteArray):∀(xs:List Object) (i:Nat) (out:List Object),(∀x∈xs,OW x)→out.length+xs.length≤4000000→F95_l1 k xs i out=some (out++rm k xs)
 |[],i,out,_,_=>by rw[F95_l1];simp[rm]
 |x::xs,i,out,hx,hl=>by
  simp only[List.length_cons]at hl
  have hxs:∀z∈xs,OW z:=fun z h=>hx z (List.mem_cons_of_mem _ h)
  rw[F95_l1,rkey_t (hx x (List.mem_cons_self ..)),Option.bind_some]
  by_cases hk:keyO x=k
  ·rw[if_neg (not_not_intro hk)]
   simp only[Option.bind_some]
   rw[rwith_l1 k xs (i+1) out hxs (by omega)]
   unfold rm;rw[List.filter_cons_of_neg (by simp[cO_zero,hk])]
  ·rw[if_pos hk,apI_t (by simp;omega)]
   simp only[Option.bind_some]
   rw[rwith_l1 k xs (i+1) _ hxs (by simp;omega)]
   unfold rm;rw[List.filter_cons_of_pos (by simp[cO_zero,hk])]
   simp
theorem rreplay_t{l:List Object}{c:Change}(hk:c.Kind=1∨c.Kind=2)(hc:OW c.Object)(hs:Sorted l)(ho:∀o∈l,OW o)(hl:l.length≤3000000):F57 l c=some (repS l c):=by
 rw[F57]
 unfold repS
 by_cases h1:c.Kind=1
 ·rw[if_pos h1,if_neg (show¬c.Kind=2 by omega),F94,ck_t (by omega),Option.bind_some]
  obtain⟨a,b,g1,g2,g3⟩:=rput_ins c.Object hc l 0 [] hs ho (by simp;omega)
  rw[g1,Option.bind_some]
  cases b
  ·simp only[show nb false=true from rfl,if_true]
   simp only[Bool.false_eq_true,if_false,List.nil_append]at g3
   rw[apI_t (by simp at g2⊢;omega),Option.bind_some,g3]
   rfl
  ·simp only[show nb true=false from rfl,Bool.false_eq_true,if_false]
   simp only[if_true,List.nil_append]at g3
   rw[g3];rfl
 ·have h2:c.Kind=2:=by omega
  rw[if_neg h1,if_pos h2,rkey_t hc,Option.bind_some,F95,ck_t (by omega),Option.bind_some,rwith_l1 _ l 0 [] ho (by simp;omega)]
  rfl
open Go Go.Fw
set_option maxRecDepth 100000
set_option linter.unusedVariables false
set_option linter.unusedSimpArgs false
theorem rat_l6{n:Nat}{s:TStore}(hi:Inv n s)(h:Inv2 s)(hn:n≤400)(rev:Int):∀(m i k:Nat),s.History.length=i+m→(i:Int)≤rev-s.Floor→rev≤s.Rev→m<k→F26_l6 s rev k (pre s i) (i:Int)=some (pre s (rev-s.Floor).toNat)
 |m,i,0,_,_,_,h2=>by omega
 |m,i,k+1,h1,h2,h3,h4=>by
  have hr:=hi.rv;have hf:=hi.fl;have hfr:=hi.fr;have hl:=hi.hl;have hlb:=hi.lb
  rw[F26_l6]
  cases m with
  |zero=>
   rw[if_neg (by omega)]
   simp only[Option.bind_some,Bool.false_eq_true,if_false]
   rw[show(rev-s.Floor).toNat=i by omega]
  |succ m=>
   have hc:s.History[i]? =some s.History[i]:=List.getElem?_eq_getElem (by omega)
   have hh:=h.h i _ hc
   obtain⟨p1,p2,p3⟩:=pre_ow hi i
   rw[if_pos (by omega),rdI_val hc,Option.bind_some]
   by_cases g:s.History[i].Rev≤rev
   ·rw[decide_eq_true g]
    simp only[Option.bind_some,if_true]
    rw[rreplay_t hh.kind (hi.oh _ (List.mem_of_getElem? hc)) p1 p2 (by omega),Option.bind_some,←pre_succ hc,wrapN (by omega)]
    have:=hh.rev
    exact rat_l6 hi h hn rev m (i+1) k (by omega) (by omega) h3 (by omega)
   ·rw[decide_eq_false g]
    simp only[Option.bind_some,Bool.false_eq_true,if_false]
    have:=hh.rev
    rw[show(rev-s.Floor).toNat=i by omega]
theorem rAt_t{n:Nat}{s:TStore}(hi:Inv n s)(h:Inv2 s)(hn:n≤400){rev:Int}(h1:s.Floor≤rev)(h2:rev≤s.Rev):F26 s rev=some (atL s rev,0):=by
 have hr:=hi.rv;have hf:=hi.fl;have hlb:=hi.lb;have hl:=hi.hl;have hfr:=hi.fr
 rw[F26,if_neg (by omega),decide_eq_false (by omega)]
 simp only[Option.bind_some,Bool.false_eq_true,if_false]
 rw[if_neg (by omega),apI_t (by simp;omega)]
 have:=rat_l6 hi h hn rev s.History.length 0 1099511627776 (by omega) (by omega) h2 (by omega)
 rw[show((0:Nat):Int)=0 from rfl,show pre s 0=s.Base from rfl]at this
 simp only[Option.bind_some,List.nil_append]
 rw[this];rfl
theorem rAt_over{s:TStore}{rev:Int}(h:rev<0∨s.Rev<rev):F26 s rev=some ([],5):=by
 rw[F26]
 have:(if rev<0 then some true else some (decide (s.Rev<rev)))=some true:=by
  by_cases g:rev<0
  ·rw[if_pos g]
  ·rw[if_neg g,decide_eq_true (h.resolve_left g)]
 rw[this];rfl
theorem rAt_under{s:TStore}{rev:Int}(h:0≤rev)(h2:rev≤s.Rev)(h3:rev<s.Floor):F26 s rev=some ([],10):=by
 rw[F26,if_neg (by omega),decide_eq_false (by omega)]
 simp only[Option.bind_some,Bool.false_eq_true,if_false]
 rw[if_pos h3]
theorem rcompact_t{n:Nat}{s:TStore}(hi:Inv n s)(h:Inv2 s)(hn:n≤400)(rev:Int):F62 s rev=some ((compactS s rev).1.Floor,(compactS s rev).1.Base,(compactS s rev).1.History,(compactS s rev).2):=by
 have k2:=hi.hl;have k3:=hi.rv;have k4:=hi.fl;have k5:=hi.fr
 rw[F62]
 unfold compactS
 by_cases g:rev<s.Floor∨s.Rev<rev
 ·rw[if_pos g]
  have:(if rev<s.Floor then some true else some (decide (s.Rev<rev)))=some true:=by
   by_cases g1:rev<s.Floor
   ·rw[if_pos g1]
   ·rw[if_neg g1,decide_eq_true (g.resolve_left g1)]
  rw[this];rfl
 ·rw[if_neg g]
  have:(if rev<s.Floor then some true else some (decide (s.Rev<rev)))=some false:=by
   rw[if_neg (fun hh=>g (.inl hh)),decide_eq_false (fun hh=>g (.inr hh))]
  rw[this]
  simp only[Option.bind_some,Bool.false_eq_true,if_false]
  rw[rAt_t hi h hn (by omega) (by omega)]
  simp only[Option.bind_some,not_true_eq_false,if_false]
  rw[wrapI (by omega) (by omega)]
  obtain⟨k,hk⟩:∃k:Nat,rev-s.Floor=k:=⟨(rev-s.Floor).toNat,by omega⟩
  have hs:slI s.History (k:Int) (s.History.length:Int)=some (s.History.drop k):=by
   rw[slI_t (by omega) (Nat.le_refl _),List.take_of_length_le (by simp)]
  rw[hk,hs,Option.bind_some,apI_t (by simp;omega)]
  simp only[Option.bind_some,List.nil_append]
  unfold compS
  rw[hk];rfl
theorem rchange_t{n:Nat}{s:TStore}(hi:Inv n s)(hn:n≤400){kind:Int}(hk:kind=1∨kind=2){o:Object}(ho:OW o)(nu:Int):F96 ⟨s.Rev,s.Floor,nu,s.Base,s.Objects,s.History⟩ kind o=some (s.Rev+1,s.Floor,s.Base,repS s.Objects ⟨s.Rev+1,kind,withV o (s.Rev+1)⟩,s.History++[⟨s.Rev+1,kind,withV o (s.Rev+1)⟩]):=by
 have k1:=hi.lo;have k2:=hi.hl;have k3:=hi.rv;have k4:=hi.fl;have k5:=hi.fr
 have hw:OW (withV o (s.Rev+1)):=OW_meta ho _ _ _ _ _ _
 rw[F96]
 simp only[wrapI (n:=s.Rev+1) (by omega) (by omega)]
 show(F57 s.Objects ⟨s.Rev+1,kind,withV o (s.Rev+1)⟩).bind _=_
 rw[rreplay_t (c:=⟨s.Rev+1,kind,withV o (s.Rev+1)⟩) hk hw hi.so hi.oo (by omega),Option.bind_some,apI_t (by simp;omega),Option.bind_some]
 show(apI ([]++s.History) [⟨s.Rev+1,kind,withV o (s.Rev+1)⟩]).bind _=_
 rw[List.nil_append,apI_t (by simp;omega),Option.bind_some,if_neg (by simp;omega)]
open Go Go.Fw
set_option maxRecDepth 100000
set_option linter.unusedVariables false
set_option linter.unusedSimpArgs false
theorem rfind_t{l:List Object}(h:∀o∈l,OW o)(hl:l.length≤4000000)(k:ByteArray):(getS l k=none∧F55 l k=some (-1))∨∃(y:Object) (j:Nat),getS l k=some y∧F55 l k=some (j:Int)∧l[j]? =some y:=by
 rcases find_l1 (k:=k) l h l 0 (List.drop_zero ..)with⟨h1,h2⟩|⟨y,j,h1,h2,h3⟩
 ·exact .inl ⟨h1,by rw[F55,ck_t (by omega),Option.bind_some,h2];rfl⟩
 ·exact .inr ⟨y,j,h1,by rw[F55,ck_t (by omega),Option.bind_some,h2];rfl,h3⟩
theorem rcreate_t{n:Nat}{s:TStore}(hi:Inv n s)(hn:n≤400){o:Object}(ho:OW o)(now:Int):F59 s o now=some ((createS s o now).1,(createS s o now).2.1,(createS s o now).2.2):=by
 have k1:=hi.lo;have k2:=hi.hl;have k3:=hi.rv;have k4:=hi.fl;have k5:=hi.fr;have k6:=hi.un;have k7:=hi.u1
 rw[F59,rSound_t ho,Option.bind_some,nb_not]
 unfold createS
 by_cases g1:okO o=false∨now<0∨1000000000000<now
 ·rw[if_pos g1]
  have:(if(!okO o)=true then some true else if now<0 then some true else some (decide (1000000000000<now)))=some true:=by
   rcases g1 with g|g|g
   ·simp[g]
   ·by_cases g2:okO o<;>simp[g,g2]
   ·by_cases g2:okO o<;>simp[g,g2]
  rw[this];rfl
 rw[if_neg g1]
 have:(if(!okO o)=true then some true else if now<0 then some true else some (decide (1000000000000<now)))=some false:=by
  simp only[not_or,Bool.not_eq_false]at g1
  rw[if_neg (by simp[g1.1]),if_neg g1.2.1,decide_eq_false g1.2.2]
 rw[this]
 simp only[Option.bind_some,Bool.false_eq_true,if_false]
 rw[rkey_t ho,Option.bind_some]
 rcases rfind_t hi.oo (by omega) (keyO o)with⟨h1,h2⟩|⟨y,j,h1,h2,h3⟩
 ·rw[h2,Option.bind_some,if_neg (by omega),if_neg (by omega),if_neg (by omega),decide_eq_false (by omega)]
  simp only[Option.bind_some,Bool.false_eq_true,if_false]
  rw[if_neg (by rw[get_has,h1];simp),wrapI (n:=s.NextUid+1) (by omega) (by omega),wrapI (n:=s.Rev+1) (by omega) (by omega)]
  rw[rchange_t hi hn (.inl rfl) (OW_meta ho _ _ _ _ _ _) (s.NextUid+1)]
  rfl
 ·rw[h2,Option.bind_some,if_pos (by omega),if_pos (by rw[get_has,h1];rfl)]
  rfl
theorem rupdate_t{n:Nat}{s:TStore}(hi:Inv n s)(hn:n≤400){o:Object}(ho:OW o):F60 s o=some ((updateS s o).1,(updateS s o).2.1,(updateS s o).2.2):=by
 have k1:=hi.lo;have k2:=hi.hl;have k3:=hi.rv;have k4:=hi.fl;have k5:=hi.fr;have k6:=hi.un;have k7:=hi.u1
 rw[F60,rSound_t ho,Option.bind_some,nb_not,rkey_t ho]
 unfold updateS
 cases g1:okO o with
 |false=>rfl
 |true=>
  simp only[Bool.not_true,Bool.false_eq_true,if_false,Option.bind_some,Bool.true_eq_false]
  rcases rfind_t hi.oo (by omega) (keyO o)with⟨h1,h2⟩|⟨old,j,h1,h2,h3⟩
  ·rw[h2,Option.bind_some,if_pos (by omega),h1];rfl
  ·rw[h2,Option.bind_some,if_neg (by omega),rdI_val h3,Option.bind_some,h1]
   have hold:=hi.oo old (get_mem h1).1
   have ec:(if¬o.Meta.Version=0 then(if¬o.Meta.Version=old.Meta.Version then some true else(if¬o.Meta.Uid=0 then some (decide (¬o.Meta.Uid=old.Meta.Uid))else some false))else(if¬o.Meta.Uid=0 then some (decide (¬o.Meta.Uid=old.Meta.Uid))else some false))=some (decide ((o.Meta.Version≠0∧o.Meta.Version≠old.Meta.Version)∨(o.Meta.Uid≠0∧o.Meta.Uid≠old.Meta.Uid))):=by
    by_cases a1:o.Meta.Version=0<;>by_cases a2:o.Meta.Version=old.Meta.Version<;>by_cases a3:o.Meta.Uid=0<;>by_cases a4:o.Meta.Uid=old.Meta.Uid<;>simp[a1,a2,a3,a4]
   rw[ec,Option.bind_some]
   by_cases g2:(o.Meta.Version≠0∧o.Meta.Version≠old.Meta.Version)∨(o.Meta.Uid≠0∧o.Meta.Uid≠old.Meta.Uid)
   ·rw[decide_eq_true g2,if_pos rfl]
    simp only[if_pos g2]
    rfl
   rw[decide_eq_false g2,if_neg (by simp)]
   simp only[if_neg g2]
   obtain⟨b,b1,b2⟩:=reqV_t old.Spec ho.spec
   rw[b1,Option.bind_some]
   have eg:(if nb b=true then some (IntKind.i64.wrap (old.Meta.Generation+1))else some old.Meta.Generation)=some (updO s o old).Meta.Generation:=by
    cases b
    ·have:¬o.Spec=old.Spec:=fun hh=>by have:=b2.2 hh;cases this
     simp[nb_not,updO,this]
    ·simp[nb_not,updO,b2.1 rfl]
   rw[eg,Option.bind_some]
   have hu:OW (updO s o old):=OW_meta ho _ _ _ _ _ _
   obtain⟨c,c1,c2⟩:=reqO_t hu hold
   show(F24 (updO s o old) old).bind _=_
   rw[c1,Option.bind_some]
   cases c
   ·have:¬updO s o old=old:=fun hh=>by have:=c2.2 hh;cases this
    rw[if_neg (by simp),if_neg (by omega)]
    simp only[if_neg this]
    rw[wrapI (n:=s.Rev+1) (by omega) (by omega)]
    show(F96 ⟨s.Rev,s.Floor,s.NextUid,s.Base,s.Objects,s.History⟩ 1 (updO s o old)).bind _=_
    rw[rchange_t hi hn (.inl rfl) hu s.NextUid]
    rfl
   ·rw[if_pos rfl]
    simp only[if_pos (c2.1 rfl)]
theorem rdelete_t{n:Nat}{s:TStore}(hi:Inv n s)(hn:n≤400)(k:ByteArray)(v:Int):F61 s k v=some ((deleteS s k v).1,(deleteS s k v).2.1,(deleteS s k v).2.2):=by
 have k1:=hi.lo;have k2:=hi.hl;have k3:=hi.rv;have k4:=hi.fl;have k5:=hi.fr
 rw[F61]
 unfold deleteS
 rcases rfind_t hi.oo (by omega) k with⟨h1,h2⟩|⟨old,j,h1,h2,h3⟩
 ·rw[h2,Option.bind_some,if_pos (by omega),h1];rfl
 ·rw[h2,Option.bind_some,if_neg (by omega),rdI_val h3,Option.bind_some,h1]
  have hold:=hi.oo old (get_mem h1).1
  have ec:(if¬v=0 then some (decide (¬v=old.Meta.Version))else some false)=some (decide (v≠0∧v≠old.Meta.Version)):=by
   by_cases a1:v=0<;>by_cases a2:v=old.Meta.Version<;>simp[a1,a2]
  rw[ec,Option.bind_some]
  by_cases g2:v≠0∧v≠old.Meta.Version
  ·rw[decide_eq_true g2,if_pos rfl]
   simp only[if_pos g2];rfl
  rw[decide_eq_false g2,if_neg (by simp),if_neg (by omega)]
  simp only[if_neg g2]
  rw[wrapI (n:=s.Rev+1) (by omega) (by omega)]
  show(F96 ⟨s.Rev,s.Floor,s.NextUid,s.Base,s.Objects,s.History⟩ 2 old).bind _=_
  rw[rchange_t hi hn (.inr rfl) hold s.NextUid]
  rfl
open Go Go.Fw
set_option maxRecDepth 100000
set_option linter.unusedVariables false
set_option linter.unusedSimpArgs false
theorem answer_t{n:Nat}{s:TStore}(hi:Inv n s)(h:Inv2 s)(hn:n≤400){op:TOp}(ho:OW op.O):F23 s op=some ((stepS s op).1,(stepS s op).2.1,(stepS s op).2.2):=by
 rw[F23,prep_t hi hn ho,Option.bind_some]
 unfold stepS
 by_cases g1:op.Kind=1
 ·have g2:¬op.Kind=2:=by omega
  simp only[if_pos g1,if_neg g2]
  rw[rcreate_t hi hn (o:=⟨⟨op.O.Meta.Kind,op.O.Meta.Namespace,op.O.Meta.Name,op.O.Meta.Uid,_,op.O.Meta.Generation,op.O.Meta.Created,op.O.Meta.Deleting,op.O.Meta.DeleteAt,op.O.Meta.Labels,op.O.Meta.Owners,op.O.Meta.Finalizers,op.O.Meta.Managers⟩,op.O.Spec,op.O.Status⟩) (OW_meta ho _ _ _ _ _ _)]
  simp only[Option.bind_some,eta_v]
 by_cases g2:op.Kind=2
 ·simp only[if_neg g1,if_pos g2]
  have e:F60 s (⟨⟨op.O.Meta.Kind,op.O.Meta.Namespace,op.O.Meta.Name,op.O.Meta.Uid,verS s op,op.O.Meta.Generation,op.O.Meta.Created,op.O.Meta.Deleting,op.O.Meta.DeleteAt,op.O.Meta.Labels,op.O.Meta.Owners,op.O.Meta.Finalizers,op.O.Meta.Managers⟩,op.O.Spec,op.O.Status⟩:Object)=_:=rupdate_t hi hn (o:=withV op.O (verS s op)) (OW_meta ho _ _ _ _ _ _)
  rw[e]
  simp only[Option.bind_some,eta_v]
 by_cases g3:op.Kind=3
 ·simp only[if_neg g1,if_neg g2,if_pos g3]
  rw[rdelete_t hi hn]
  simp only[Option.bind_some,eta_v]
 ·simp only[if_neg g1,if_neg g2,if_neg g3]
  rw[rcompact_t hi h hn]
  unfold compactS
  by_cases g:op.Rev<s.Floor∨s.Rev<op.Rev
  ·simp only[if_pos g];rfl
  ·simp only[if_neg g];rfl
theorem rlget_l1(k:ByteArray):∀(l:List Label) (i:Nat),F148_l1 k l i=F139_l1 k l i
 |[],i=>by rw[F148_l1,F139_l1]
 |x::l,i=>by rw[F148_l1,F139_l1,rlget_l1 k l]
theorem rlget(l:List Label)(k:ByteArray):F148 l k=F139 l k:=by
 rw[F148,F139]
 simp only[rlget_l1]<;>rfl
theorem among_l1(k:ByteArray):∀(l:List ByteArray) (i:Nat),(k∈l→F149_l1 k l i=some (.inl true)∧∃j:Nat,i≤j∧j<i+l.length∧F147_l1 k l i=some (.inl (j:Int)))∧(k∉l→F149_l1 k l i=some (.inr ())∧F147_l1 k l i=some (.inr ()))
 |[],i=>⟨fun h=>(by cases h),fun _=>⟨by rw[F149_l1],by rw[F147_l1]⟩⟩
 |x::l,i=>by
  rw[F149_l1,F147_l1]
  obtain⟨a,b⟩:=among_l1 k l (i+1)
  by_cases hx:x=k
  ·subst hx
   simp only[if_true]
   exact⟨fun _=>⟨rfl,i,by omega,by simp,rfl⟩,fun h=>(h (List.mem_cons_self ..)).elim⟩
  ·have hk:¬k=x:=fun e=>hx e.symm
   simp only[hx,hk,if_false]
   refine⟨fun h=>?_,fun h=>?_⟩
   ·have h2:k∈l:=(List.mem_cons.1 h).resolve_left hk
    obtain⟨c,j,j1,j2,d⟩:=a h2
    exact⟨c,j,by omega,by simp only[List.length_cons];omega,d⟩
   ·have h2:k∉l:=fun hh=>h (List.mem_cons_of_mem _ hh)
    exact b h2
theorem among_eq(l:List ByteArray)(k:ByteArray):F149 l k=F140 l k:=by
 rw[F149,F140,F147]
 obtain⟨a,b⟩:=among_l1 k l 0
 by_cases hk:k∈l
 ·obtain⟨c,j,j1,j2,d⟩:=a hk
  rw[c,d]
  unfold ck
  split
  ·simp
  ·rfl
 ·obtain⟨c,d⟩:=b hk
  rw[c,d]
  unfold ck
  split
  ·simp
  ·rfl
theorem rholds_eq(r:Requirement)(l:List Label):F141 r l=F126 r l:=by
 rw[F141,F126,rlget]
 congr 1;funext t
 simp only[among_eq]
 by_cases h1:r.Op=1
 ·simp only[if_pos h1]
 by_cases h2:r.Op=2
 ·simp only[if_neg h1,if_pos h2]
 by_cases h3:r.Op=3
 ·have h4:¬r.Op=4:=by omega
  simp only[if_neg h1,if_neg h2,if_pos h3,if_neg h4]
  cases t.2<;>rfl
 simp only[if_neg h1,if_neg h2,if_neg h3]
 split<;>rfl
theorem rmat_l1(l:List Label):∀(sel:List Requirement) (i:Nat),F127_l1 l sel i=F99_l1 l sel i
 |[],i=>by rw[F127_l1,F99_l1]
 |x::sel,i=>by rw[F127_l1,F99_l1,rholds_eq,rmat_l1 l sel]
theorem rmat_eq(sel:List Requirement)(l:List Label):F127 sel l=F99 sel l:=by
 rw[F127,F99]
 simp only[rmat_l1]<;>rfl
theorem rsel_t{f:Filter}{o:Object}(h:selOk f.Selector)(ho:OW o):F100 f o=some (selS f o):=by
 rw[F100,rmat_eq,mat_t h ho.labels,sel_t'];rfl
theorem rlist_l1{f:Filter}(h:selOk f.Selector):∀(l:List Object) (i:Nat) (a:List Object),(∀o∈l,OW o)→a.length+l.length≤4000000→F68_l1 f l i a=some (a++l.filter (selS f))
 |[],i,a,_,_=>by rw[F68_l1];simp
 |o::l,i,a,ho,hl=>by
  have h1:=ho o (List.mem_cons_self ..)
  simp only[List.length_cons]at hl
  rw[F68_l1,rsel_t h h1,Option.bind_some]
  cases hs:selS f o with
  |false=>
   simp only[Bool.false_eq_true,if_false,Option.bind_some]
   rw[rlist_l1 h l (i+1) a (fun x hx=>ho x (List.mem_cons_of_mem _ hx)) (by omega),List.filter_cons_of_neg (by simp[hs])]
  |true=>
   simp only[if_true,Option.bind_some]
   rw[apI_t (by simp;omega)]
   simp only[Option.bind_some]
   rw[rlist_l1 h l (i+1) _ (fun x hx=>ho x (List.mem_cons_of_mem _ hx)) (by simp;omega),List.filter_cons_of_pos (by simp[hs])]
   simp
theorem rlist_t{n:Nat}{s:TStore}(hi:Inv n s)(hn:n≤400){f:Filter}(h:selOk f.Selector):F30 s f=some (s.Objects.filter (selS f)):=by
 have h1:=hi.lo;have h3:=hi.rv
 rw[F30,F68,ck_t (by omega),Option.bind_some,rlist_l1 h _ 0 [] hi.oo (by simp;omega)];rfl
theorem says_l8:∀(l:List TOp) (i n:Nat) (s:TStore),Inv n s→Inv2 s→n+l.length≤400→(∀op∈l,OW op.O)→F5_l8 l i s s=some (.inr (playS s l,playS s l))
 |[],i,n,s,_,_,_,_=>by rw[F5_l8];rfl
 |op::l,i,n,s,hi,h,hn,ho=>by
  have h1:=ho op (List.mem_cons_self ..)
  simp only[List.length_cons]at hn
  obtain⟨hi',hx⟩:=step_inv hi h1
  have h':=step_inv2 hi h (by omega) h1
  have ih:=says_l8 l (i+1) (n+1) (stepS s op).1 hi' h' (by omega) fun o hx=>ho o (List.mem_cons_of_mem _ hx)
  rw[F5_l8]
  show(F22 s op).bind _=_
  rw[step_t hi (by omega) h1,Option.bind_some]
  show(F23 s op).bind _=_
  rw[answer_t hi h (by omega) h1,Option.bind_some]
  simp only[tup8,not_true_eq_false,if_false,eta_v]
  have e2:F15 (stepS s op).1 (stepS s op).1=some true:=rsameS_self (hi'.sw (by omega))
  show Option.bind (Option.bind (F24 (stepS s op).2.1 (stepS s op).2.1) _) _=_
  rw[reqO_self hx,Option.bind_some]
  simp only[show nb true=false from rfl,Bool.false_eq_true,if_false]
  show Option.bind (Option.bind (F15 (stepS s op).1 (stepS s op).1) _) _=_
  rw[e2]
  simp only[Option.bind_some,show nb true=false from rfl,Bool.false_eq_true,if_false]
  show(F25 (stepS s op).1 op.Rev).bind _=_
  have hat:∃a e,F25 (stepS s op).1 op.Rev=some (a,e)∧F26 (stepS s op).1 op.Rev=some (a,e)∧(∀o∈a,OW o)∧a.length≤4000000:=by
   by_cases g:op.Rev<0∨(stepS s op).1.Rev<op.Rev
   ·exact⟨_,_,At_over g,rAt_over g,fun _ hh=>(by cases hh),by simp⟩
   ·by_cases g2:op.Rev<(stepS s op).1.Floor
    ·exact⟨_,_,At_under (by omega) (by omega) g2,rAt_under (by omega) (by omega) g2,fun _ hh=>(by cases hh),by simp⟩
    ·obtain⟨k1,k2,k3⟩:=atL_keep hi' op.Rev
     have:=hi'.lb;have:=hi'.rv;have:=hi'.fl
     exact⟨_,_,At_t hi' (by omega) (by omega) (by omega),rAt_t hi' h' (by omega) (by omega) (by omega),k2,by omega⟩
  obtain⟨a,e,a1,a2,a3,a4⟩:=hat
  rw[a1,Option.bind_some]
  show(F26 (stepS s op).1 op.Rev).bind _=_
  rw[a2,Option.bind_some]
  simp only[not_true_eq_false,if_false]
  rw[reql_self a3 a4]
  simp only[Option.bind_some,show nb true=false from rfl,Bool.false_eq_true,if_false]
  exact ih
theorem StoreSays_pure:StoreSays.Pure:=by
 intro l f k h1 h2 h3 hw
 obtain⟨hl,hlen⟩:=ops_ow (l:=l) (by omega)
 obtain⟨b,hb,hb2⟩:=light_t hl hlen
 rw[F5,hb,Option.bind_some,awake_t]
 cases b with
 |false=>rfl
 |true=>
  simp only[show nb true=false from rfl,Bool.false_eq_true,if_false,Option.bind_some]
  by_cases g:40<(f.Selector.length:Int)
  ·rw[decide_eq_true g];rfl
  rw[decide_eq_false g]
  simp only[Bool.false_eq_true,if_false]
  have hsel:selOk f.Selector:=by
   refine⟨by omega,fun r hr=>?_⟩
   have a1:=wL_mem (w:=wRequirement) hr
   unfold wFilter at hw
   unfold wRequirement at a1 hw
   have a2:=wL_len (w:=wS) (fun a=>by unfold wS;omega) r.Values
   omega
  have hll:=hb2 rfl
  have hi:=play_inv (l:=l) inv0 hl
  have hi2:=play_inv2 (l:=l) inv0 inv20 (by omega) hl
  have hp:=says_l8 l 0 0 S0 inv0 inv20 (by omega) hl
  rw[F20,F21,ck_t (by omega)]
  simp only[Option.bind_some]
  show Option.bind (F5_l8 l 0 S0 S0) _=_
  rw[hp,Option.bind_some]
  show(F10 (playS S0 l) k).bind _=_
  rw[get_t hi (by omega),Option.bind_some]
  show(F28 (playS S0 l) k).bind _=_
  have h1:=hi.lo;have h3:=hi.rv
  rw[rget_t hi.oo (by omega),Option.bind_some]
  have hg:OW ((getS (playS S0 l).Objects k).getD ZO):=by
   cases hg:getS (playS S0 l).Objects k with
   |none=>exact OW_ZO
   |some y=>exact hi.oo y (get_mem hg).1
  simp only[tupO,Option.bind_some,if_true,eta_v]
  rw[if_pos (by cases(getS (playS S0 l).Objects k).isSome<;>rfl)]
  show Option.bind (Option.bind (F24 ((getS (playS S0 l).Objects k).getD ZO) ((getS (playS S0 l).Objects k).getD ZO)) _) _=_
  rw[reqO_self hg]
  simp only[Option.bind_some,if_true]
  show Option.bind (Option.bind (F29 (playS S0 l) f) _) _=_
  rw[list_t hi (by omega) hsel]
  simp only[Option.bind_some]
  show Option.bind (Option.bind (F30 (playS S0 l) f) _) _=_
  rw[rlist_t hi (by omega) hsel]
  simp only[Option.bind_some]
  rw[reql_self (fun o ho=>hi.oo o (List.mem_filter.1 ho).1) (by have:=List.length_filter_le (selS f) (playS S0 l).Objects;omega)]
  rfl
open Go Go.Fw
set_option maxRecDepth 100000
set_option linter.unusedVariables false
set_option linter.unusedSimpArgs false
open Go Go.Fw
set_option maxRecDepth 100000
set_option linter.unusedVariables false
set_option linter.unusedSimpArgs false
open Go Go.Fw
set_option maxRecDepth 100000
set_option linter.unusedVariables false
set_option linter.unusedSimpArgs false
end Go.Proofs.YtbopaemngpbdgaaGreat
