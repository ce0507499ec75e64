/- The plain law. -/
import Derived.Test.YtondgcmdhkhkkaaGreatGP
import Derived.Test.YtondgcmdhkhkkaaGreatFP
import Derived.KernelRfl
set_option linter.unusedVariables false
set_option linter.unusedSimpArgs false
namespace Go.Proofs.YtondgcmdhkhkkaaGreat
open Go Go.Fw
set_option maxRecDepth 100000
set_option linter.unusedVariables false
set_option linter.unusedSimpArgs false
section
variable {α:Type}
def S(c:α→Int)(l:List α):Prop:=l.Pairwise fun a b=>c b≤0→c a<0
def plc(c:α→Int):List α→Nat
 |[]=>0
 |y::l=>if c y<0 then plc c l+1 else 0
theorem plc_le(c:α→Int):∀l,plc c l≤l.length
 |[]=>Nat.le_refl _
 |y::l=>by have:=plc_le c l;unfold plc;split<;>simp<;>omega
theorem plc_iff{c:α→Int}:∀{l:List α},S c l→∀i (h:i<l.length),c l[i]<0↔i<plc c l
 |[],_,i,h=>absurd h (by simp)
 |y::l,hs,0,h=>by
  unfold plc
  by_cases hc:c y<0<;>simp[hc]
 |y::l,hs,i+1,h=>by
  have hs2:=List.pairwise_cons.1 hs
  have ih:=plc_iff hs2.2 i (by simpa using h)
  simp only[List.getElem_cons_succ]
  unfold plc
  by_cases hc:c y<0
  ·rw[if_pos hc,ih];omega
  ·rw[if_neg hc]
   exact⟨fun hi=>absurd (hs2.1 _ (List.getElem_mem (by simpa using h)) (Int.le_of_lt hi)) hc,fun hi=>by omega⟩
def mid(a b:Int):Int:=IntKind.i64.wrap (shrV .u64 (IntKind.u64.wrap (IntKind.i64.wrap (a+b))) 1)
theorem mid_eq{a b:Nat}(h:a+b≤4000000):mid (a:Int) (b:Int)=(((a+b)/2:Nat):Int):=by
 unfold mid shrV
 rw[show IntKind.i64.wrap ((a:Int)+b)=(a:Int)+b from wrapI (by omega) (by omega)]
 have e:IntKind.u64.wrap ((a:Int)+b)=((a+b:Nat):Int):=by simp[IntKind.wrap,IntKind.bits,IntKind.signed];omega
 rw[e]
 have e2:((a+b:Nat):Int).fdiv (2^(min (1:Int).toNat IntKind.u64.bits))=(((a+b)/2:Nat):Int):=by
  show((a+b:Nat):Int).fdiv 2=_
  rw[Int.fdiv_eq_ediv_of_nonneg _ (by omega)];omega
 rw[e2,wrapI (by omega) (by omega)]
def bsL(c:α→Int)(xs:List α):Nat→Int→Int→Option Int
 |0,_,_=>none
 |k+1,a,b=>if a<b then(rdI xs (mid a b)).bind fun y=>if c y<0 then bsL c xs k (IntKind.i64.wrap (mid a b+1)) b else bsL c xs k a (mid a b)else some a
theorem bsL_spec{c:α→Int}{xs:List α}(hs:S c xs)(hl:xs.length≤1000000):∀(k a b:Nat),b-a<k→a≤plc c xs→plc c xs≤b→b≤xs.length→bsL c xs k (a:Int) (b:Int)=some (plc c xs:Int)
 |0,a,b,h,_,_,_=>by omega
 |k+1,a,b,h,h1,h2,h3=>by
  unfold bsL
  by_cases hab:a<b
  ·have hm:(a+b)/2<xs.length:=by omega
   rw[if_pos (by omega),mid_eq (by omega),rdI_at hm,Option.bind_some]
   have hi:=plc_iff hs ((a+b)/2) hm
   by_cases hc:c xs[(a+b)/2]<0
   ·rw[if_pos hc]
    have e:IntKind.i64.wrap ((((a+b)/2:Nat):Int)+1)=(((a+b)/2+1:Nat):Int):=wrapN (by omega)
    rw[e]
    exact bsL_spec hs hl k _ b (by omega) (by have:=hi.1 hc;omega) h2 h3
   ·rw[if_neg hc]
    exact bsL_spec hs hl k a _ (by omega) h1 (by have:=mt hi.2 hc;omega) (by omega)
  ·rw[if_neg (by omega)];congr 1;omega
def hasC(c:α→Int)(l:List α):Bool:=l.any fun y=>decide (c y=0)
theorem hasC_cons(c:α→Int)(y:α)(l:List α):hasC c (y::l)=(decide (c y=0)||hasC c l):=by simp[hasC]
theorem hasC_gt{c:α→Int}{l:List α}(h:∀y∈l,0<c y):hasC c l=false:=by
 simp only[hasC,List.any_eq_false,decide_eq_true_eq]
 intro y hy;have:=h y hy;omega
theorem find_at{c:α→Int}:∀{l:List α},S c l→((l[plc c l]?).map fun y=>decide (c y=0)).getD false=hasC c l
 |[],_=>rfl
 |y::l,hs=>by
  have hs2:=List.pairwise_cons.1 hs
  have ih:=find_at hs2.2
  rw[hasC_cons]
  unfold plc
  by_cases hc:c y<0
  ·rw[if_pos hc,List.getElem?_cons_succ,ih];simp;omega
  ·rw[if_neg hc]
   simp only[List.getElem?_cons_zero,Option.map_some,Option.getD_some]
   rw[hasC_gt];·simp
   intro z hz
   have:=hs2.1 z hz
   omega
theorem find_t{c:α→Int}{l:List α}(hs:S c l):(if(plc c l:Int)<(l.length:Int)then(rdI l (plc c l:Int)).bind fun y=>some (decide (c y=0))else some false)=some (hasC c l):=by
 have h:=find_at hs
 by_cases hp:plc c l<l.length
 ·rw[if_pos (by omega),rdI_at hp,Option.bind_some]
  rw[List.getElem?_eq_getElem hp]at h
  simp only[Option.map_some,Option.getD_some]at h
  rw[h]
 ·rw[if_neg (by omega)]
  rw[List.getElem?_eq_none (by omega)]at h
  simp only[Option.map_none,Option.getD_none]at h
  rw[←h]
def insC(c:α→Int)(x:α):List α→List α
 |[]=>[x]
 |y::l=>if c y<0 then y::insC c x l else x::y::l
theorem insC_plc(c:α→Int)(x:α):∀l,l.take (plc c l)++x::l.drop (plc c l)=insC c x l
 |[]=>rfl
 |y::l=>by
  unfold insC plc
  split
  ·rw[←insC_plc c x l];simp
  ·simp
theorem insC_len(c:α→Int)(x:α)(l:List α):(insC c x l).length=l.length+1:=by
 rw[←insC_plc];have:=plc_le c l;simp;omega
theorem insC_mem(c:α→Int)(x z:α):∀l,z∈insC c x l↔z=x∨z∈l
 |[]=>by simp[insC]
 |y::l=>by
  have:=insC_mem c x z l
  unfold insC
  split
  ·simp only[List.mem_cons,this];exact⟨fun h=>h.elim (fun h=> .inr (.inl h)) fun h=>h.elim .inl fun h=> .inr (.inr h),fun h=>h.elim (fun h=> .inr (.inl h)) fun h=>h.elim .inl fun h=> .inr (.inr h)⟩
  ·simp
theorem insC_pw{R:α→α→Prop}{c:α→Int}{x:α}(ht:∀a b d,R a b→R b d→R a d):∀{l:List α},(∀y∈l,c y<0→R y x)→(∀y∈l,¬c y<0→R x y)→l.Pairwise R→(insC c x l).Pairwise R
 |[],_,_,_=>by simp[insC]
 |y::l,h1,h2,hp=>by
  have hp2:=List.pairwise_cons.1 hp
  unfold insC
  split
  ·rename_i hc
   refine List.pairwise_cons.2 ⟨fun z hz=>?_,insC_pw ht (fun z hz=>h1 z (List.mem_cons_of_mem _ hz)) (fun z hz=>h2 z (List.mem_cons_of_mem _ hz)) hp2.2⟩
   rcases(insC_mem c x z l).1 hz with rfl|hz
   ·exact h1 y (List.mem_cons_self ..) hc
   ·exact hp2.1 z hz
  ·rename_i hc
   have hxy:=h2 y (List.mem_cons_self ..) hc
   refine List.pairwise_cons.2 ⟨fun z hz=>?_,hp⟩
   rcases List.mem_cons.1 hz with rfl|hz
   ·exact hxy
   ·exact ht _ _ _ hxy (hp2.1 z hz)
theorem rem_C{c:α→Int}:∀{l:List α},S c l→hasC c l=true→l.take (plc c l)++l.drop (plc c l+1)=l.filter fun y=>decide (c y≠0)
 |[],_,h=>by simp[hasC]at h
 |y::l,hs,h=>by
  have hs2:=List.pairwise_cons.1 hs
  rw[hasC_cons]at h
  unfold plc
  by_cases hc:c y<0
  ·rw[if_pos hc,List.filter_cons_of_pos (by simp;omega),←rem_C hs2.2 (by simp at h;rcases h with h|h<;>first|omega|exact h)]
   simp
  ·rw[if_neg hc]
   have hg:∀z∈l,0<c z:=fun z hz=>by have:=hs2.1 z hz;omega
   rw[hasC_gt hg]at h
   simp at h
   rw[List.filter_cons_of_neg (by simp[h]),List.filter_eq_self.2 fun z hz=>by have:=hg z hz;simp;omega]
   simp
end
theorem scmp_neg(a b:ByteArray):scmp a b<0↔lt a b:=by
 unfold scmp
 by_cases h:lt a b
 ·simp[h]
 ·rw[if_neg h]
  by_cases h2:a=b
  ·rw[if_pos h2];simp[h]
  ·rw[if_neg h2];simp[h]
theorem scmp_zero(a b:ByteArray):scmp a b=0↔a=b:=by
 unfold scmp
 by_cases h:lt a b
 ·simp[h,lt_ne h]
 ·rw[if_neg h]
  by_cases h2:a=b<;>simp[h2]
theorem scmp_np(a b:ByteArray):scmp a b≤0↔lt a b∨a=b:=by
 rw[←scmp_neg,←scmp_zero];omega
theorem exb{α β:Type}{e:Option α}{f:α→Option β}(h:∃a,e=some a)(hf:∀a,e=some a→∃r,f a=some r):∃r,e.bind f=some r:=by
 obtain⟨a,ha⟩:=h;obtain⟨r,hr⟩:=hf a ha;exact⟨r,by rw[ha];exact hr⟩
theorem exif{α:Type}{p:Prop}[Decidable p]{a b:Option α}(h1:p→∃r,a=some r)(h2:¬p→∃r,b=some r):∃r,(if p then a else b)=some r:=by
 by_cases h:p
 ·rw[if_pos h];exact h1 h
 ·rw[if_neg h];exact h2 h
theorem exmap{α β:Type}{e:Option α}{f:α→β}(h:∃a,e=some a):∃r,e.map f=some r:=by
 obtain⟨a,ha⟩:=h;exact⟨f a,by rw[ha];rfl⟩
theorem exck{p:Prop}[Decidable p](h:p):∃r,ck p=some r:=⟨(),ck_t h⟩
theorem byI_ex{b:ByteArray}{i:Int}(h:0≤i)(h2:i<b.size):∃y,byI b i=some y:=by
 obtain⟨n,rfl⟩:∃n:Nat,i=n:=⟨i.toNat,by omega⟩
 have hs:n<b.size:=by omega
 exact⟨(b[n].toNat:Int),by unfold byI;rw[if_pos (by omega)];simp[hs]⟩
theorem rdI_ex{α:Type}{l:List α}{i:Int}(h:0≤i)(h2:i<l.length):∃y,rdI l i=some y:=by
 obtain⟨n,rfl⟩:∃n:Nat,i=n:=⟨i.toNat,by omega⟩
 exact⟨_,rdI_at (by omega)⟩
theorem apI_ex{α:Type}{xs ys:List α}(h:xs.length+ys.length≤4294967290):∃y,apI xs ys=some y:=⟨_,apI_t h⟩
theorem rdI_val{α:Type}{l:List α}{i:Nat}{y:α}(h:l[i]? =some y):rdI l (i:Int)=some y:=by rw[rdI_nat];exact h
theorem drop_hd{α:Type}{l:List α}{i:Nat}{x:α}{xs:List α}(e:l.drop i=x::xs):l[i]? =some x:=by rw[←List.head?_drop,e];rfl
theorem drop_tl{α:Type}{l:List α}{i:Nat}{x:α}{xs:List α}(e:l.drop i=x::xs):l.drop (i+1)=xs:=by
 rw[←List.drop_drop,e];rfl
theorem set_same{α:Type}:∀{l:List α} {i:Nat} {x:α},l[i]? =some x→l.set i x=l
 |[],_,_,h=>by simp at h
 |y::l,0,x,h=>by simp at h;simp[h]
 |y::l,i+1,x,h=>by simp at h;simp[set_same h]
theorem cl_t{α:Type}{l:List α}(h:l.length≤4294967290):cloneI l=some l:=if_pos h
theorem catI_t{a b:ByteArray}(h:a.size+b.size≤9223372036854775807):catI a b=some (a++b):=if_pos h
theorem bsize(a b:ByteArray):(a++b).size=a.size+b.size:=ByteArray.size_append
theorem wr_p{i:Nat}(h:0<(i:Int))(h2:i≤4294967296):IntKind.i64.wrap ((i:Int)-1)=((i-1:Nat):Int):=by rw[wrapI (by omega) (by omega)];omega
theorem wL_mem{α:Type}{w:α→Nat}{x:α}:∀{l:List α},x∈l→w x+1≤wL w l
 |[],h=>by cases h
 |y::l,h=>by
  unfold wL
  simp only[List.map_cons,List.sum_cons]
  rcases List.mem_cons.1 h with rfl|h
  ·omega
  ·have:=wL_mem (w:=w) h;unfold wL at this;omega
open Go Go.Fw
set_option maxRecDepth 100000
set_option linter.unusedVariables false
set_option linter.unusedSimpArgs false
theorem wF_pos(f:TField):1≤wTField f:=by rw[wTField_u];omega
theorem wV_pos(v:TValue):1≤wTValue v:=by rw[wTValue_u];omega
theorem wV_list{v x:TValue}(h:x∈v.List_):wTValue x<wTValue v:=by
 rw[wTValue_u v];have:=wL_mem (w:=wTValue) h;unfold wN;omega
theorem wV_field{v:TValue}{x:TField}(h:x∈v.Fields):wTValue x.V<wTValue v:=by
 rw[wTValue_u v];have:=wL_mem (w:=wTField) h;rw[wTField_u]at this;unfold wN at*;omega
theorem wV_name{v:TValue}{x:TField}(h:x∈v.Fields):x.Name.size<wTValue v:=by
 rw[wTValue_u v];have:=wL_mem (w:=wTField) h;rw[wTField_u]at this;unfold wN wS at*;omega
theorem wV_ll(v:TValue):v.List_.length<wTValue v:=by
 rw[wTValue_u v];have:=wL_len wV_pos v.List_;unfold wN;omega
theorem wV_fl(v:TValue):v.Fields.length<wTValue v:=by
 rw[wTValue_u v];have:=wL_len wF_pos v.Fields;unfold wN;omega
theorem wV_s(v:TValue):v.S.size<wTValue v:=by
 rw[wTValue_u v];unfold wN wS;omega
theorem eta_v(x:TValue):(⟨x.Kind,x.N,x.S,x.List_,x.Fields⟩:TValue)=x:=by cases x;rfl
theorem eta_f(x:TField):(⟨x.Name,x.V⟩:TField)=x:=by cases x;rfl
theorem vclone_l2(rc:TValue→Option (List TValue×List TField))(l:List TValue)(h:∀y∈l,rc y=some (y.List_,y.Fields)):∀(xs:List TValue) (i:Nat),l.drop i=xs→F97_l2 rc xs i l=some l
 |[],i,_=>by rw[F97_l2]
 |x::xs,i,e=>by
  have hx:=drop_hd e
  rw[F97_l2,rdI_val hx]
  simp only[Option.bind_some]
  rw[h x (List.mem_of_getElem? hx)]
  simp only[Option.bind_some,Int.toNat_natCast]
  rw[eta_v]
  rw[set_same hx]
  exact vclone_l2 rc l h xs (i+1) (drop_tl e)
theorem vclone_l9(rc:TValue→Option (List TValue×List TField))(l:List TField)(h:∀y∈l,rc y.V=some (y.V.List_,y.V.Fields)):∀(xs:List TField) (i:Nat),l.drop i=xs→F97_l9 rc xs i l=some l
 |[],i,_=>by rw[F97_l9]
 |x::xs,i,e=>by
  have hx:=drop_hd e
  rw[F97_l9,rdI_val hx]
  simp only[Option.bind_some]
  rw[h x (List.mem_of_getElem? hx)]
  simp only[Option.bind_some,Int.toNat_natCast]
  rw[eta_v,eta_f]
  rw[set_same hx]
  exact vclone_l9 rc l h xs (i+1) (drop_tl e)
theorem vclone_t:∀(k:Nat) (v:TValue),wTValue v≤k→wTValue v≤4294967290→F97k k v=some (v.List_,v.Fields)
 |0,v,h,_=>by have:=wV_pos v;omega
 |k+1,v,h,h2=>by
  have l1:=wV_ll v
  have l2:=wV_fl v
  rw[F97k,F97,cl_t (by omega),Option.bind_some,ck_t (by omega),Option.bind_some,vclone_l2 _ _ (fun y hy=>vclone_t k y (by have:=wV_list hy;omega) (by have:=wV_list hy;omega)) _ 0 (List.drop_zero ..),Option.bind_some,cl_t (by omega),Option.bind_some,ck_t (by omega),Option.bind_some,vclone_l9 _ _ (fun y hy=>vclone_t k y.V (by have:=wV_field hy;omega) (by have:=wV_field hy;omega)) _ 0 (List.drop_zero ..)]
  rfl
theorem cloneV_t(v:TValue)(h:wTValue v≤4000000):F110 v=some v:=by
 rw[F110,F74,vclone_t]
 ·rfl
 ·rw[wTValue_u];simp only[wN,wS,wL,List.map_cons,List.map_nil,List.sum_cons,List.sum_nil,show(⟨#[]⟩:ByteArray).size=0 from rfl];omega
 ·rw[wTValue_u];simp only[wN,wS,wL,List.map_cons,List.map_nil,List.sum_cons,List.sum_nil,show(⟨#[]⟩:ByteArray).size=0 from rfl];omega
theorem vsize_l1(rc:TValue→Option Int):∀(l:List TValue) (i:Nat) (n:Int),(∀y∈l,∃r,rc y=some r)→∃r,F138_l1 rc l i n=some r
 |[],i,n,_=>⟨n,by rw[F138_l1]⟩
 |x::l,i,n,h=>by
  rw[F138_l1]
  exact exb (h x (List.mem_cons_self ..)) fun _ _=>vsize_l1 rc l _ _ fun y hy=>h y (List.mem_cons_of_mem _ hy)
theorem vsize_l5(rc:TValue→Option Int):∀(l:List TField) (i:Nat) (n:Int),(∀y∈l,∃r,rc y.V=some r)→∃r,F138_l5 rc l i n=some r
 |[],i,n,_=>⟨n,by rw[F138_l5]⟩
 |x::l,i,n,h=>by
  rw[F138_l5]
  exact exb (h x (List.mem_cons_self ..)) fun _ _=>vsize_l5 rc l _ _ fun y hy=>h y (List.mem_cons_of_mem _ hy)
theorem vsize_ex:∀(k:Nat) (v:TValue),wTValue v≤k→wTValue v≤4294967290→∃r,F138k k v=some r
 |0,v,h,_=>by have:=wV_pos v;omega
 |k+1,v,h,h2=>by
  have l1:=wV_ll v
  have l2:=wV_fl v
  rw[F138k,F138]
  exact exb (exb (exck (by omega)) fun _ _=>vsize_l1 _ _ _ _ fun y hy=>vsize_ex k y (by have:=wV_list hy;omega) (by have:=wV_list hy;omega)) fun _ _=>exb (exb (exck (by omega)) fun _ _=>vsize_l5 _ _ _ _ fun y hy=>vsize_ex k y.V (by have:=wV_field hy;omega) (by have:=wV_field hy;omega)) fun _ _=>⟨_,rfl⟩
theorem size_same_l1(rc:TValue→Option Int):∀(l:List TValue) (i:Nat) (n:Int),F62_l1 rc l i n=F138_l1 rc l i n
 |[],i,n=>by rw[F138_l1,F62_l1]
 |x::l,i,n=>by
  rw[F138_l1,F62_l1];congr 1;funext a;exact size_same_l1 rc l _ _
theorem size_same_l5(rc:TValue→Option Int):∀(l:List TField) (i:Nat) (n:Int),F62_l5 rc l i n=F138_l5 rc l i n
 |[],i,n=>by rw[F138_l5,F62_l5]
 |x::l,i,n=>by
  rw[F138_l5,F62_l5];congr 1;funext a;exact size_same_l5 rc l _ _
theorem size_same:∀k:Nat,F62k k=F138k k
 |0=>rfl
 |k+1=>by
  funext v
  rw[F62k,F138k,F62,F138,size_same k]
  simp only[size_same_l1,size_same_l5]
theorem text_l1(s:ByteArray)(hs:s.size≤4294967290):∀(n i k:Nat),s.size=i+n→n<k→∃r,F146_l1 s k (i:Int)=some r
 |0,i,k+1,h,_=>by rw[F146_l1,if_neg (by omega)];exact⟨_,rfl⟩
 |n+1,i,k+1,h,hk=>by
  rw[F146_l1,if_pos (by omega),wrapN (by omega)]
  have ih:=text_l1 s hs n (i+1) k (by omega) (by omega)
  repeat'(first|exact⟨_,rfl⟩|exact ih|exact exck (by omega)|exact byI_ex (by omega) (by omega)|exact rdI_ex (by omega) (by omega)|exact apI_ex (by omega)|with_reducible refine exif (fun _=>?_) (fun _=>?_)|with_reducible refine exb ?_ (fun _ _=>?_)|with_reducible refine exmap ?_|split)
theorem text_ex(s:ByteArray)(hs:s.size≤4294967290):∃r,F146 s=some r:=by
 rw[F146]
 exact exb (by have:=text_l1 s hs s.size 0 1099511627776 (by omega) (by omega);exact this) fun o _=>by repeat'(first|exact⟨_,rfl⟩|exact exck (by omega)|exact byI_ex (by omega) (by omega)|exact rdI_ex (by omega) (by omega)|exact apI_ex (by omega)|with_reducible refine exif (fun _=>?_) (fun _=>?_)|with_reducible refine exb ?_ (fun _ _=>?_)|with_reducible refine exmap ?_|split)
theorem vname_l1(s:ByteArray)(hs:s.size≤4294967290):∀(n i k:Nat),s.size=i+n→n<k→∃r,F144_l1 s k (i:Int)=some r
 |0,i,k+1,h,_=>by rw[F144_l1,if_neg (by omega)];exact⟨_,rfl⟩
 |n+1,i,k+1,h,hk=>by
  rw[F144_l1,if_pos (by omega),wrapN (by omega)]
  have ih:=vname_l1 s hs n (i+1) k (by omega) (by omega)
  repeat'(first|exact⟨_,rfl⟩|exact ih|exact exck (by omega)|exact byI_ex (by omega) (by omega)|exact rdI_ex (by omega) (by omega)|exact apI_ex (by omega)|with_reducible refine exif (fun _=>?_) (fun _=>?_)|with_reducible refine exb ?_ (fun _ _=>?_)|with_reducible refine exmap ?_|split)
theorem vname_ex(s:ByteArray)(hs:s.size≤4294967290):∃r,F144 s=some r:=by
 rw[F144]
 exact exb (by have:=vname_l1 s hs s.size 0 1099511627776 (by omega) (by omega);exact this) fun o _=>by repeat'(first|exact⟨_,rfl⟩|exact exck (by omega)|exact byI_ex (by omega) (by omega)|exact rdI_ex (by omega) (by omega)|exact apI_ex (by omega)|with_reducible refine exif (fun _=>?_) (fun _=>?_)|with_reducible refine exb ?_ (fun _ _=>?_)|with_reducible refine exmap ?_|split)
theorem scalar_ex(v:TValue)(hs:v.S.size≤4294967290):∃r,F143 v=some r:=by
 rw[F143]
 have h:=text_ex v.S hs
 repeat'(first|exact⟨_,rfl⟩|exact h|exact exck (by omega)|exact byI_ex (by omega) (by omega)|exact rdI_ex (by omega) (by omega)|exact apI_ex (by omega)|with_reducible refine exif (fun _=>?_) (fun _=>?_)|with_reducible refine exb ?_ (fun _ _=>?_)|with_reducible refine exmap ?_|split)
theorem vvalid_l16(rc:TValue→Int→Option Bool)(d:Int):∀(l:List TValue) (i:Nat),(∀y∈l,∀d,∃r,rc y d=some r)→∃r,F137_l16 rc d l i=some r
 |[],i,_=>⟨_,by rw[F137_l16]⟩
 |x::l,i,h=>by
  rw[F137_l16]
  have ih:=vvalid_l16 rc d l (i+1) fun y hy=>h y (List.mem_cons_of_mem _ hy)
  exact exb (h x (List.mem_cons_self ..) _) fun _ _=>by repeat'(first|exact⟨_,rfl⟩|exact ih|exact exck (by omega)|exact byI_ex (by omega) (by omega)|exact rdI_ex (by omega) (by omega)|exact apI_ex (by omega)|with_reducible refine exif (fun _=>?_) (fun _=>?_)|with_reducible refine exb ?_ (fun _ _=>?_)|with_reducible refine exmap ?_|split)
theorem vvalid_l21(rc:TValue→Int→Option Bool)(v:TValue)(d:Int)(hv:wTValue v≤4294967290)(h:∀y∈v.Fields,∀d,∃r,rc y.V d=some r):∀(l:List TField) (i:Nat),v.Fields.drop i=l→∃r,F137_l21 rc v d l i=some r
 |[],i,_=>⟨_,by rw[F137_l21]⟩
 |x::l,i,e=>by
  rw[F137_l21]
  have ih:=vvalid_l21 rc v d hv h l (i+1) (drop_tl e)
  have hx:=List.mem_of_getElem? (drop_hd e)
  have hn:=vname_ex x.Name (by have:=wV_name hx;omega)
  have hr:=h x hx (IntKind.i64.wrap (d-1))
  have hi:=(List.getElem?_eq_some_iff.1 (drop_hd e)).1
  have hl:=wV_fl v
  by_cases h0:0<(i:Int)
  ·have hp:∃y,rdI v.Fields (IntKind.i64.wrap ((i:Int)-1))=some y:=by rw[wr_p h0 (by omega)];exact rdI_ex (by omega) (by omega)
   repeat'(first|exact⟨_,rfl⟩|exact ih|exact hn|exact hr|exact hp|exact exck (by omega)|exact byI_ex (by omega) (by omega)|exact rdI_ex (by omega) (by omega)|exact apI_ex (by omega)|with_reducible refine exif (fun _=>?_) (fun _=>?_)|with_reducible refine exb ?_ (fun _ _=>?_)|with_reducible refine exmap ?_|split)
  ·rw[if_neg h0]
   repeat'(first|exact⟨_,rfl⟩|exact ih|exact hn|exact hr|exact exck (by omega)|exact byI_ex (by omega) (by omega)|exact rdI_ex (by omega) (by omega)|exact apI_ex (by omega)|with_reducible refine exif (fun _=>?_) (fun _=>?_)|with_reducible refine exb ?_ (fun _ _=>?_)|with_reducible refine exmap ?_|split)
theorem vvalid_ex:∀(k:Nat) (v:TValue) (d:Int),wTValue v≤k→wTValue v≤4294967290→∃r,F137k k v d=some r
 |0,v,d,h,_=>by have:=wV_pos v;omega
 |k+1,v,d,h,h2=>by
  have l1:=wV_ll v
  have l2:=wV_fl v
  have l3:=wV_s v
  rw[F137k,F137]
  have g0:=scalar_ex v (by omega)
  have g1:=vvalid_l16 (F137k k) d v.List_ 0 fun y hy d=>vvalid_ex k y d (by have:=wV_list hy;omega) (by have:=wV_list hy;omega)
  have g2:=vvalid_l21 (F137k k) v d h2 (fun y hy d=>vvalid_ex k y.V d (by have:=wV_field hy;omega) (by have:=wV_field hy;omega)) v.Fields 0 (List.drop_zero ..)
  repeat'(first|exact⟨_,rfl⟩|exact g0|exact g1|exact g2|exact exck (by omega)|exact byI_ex (by omega) (by omega)|exact rdI_ex (by omega) (by omega)|exact apI_ex (by omega)|with_reducible refine exif (fun _=>?_) (fun _=>?_)|with_reducible refine exb ?_ (fun _ _=>?_)|with_reducible refine exmap ?_|split)
theorem vValid_ex(v:TValue)(h:wTValue v≤4000000):∃r,F117 v=some r:=by
 rw[F117]
 have g1:=vvalid_ex 1099511627776 v 12 (by omega) (by omega)
 have g2:=vsize_ex 1099511627776 v (by omega) (by omega)
 repeat'(first|exact⟨_,rfl⟩|exact g1|exact g2|exact exck (by omega)|exact byI_ex (by omega) (by omega)|exact rdI_ex (by omega) (by omega)|exact apI_ex (by omega)|with_reducible refine exif (fun _=>?_) (fun _=>?_)|with_reducible refine exb ?_ (fun _ _=>?_)|with_reducible refine exmap ?_|split)
open Go Go.Fw
set_option maxRecDepth 100000
set_option linter.unusedVariables false
set_option linter.unusedSimpArgs false
structure OW(o:Object):Prop where
 key:o.Meta.Kind.size+o.Meta.Namespace.size+o.Meta.Name.size≤4000000
 labels:o.Meta.Labels.length≤4000000
 owners:o.Meta.Owners.length≤4000000
 fins:o.Meta.Finalizers.length≤4000000
 mans:o.Meta.Managers.length≤4000000
 man:∀m∈o.Meta.Managers,m.Fields.length≤4000000∧m.Name.size≤4000000
 spec:wTValue o.Spec≤4000000
 status:wTValue o.Status≤4000000
 label:∀l∈o.Meta.Labels,l.Key.size≤4000000∧l.Value.size≤4000000
 owner:∀l∈o.Meta.Owners,l.Kind.size≤4000000∧l.Name.size≤4000000
 fin:∀l∈o.Meta.Finalizers,l.size≤4000000
theorem oW{o:Object}(h:wObject o≤4000000):OW o:=by
 unfold wObject wMeta at h
 have a1:=wL_len (w:=wLabel) (fun a=>by unfold wLabel;omega) o.Meta.Labels
 have a2:=wL_len (w:=wOwner) (fun a=>by unfold wOwner;omega) o.Meta.Owners
 have a3:=wL_len (w:=wS) wS_pos o.Meta.Finalizers
 have a4:=wL_len (w:=wManager) (fun a=>by unfold wManager;omega) o.Meta.Managers
 simp only[wN,wS]at h a3
 refine⟨by omega,by omega,by omega,by omega,by omega,fun m hm=>?_,by omega,by omega,fun l hl=>?_,fun l hl=>?_,fun l hl=>?_⟩
 ·have:=wL_mem (w:=wManager) hm
  unfold wManager at this
  have b:=wL_len (w:=wS) wS_pos m.Fields
  simp only[wS]at this b
  unfold wManager at h;simp only[wS]at h
  omega
 ·have:=wL_mem (w:=wLabel) hl
  unfold wLabel at this h;simp only[wS]at this h
  omega
 ·have:=wL_mem (w:=wOwner) hl
  unfold wOwner at this h;simp only[wS,wN]at this h
  omega
 ·have:wS l+1≤_:=wL_mem (w:=wS) hl
  have e:wS l=l.size+1:=rfl
  omega
def keyB(m:Meta):ByteArray:=(((m.Kind++(⟨#[47]⟩:ByteArray))++m.Namespace)++(⟨#[47]⟩:ByteArray))++m.Name
def keyO(o:Object):ByteArray:=keyB o.Meta
theorem sl1:(⟨#[47]⟩:ByteArray).size=1:=rfl
theorem KeyOf_t{m:Meta}(h:m.Kind.size+m.Namespace.size+m.Name.size≤4000000):F24 m=some (keyB m):=by
 rw[F24,F56,catI_t (by rw[sl1];omega),Option.bind_some,catI_t (by rw[bsize,sl1];omega),Option.bind_some,catI_t (by rw[bsize,bsize,sl1];omega),Option.bind_some,catI_t (by rw[bsize,bsize,bsize,sl1];omega)]
 rfl
theorem rKeyOf_t{m:Meta}(h:m.Kind.size+m.Namespace.size+m.Name.size≤4000000):F75 m=some (keyB m):=KeyOf_t h
theorem rkey_t{o:Object}(h:OW o):F55 o=some (keyO o):=by
 rw[F55,rKeyOf_t h.key];rfl
theorem mkind_l1(s:ByteArray)(hs:s.size≤4294967290):∀(n i k:Nat),s.size=i+n→n<k→∃r,F130_l1 s k (i:Int)=some r
 |0,i,k+1,h,_=>by rw[F130_l1,if_neg (by omega)];exact⟨_,rfl⟩
 |n+1,i,k+1,h,hk=>by
  rw[F130_l1,if_pos (by omega),wrapN (by omega)]
  have ih:=mkind_l1 s hs n (i+1) k (by omega) (by omega)
  repeat'(first|exact⟨_,rfl⟩|exact ih|exact exck (by omega)|exact byI_ex (by omega) (by omega)|exact rdI_ex (by omega) (by omega)|exact apI_ex (by omega)|with_reducible refine exif (fun _=>?_) (fun _=>?_)|with_reducible refine exb ?_ (fun _ _=>?_)|with_reducible refine exmap ?_|split)
theorem mkind_ex(s:ByteArray)(hs:s.size≤4294967290):∃r,F130 s=some r:=by
 rw[F130]
 exact exb (by have:=mkind_l1 s hs s.size 0 1099511627776 (by omega) (by omega);exact this) fun o _=>by repeat'(first|exact⟨_,rfl⟩|exact exck (by omega)|exact byI_ex (by omega) (by omega)|exact rdI_ex (by omega) (by omega)|exact apI_ex (by omega)|with_reducible refine exif (fun _=>?_) (fun _=>?_)|with_reducible refine exb ?_ (fun _ _=>?_)|with_reducible refine exmap ?_|split)
theorem mname_l1(s:ByteArray)(hs:s.size≤4294967290):∀(n i k:Nat),s.size=i+n→n<k→∃r,F132_l1 s k (i:Int)=some r
 |0,i,k+1,h,_=>by rw[F132_l1,if_neg (by omega)];exact⟨_,rfl⟩
 |n+1,i,k+1,h,hk=>by
  rw[F132_l1,if_pos (by omega),wrapN (by omega)]
  have ih:=mname_l1 s hs n (i+1) k (by omega) (by omega)
  repeat'(first|exact⟨_,rfl⟩|exact ih|exact exck (by omega)|exact byI_ex (by omega) (by omega)|exact rdI_ex (by omega) (by omega)|exact apI_ex (by omega)|with_reducible refine exif (fun _=>?_) (fun _=>?_)|with_reducible refine exb ?_ (fun _ _=>?_)|with_reducible refine exmap ?_|split)
theorem mname_ex(s:ByteArray)(hs:s.size≤4294967290):∃r,F132 s=some r:=by
 rw[F132]
 refine exb (by have:=mname_l1 s hs s.size 0 1099511627776 (by omega) (by omega);exact this) fun o _=>?_
 have hw:1≤(s.size:Int)→∃y,byI s (IntKind.i64.wrap ((s.size:Int)-1))=some y:=fun h=>by
  rw[wr_p (by omega) (by omega)];exact byI_ex (by omega) (by omega)
 repeat'(first|exact⟨_,rfl⟩|exact hw (by assumption)|exact exck (by omega)|exact byI_ex (by omega) (by omega)|exact rdI_ex (by omega) (by omega)|exact apI_ex (by omega)|with_reducible refine exif (fun _=>?_) (fun _=>?_)|with_reducible refine exb ?_ (fun _ _=>?_)|with_reducible refine exmap ?_|split)
theorem mspace_ex(s:ByteArray)(hs:s.size≤4294967290):∃r,F131 s=some r:=by
 rw[F131]
 have h:=mname_ex s hs
 repeat'(first|exact⟨_,rfl⟩|exact h|exact exck (by omega)|exact byI_ex (by omega) (by omega)|exact rdI_ex (by omega) (by omega)|exact apI_ex (by omega)|with_reducible refine exif (fun _=>?_) (fun _=>?_)|with_reducible refine exb ?_ (fun _ _=>?_)|with_reducible refine exmap ?_|split)
theorem wbyte_ex(n:Int):∃r,F113 n=some r:=by
 rw[F113]
 repeat'(first|exact⟨_,rfl⟩|exact exck (by omega)|exact byI_ex (by omega) (by omega)|exact rdI_ex (by omega) (by omega)|exact apI_ex (by omega)|with_reducible refine exif (fun _=>?_) (fun _=>?_)|with_reducible refine exb ?_ (fun _ _=>?_)|with_reducible refine exmap ?_|split)
theorem lkey_l8(s:ByteArray)(hs:s.size≤4294967290):∀(n i k:Nat),s.size=i+n→n<k→∃r,F87_l8 s k (i:Int)=some r
 |0,i,k+1,h,_=>by rw[F87_l8,if_neg (by omega)];exact⟨_,rfl⟩
 |n+1,i,k+1,h,hk=>by
  rw[F87_l8,if_pos (by omega),wrapN (by omega)]
  have ih:=lkey_l8 s hs n (i+1) k (by omega) (by omega)
  repeat'(first|exact⟨_,rfl⟩|exact ih|exact wbyte_ex _|exact exck (by omega)|exact byI_ex (by omega) (by omega)|exact rdI_ex (by omega) (by omega)|exact apI_ex (by omega)|with_reducible refine exif (fun _=>?_) (fun _=>?_)|with_reducible refine exb ?_ (fun _ _=>?_)|with_reducible refine exmap ?_|split)
theorem size_ne{s:ByteArray}(h:¬s=(⟨#[]⟩:ByteArray)):0<s.size:=by
 rcases Nat.eq_zero_or_pos s.size with h0|h0
 ·refine(h ?_).elim
  obtain⟨a⟩:=s
  have:a= #[]:=Array.size_eq_zero_iff.1 h0
  rw[this]
 ·exact h0
theorem lkey_ex(s:ByteArray)(hs:s.size≤4294967290):∃r,F87 s=some r:=by
 rw[F87]
 have h8:∃r,F87_l8 s 1099511627776 0=some r:=lkey_l8 s hs s.size 0 1099511627776 (by omega) (by omega)
 have h0:¬s=(⟨#[]⟩:ByteArray)→∃y,byI s 0=some y:=fun h=>byI_ex (by omega) (by have:=size_ne h;omega)
 repeat'(first|exact⟨_,rfl⟩|exact h8|exact h0 (by assumption)|exact exck (by omega)|exact byI_ex (by omega) (by omega)|exact rdI_ex (by omega) (by omega)|exact apI_ex (by omega)|with_reducible refine exif (fun _=>?_) (fun _=>?_)|with_reducible refine exb ?_ (fun _ _=>?_)|with_reducible refine exmap ?_|split)
theorem lval_l2(s:ByteArray)(hs:s.size≤4294967290):∀(n i k:Nat),s.size=i+n→n<k→∃r,F89_l2 s k (i:Int)=some r
 |0,i,k+1,h,_=>by rw[F89_l2,if_neg (by omega)];exact⟨_,rfl⟩
 |n+1,i,k+1,h,hk=>by
  rw[F89_l2,if_pos (by omega),wrapN (by omega)]
  have ih:=lval_l2 s hs n (i+1) k (by omega) (by omega)
  repeat'(first|exact⟨_,rfl⟩|exact ih|exact wbyte_ex _|exact exck (by omega)|exact byI_ex (by omega) (by omega)|exact rdI_ex (by omega) (by omega)|exact apI_ex (by omega)|with_reducible refine exif (fun _=>?_) (fun _=>?_)|with_reducible refine exb ?_ (fun _ _=>?_)|with_reducible refine exmap ?_|split)
theorem lval_ex(s:ByteArray)(hs:s.size≤4294967290):∃r,F89 s=some r:=by
 rw[F89]
 have h2:∃r,F89_l2 s 1099511627776 0=some r:=lval_l2 s hs s.size 0 1099511627776 (by omega) (by omega)
 repeat'(first|exact⟨_,rfl⟩|exact h2|exact exck (by omega)|exact byI_ex (by omega) (by omega)|exact rdI_ex (by omega) (by omega)|exact apI_ex (by omega)|with_reducible refine exif (fun _=>?_) (fun _=>?_)|with_reducible refine exb ?_ (fun _ _=>?_)|with_reducible refine exmap ?_|split)
theorem lvalid_l2(l:List Label)(hl:l.length≤4294967290)(h:∀x∈l,x.Key.size≤4294967290∧x.Value.size≤4294967290):∀(xs:List Label) (i:Nat),l.drop i=xs→∃r,F133_l2 l xs i=some r
 |[],i,_=>⟨_,by rw[F133_l2]⟩
 |x::xs,i,e=>by
  rw[F133_l2]
  have ih:=lvalid_l2 l hl h xs (i+1) (drop_tl e)
  have hx:=List.mem_of_getElem? (drop_hd e)
  have hi:=(List.getElem?_eq_some_iff.1 (drop_hd e)).1
  have g1:=lkey_ex x.Key (h x hx).1
  have g2:=lval_ex x.Value (h x hx).2
  have hp:0<(i:Int)→∃y,rdI l (IntKind.i64.wrap ((i:Int)-1))=some y:=fun h0=>by rw[wr_p h0 (by omega)];exact rdI_ex (by omega) (by omega)
  repeat'(first|exact⟨_,rfl⟩|exact ih|exact g1|exact g2|exact hp (by assumption)|exact exck (by omega)|exact byI_ex (by omega) (by omega)|exact rdI_ex (by omega) (by omega)|exact apI_ex (by omega)|with_reducible refine exif (fun _=>?_) (fun _=>?_)|with_reducible refine exb ?_ (fun _ _=>?_)|with_reducible refine exmap ?_|split)
theorem lvalid_ex(l:List Label)(hl:l.length≤4294967290)(h:∀x∈l,x.Key.size≤4294967290∧x.Value.size≤4294967290):∃r,F133 l=some r:=by
 rw[F133]
 have g:=lvalid_l2 l hl h l 0 (List.drop_zero ..)
 repeat'(first|exact⟨_,rfl⟩|exact g|exact exck (by omega)|exact byI_ex (by omega) (by omega)|exact rdI_ex (by omega) (by omega)|exact apI_ex (by omega)|with_reducible refine exif (fun _=>?_) (fun _=>?_)|with_reducible refine exb ?_ (fun _ _=>?_)|with_reducible refine exmap ?_|split)
theorem own_l1:∀(l:List Owner) (i:Nat) (a:List (Int×Bool)) (n:Int),(∀x∈l,x.Kind.size≤4294967290∧x.Name.size≤4294967290)→∃r,F134_l1 l i a n=some r
 |[],i,a,n,_=>⟨_,by rw[F134_l1]⟩
 |x::l,i,a,n,h=>by
  rw[F134_l1]
  have ih:=fun a n=>own_l1 l (i+1) a n fun y hy=>h y (List.mem_cons_of_mem _ hy)
  have g1:=mkind_ex x.Kind (h x (List.mem_cons_self ..)).1
  have g2:=mname_ex x.Name (h x (List.mem_cons_self ..)).2
  repeat'(first|exact⟨_,rfl⟩|exact ih _ _|exact g1|exact g2|exact exck (by omega)|exact byI_ex (by omega) (by omega)|exact rdI_ex (by omega) (by omega)|exact apI_ex (by omega)|with_reducible refine exif (fun _=>?_) (fun _=>?_)|with_reducible refine exb ?_ (fun _ _=>?_)|with_reducible refine exmap ?_|split)
theorem own_ex(l:List Owner)(hl:l.length≤4294967290)(h:∀x∈l,x.Kind.size≤4294967290∧x.Name.size≤4294967290):∃r,F134 l=some r:=by
 rw[F134]
 have g:=own_l1 l 0 [] 0 h
 repeat'(first|exact⟨_,rfl⟩|exact g|exact exck (by omega)|exact byI_ex (by omega) (by omega)|exact rdI_ex (by omega) (by omega)|exact apI_ex (by omega)|with_reducible refine exif (fun _=>?_) (fun _=>?_)|with_reducible refine exb ?_ (fun _ _=>?_)|with_reducible refine exmap ?_|split)
theorem fin_l1:∀(l:List ByteArray) (i:Nat) (a:List (ByteArray×Bool)),(∀x∈l,x.size≤4294967290)→∃r,F135_l1 l i a=some r
 |[],i,a,_=>⟨_,by rw[F135_l1]⟩
 |x::l,i,a,h=>by
  rw[F135_l1]
  have ih:=fun a=>fin_l1 l (i+1) a fun y hy=>h y (List.mem_cons_of_mem _ hy)
  have g1:=mname_ex x (h x (List.mem_cons_self ..))
  repeat'(first|exact⟨_,rfl⟩|exact ih _|exact g1|exact exck (by omega)|exact byI_ex (by omega) (by omega)|exact rdI_ex (by omega) (by omega)|exact apI_ex (by omega)|with_reducible refine exif (fun _=>?_) (fun _=>?_)|with_reducible refine exb ?_ (fun _ _=>?_)|with_reducible refine exmap ?_|split)
theorem fin_ex(l:List ByteArray)(hl:l.length≤4294967290)(h:∀x∈l,x.size≤4294967290):∃r,F135 l=some r:=by
 rw[F135]
 have g:=fin_l1 l 0 [] h
 repeat'(first|exact⟨_,rfl⟩|exact g|exact exck (by omega)|exact byI_ex (by omega) (by omega)|exact rdI_ex (by omega) (by omega)|exact apI_ex (by omega)|with_reducible refine exif (fun _=>?_) (fun _=>?_)|with_reducible refine exb ?_ (fun _ _=>?_)|with_reducible refine exmap ?_|split)
theorem ris_l1(l:List ByteArray)(hl:l.length≤4294967290):∀(n i k:Nat),l.length≤i+n→1≤i→i≤4294967291→n<k→∃r,F142_l1 l k (i:Int)=some r
 |0,i,k+1,h,_,_,_=>by rw[F142_l1,if_neg (by omega)];exact⟨_,rfl⟩
 |n+1,i,k+1,h,h1,h2,hk=>by
  rw[F142_l1]
  by_cases hi:(i:Int)<(l.length:Int)
  ·rw[if_pos hi,wrapN (by omega),wr_p (by omega) (by omega)]
   have ih:=ris_l1 l hl n (i+1) k (by omega) (by omega) (by omega) (by omega)
   repeat'(first|exact⟨_,rfl⟩|exact ih|exact exck (by omega)|exact byI_ex (by omega) (by omega)|exact rdI_ex (by omega) (by omega)|exact apI_ex (by omega)|with_reducible refine exif (fun _=>?_) (fun _=>?_)|with_reducible refine exb ?_ (fun _ _=>?_)|with_reducible refine exmap ?_|split)
  ·rw[if_neg hi];exact⟨_,rfl⟩
theorem ris_ex(l:List ByteArray)(hl:l.length≤4294967290):∃r,F142 l=some r:=by
 rw[F142]
 have g:∃r,F142_l1 l 1099511627776 1=some r:=ris_l1 l hl l.length 1 1099511627776 (by omega) (by omega) (by omega) (by omega)
 repeat'(first|exact⟨_,rfl⟩|exact g|exact exck (by omega)|exact byI_ex (by omega) (by omega)|exact rdI_ex (by omega) (by omega)|exact apI_ex (by omega)|with_reducible refine exif (fun _=>?_) (fun _=>?_)|with_reducible refine exb ?_ (fun _ _=>?_)|with_reducible refine exmap ?_|split)
theorem man_l1(l:List Manager)(hl:l.length≤4294967290)(h:∀x∈l,x.Fields.length≤4294967290∧x.Name.size≤4294967290):∀(xs:List Manager) (i:Nat),l.drop i=xs→∃r,F136_l1 l xs i=some r
 |[],i,_=>⟨_,by rw[F136_l1]⟩
 |x::xs,i,e=>by
  rw[F136_l1]
  have ih:=man_l1 l hl h xs (i+1) (drop_tl e)
  have hx:=List.mem_of_getElem? (drop_hd e)
  have hi:=(List.getElem?_eq_some_iff.1 (drop_hd e)).1
  have g1:=mname_ex x.Name (h x hx).2
  have g2:=ris_ex x.Fields (h x hx).1
  have hp:0<(i:Int)→∃y,rdI l (IntKind.i64.wrap ((i:Int)-1))=some y:=fun h0=>by rw[wr_p h0 (by omega)];exact rdI_ex (by omega) (by omega)
  repeat'(first|exact⟨_,rfl⟩|exact ih|exact g1|exact g2|exact hp (by assumption)|exact exck (by omega)|exact byI_ex (by omega) (by omega)|exact rdI_ex (by omega) (by omega)|exact apI_ex (by omega)|with_reducible refine exif (fun _=>?_) (fun _=>?_)|with_reducible refine exb ?_ (fun _ _=>?_)|with_reducible refine exmap ?_|split)
theorem man_ex(l:List Manager)(hl:l.length≤4294967290)(h:∀x∈l,x.Fields.length≤4294967290∧x.Name.size≤4294967290):∃r,F136 l=some r:=by
 rw[F136]
 have g:=man_l1 l hl h l 0 (List.drop_zero ..)
 repeat'(first|exact⟨_,rfl⟩|exact g|exact exck (by omega)|exact byI_ex (by omega) (by omega)|exact rdI_ex (by omega) (by omega)|exact apI_ex (by omega)|with_reducible refine exif (fun _=>?_) (fun _=>?_)|with_reducible refine exb ?_ (fun _ _=>?_)|with_reducible refine exmap ?_|split)
theorem mValid_ex{o:Object}(h:OW o):∃r,F116 o.Meta=some r:=by
 rw[F116]
 have g1:=mkind_ex o.Meta.Kind (by have:=h.key;omega)
 have g2:=mspace_ex o.Meta.Namespace (by have:=h.key;omega)
 have g3:=mname_ex o.Meta.Name (by have:=h.key;omega)
 have g4:=lvalid_ex o.Meta.Labels (by have:=h.labels;omega) (fun x hx=>by have:=h.label x hx;omega)
 have g5:=own_ex o.Meta.Owners (by have:=h.owners;omega) (fun x hx=>by have:=h.owner x hx;omega)
 have g6:=fin_ex o.Meta.Finalizers (by have:=h.fins;omega) (fun x hx=>by have:=h.fin x hx;omega)
 have g7:=man_ex o.Meta.Managers (by have:=h.mans;omega) (fun x hx=>by have:=h.man x hx;omega)
 repeat'(first|exact⟨_,rfl⟩|exact g1|exact g2|exact g3|exact g4|exact g5|exact g6|exact g7|exact exck (by omega)|exact byI_ex (by omega) (by omega)|exact rdI_ex (by omega) (by omega)|exact apI_ex (by omega)|with_reducible refine exif (fun _=>?_) (fun _=>?_)|with_reducible refine exb ?_ (fun _ _=>?_)|with_reducible refine exmap ?_|split)
theorem vObj_ex{o:Object}(h:OW o):∃r,F92 o=some r:=by
 rw[F92]
 have g1:=mValid_ex h
 have g2:=vValid_ex o.Spec h.spec
 have g3:=vValid_ex o.Status h.status
 repeat'(first|exact⟨_,rfl⟩|exact g1|exact g2|exact g3|exact exck (by omega)|exact byI_ex (by omega) (by omega)|exact rdI_ex (by omega) (by omega)|exact apI_ex (by omega)|with_reducible refine exif (fun _=>?_) (fun _=>?_)|with_reducible refine exb ?_ (fun _ _=>?_)|with_reducible refine exmap ?_|split)
theorem clone_l5(l:List Manager)(h:∀m∈l,m.Fields.length≤4294967290):∀(xs:List Manager) (i:Nat),l.drop i=xs→F83_l5 xs i l=some l
 |[],i,_=>by rw[F83_l5]
 |x::xs,i,e=>by
  have hx:=drop_hd e
  rw[F83_l5,rdI_val hx]
  simp only[Option.bind_some]
  rw[cl_t (h x (List.mem_of_getElem? hx))]
  simp only[Option.bind_some,Int.toNat_natCast]
  rw[set_same hx]
  exact clone_l5 l h xs (i+1) (drop_tl e)
def parts(o:Object):List Label×List Owner×List ByteArray×List Manager×Int×Int×ByteArray×List TValue×List TField×Int×Int×ByteArray×List TValue×List TField:=
 (o.Meta.Labels,o.Meta.Owners,o.Meta.Finalizers,o.Meta.Managers,o.Spec.Kind,o.Spec.N,o.Spec.S,o.Spec.List_,o.Spec.Fields,o.Status.Kind,o.Status.N,o.Status.S,o.Status.List_,o.Status.Fields)
theorem clone_t{o:Object}(h:OW o):F83 o=some (parts o):=by
 rw[F83,cl_t (by have:=h.labels;omega),Option.bind_some,cl_t (by have:=h.owners;omega),Option.bind_some,cl_t (by have:=h.fins;omega),Option.bind_some,cl_t (by have:=h.mans;omega),Option.bind_some,ck_t (by have:=h.mans;omega),Option.bind_some,clone_l5 _ (fun m hm=>by have:=h.man m hm;omega) _ 0 (List.drop_zero ..),Option.bind_some,cloneV_t _ h.spec,Option.bind_some,cloneV_t _ h.status]
 rfl
theorem cloneAll_l1:∀(l:List Object) (i:Nat) (a:List Object),(∀o∈l,OW o)→a.length+l.length≤4294967290→F53_l1 l i a=some (a++l)
 |[],i,a,_,_=>by rw[F53_l1,List.append_nil]
 |o::l,i,a,h,hl=>by
  rw[F53_l1,clone_t (h o (List.mem_cons_self ..))]
  simp only[Option.bind_some,parts,eta_v]
  rw[apI_t (by simp at hl⊢;omega)]
  simp only[Option.bind_some]
  rw[cloneAll_l1 l _ _ (fun y hy=>h y (List.mem_cons_of_mem _ hy)) (by simp at hl⊢;omega)]
  simp
theorem cloneAll_t{l:List Object}(h:∀o∈l,OW o)(hl:l.length≤4000000):F53 l=some l:=by
 rw[F53,ck_t (by omega),Option.bind_some,cloneAll_l1 l 0 [] h (by simp;omega)];rfl
theorem copied_l4(l:List Change)(h:∀c∈l,OW c.Object):∀(xs:List Change) (i:Nat),l.drop i=xs→F60_l4 xs i l=some l
 |[],i,_=>by rw[F60_l4]
 |x::xs,i,e=>by
  have hx:=drop_hd e
  rw[F60_l4,rdI_val hx]
  simp only[Option.bind_some]
  rw[clone_t (h x (List.mem_of_getElem? hx))]
  simp only[Option.bind_some,Int.toNat_natCast,parts,eta_v]
  rw[show(⟨x.Rev,x.Kind,(⟨x.Object.Meta,x.Object.Spec,x.Object.Status⟩:Object)⟩:Change)=x from rfl,set_same hx]
  exact copied_l4 l h xs (i+1) (drop_tl e)
structure SW(s:TStore):Prop where
 base:∀o∈s.Base,OW o
 objs:∀o∈s.Objects,OW o
 hist:∀c∈s.History,OW c.Object
 bl:s.Base.length≤4000000
 ol:s.Objects.length≤4000000
 hl:s.History.length≤4000000
theorem copied_t{s:TStore}(h:SW s):F60 s=some (s.Base,s.Objects,s.History):=by
 rw[F60,cloneAll_t h.base h.bl,Option.bind_some,cloneAll_t h.objs h.ol,Option.bind_some,cl_t (by have:=h.hl;omega),Option.bind_some,ck_t (by have:=h.hl;omega),Option.bind_some,copied_l4 _ h.hist _ 0 (List.drop_zero ..)]
 rfl
open Go Go.Fw
set_option maxRecDepth 100000
set_option linter.unusedVariables false
set_option linter.unusedSimpArgs false
theorem cint_t(a b:Int):∃n,F105 a b=some n∧(n=0↔a=b):=by
 rw[F105,F126,F126]
 simp only[Option.bind_some,not_true_eq_false,if_false]
 by_cases h1:a<b
 ·rw[if_pos h1];exact⟨_,rfl,by omega⟩
 ·rw[if_neg h1]
  by_cases h2:b<a
  ·rw[if_pos h2];exact⟨_,rfl,by omega⟩
  ·rw[if_neg h2];exact⟨_,rfl,by omega⟩
theorem cstr_t(a b:ByteArray):∃n,F106 a b=some n∧(n=0↔a=b):=⟨scmp a b,rfl,scmp_zero a b⟩
theorem or_l1:∀(l:List Int) (i:Nat),(F104_l1 l i=some (.inr ())∧∀x∈l,x=0)∨(∃n,F104_l1 l i=some (.inl n)∧n≠0∧∃x∈l,x≠0)
 |[],i=> .inl ⟨by rw[F104_l1],by simp⟩
 |x::l,i=>by
  rw[F104_l1]
  by_cases h:x=0
  ·rw[if_neg (by simp[h])]
   rcases or_l1 l (i+1)with⟨h1,h2⟩|⟨n,h1,h2,y,h3,h4⟩
   ·exact .inl ⟨h1,fun z hz=>(List.mem_cons.1 hz).elim (fun e=>e.trans h) (h2 z)⟩
   ·exact .inr ⟨n,h1,h2,y,List.mem_cons_of_mem _ h3,h4⟩
  ·rw[if_pos h];exact .inr ⟨x,rfl,h,x,List.mem_cons_self ..,h⟩
theorem or_t(l:List Int)(hl:l.length≤4294967290):∃n,F104 l=some n∧(n=0↔∀x∈l,x=0):=by
 rw[F104,ck_t (by omega),Option.bind_some]
 rcases or_l1 l 0 with⟨h1,h2⟩|⟨n,h1,h2,y,h3,h4⟩
 ·rw[h1];exact⟨0,rfl,by simpa using h2⟩
 ·rw[h1];exact⟨n,rfl,fun h=>(h2 h).elim,fun h=>(h4 (h y h3)).elim⟩
theorem take_cons'{α:Type}{l:List α}{i:Nat}{y:α}(h:l[i]? =some y)(n:Nat):(l.drop i).take (n+1)=y::(l.drop (i+1)).take n:=by
 obtain⟨h1,h2⟩:=List.getElem?_eq_some_iff.1 h
 rw[List.drop_eq_getElem_cons h1,h2,List.take_succ_cons]
theorem clist_l1(rc:TValue→TValue→Option Int)(l x1:List TValue)(h:∀x∈l,∀y,∃n,rc x y=some n∧(n=0↔x=y)):∀(xs:List TValue) (i:Nat),l.drop i=xs→(F107_l1 rc x1 xs i=some (.inr ())∧(x1.drop i).take xs.length=xs)∨(∃n,F107_l1 rc x1 xs i=some (.inl n)∧n≠0∧(x1.drop i).take xs.length≠xs)
 |[],i,_=> .inl ⟨by rw[F107_l1],by simp⟩
 |x::xs,i,e=>by
  rw[F107_l1]
  by_cases hi:(x1.length:Int)≤(i:Int)
  ·rw[if_pos hi]
   refine .inr ⟨1,rfl,by omega,?_⟩
   rw[List.drop_of_length_le (by omega)];simp
  ·rw[if_neg hi]
   have hy:x1[i]? =some x1[i]:=List.getElem?_eq_getElem (by omega)
   rw[rdI_val hy,Option.bind_some]
   obtain⟨n,h1,h2⟩:=h x (List.mem_of_getElem? (drop_hd e)) x1[i]
   rw[h1,Option.bind_some,List.length_cons,take_cons' hy]
   by_cases hn:n=0
   ·rw[if_neg (by simp[hn]),←h2.1 hn]
    rcases clist_l1 rc l x1 h xs (i+1) (drop_tl e)with⟨h3,h4⟩|⟨m,h3,h4,h5⟩
    ·exact .inl ⟨h3,by rw[h4]⟩
    ·exact .inr ⟨m,h3,h4,fun hh=>h5 (List.cons.inj hh).2⟩
   ·rw[if_pos hn]
    exact .inr ⟨n,rfl,hn,fun hh=>hn (h2.2 (List.cons.inj hh).1.symm)⟩
theorem clist_t(rc:TValue→TValue→Option Int)(l x1:List TValue)(hl:l.length≤4294967290)(h:∀x∈l,∀y,∃n,rc x y=some n∧(n=0↔x=y)):∃n,F107 rc l x1=some n∧(n=0↔l=x1):=by
 rw[F107,ck_t (by omega),Option.bind_some]
 rcases clist_l1 rc l x1 h l 0 (List.drop_zero ..)with⟨h3,h4⟩|⟨m,h3,h4,h5⟩
 ·rw[h3,List.drop_zero]at*
  simp only[Option.bind_some]
  by_cases hx:(l.length:Int)<(x1.length:Int)
  ·rw[if_pos hx];exact⟨_,rfl,fun h=>by omega,fun h=>by rw[h]at hx;omega⟩
  ·rw[if_neg hx];exact⟨_,rfl,fun _=>by rw[List.take_of_length_le (by omega)]at h4;exact h4.symm,fun _=>rfl⟩
 ·rw[h3];exact⟨m,rfl,fun h=>(h4 h).elim,fun h=>(h5 (by rw[List.drop_zero,←h,List.take_length])).elim⟩
theorem cfield_t(rc:TValue→TValue→Option Int)(x y:TField)(h:∃n,rc x.V y.V=some n∧(n=0↔x.V=y.V)):∃n,F109 rc x y=some n∧(n=0↔x=y):=by
 rw[F109]
 obtain⟨a,a1,a2⟩:=cstr_t x.Name y.Name
 obtain⟨b,b1,b2⟩:=h
 obtain⟨c,c1,c2⟩:=or_t [a,b] (by simp)
 rw[a1,Option.bind_some,b1,Option.bind_some,c1]
 refine⟨c,rfl,c2.trans ?_⟩
 simp only[List.mem_cons,List.not_mem_nil,or_false,forall_eq_or_imp,forall_eq,a2,b2]
 cases x;cases y;simp
theorem cfl_l1(rc:TValue→TValue→Option Int)(l x1:List TField)(h:∀x∈l,∀y,∃n,rc x.V y=some n∧(n=0↔x.V=y)):∀(xs:List TField) (i:Nat),l.drop i=xs→(F108_l1 rc x1 xs i=some (.inr ())∧(x1.drop i).take xs.length=xs)∨(∃n,F108_l1 rc x1 xs i=some (.inl n)∧n≠0∧(x1.drop i).take xs.length≠xs)
 |[],i,_=> .inl ⟨by rw[F108_l1],by simp⟩
 |x::xs,i,e=>by
  rw[F108_l1]
  by_cases hi:(x1.length:Int)≤(i:Int)
  ·rw[if_pos hi]
   refine .inr ⟨1,rfl,by omega,?_⟩
   rw[List.drop_of_length_le (by omega)];simp
  ·rw[if_neg hi]
   have hy:x1[i]? =some x1[i]:=List.getElem?_eq_getElem (by omega)
   rw[rdI_val hy,Option.bind_some]
   obtain⟨n,h1,h2⟩:=cfield_t rc x x1[i] (h x (List.mem_of_getElem? (drop_hd e)) _)
   rw[h1,Option.bind_some,List.length_cons,take_cons' hy]
   by_cases hn:n=0
   ·rw[if_neg (by simp[hn]),←h2.1 hn]
    rcases cfl_l1 rc l x1 h xs (i+1) (drop_tl e)with⟨h3,h4⟩|⟨m,h3,h4,h5⟩
    ·exact .inl ⟨h3,by rw[h4]⟩
    ·exact .inr ⟨m,h3,h4,fun hh=>h5 (List.cons.inj hh).2⟩
   ·rw[if_pos hn]
    exact .inr ⟨n,rfl,hn,fun hh=>hn (h2.2 (List.cons.inj hh).1.symm)⟩
theorem cfl_t(rc:TValue→TValue→Option Int)(l x1:List TField)(hl:l.length≤4294967290)(h:∀x∈l,∀y,∃n,rc x.V y=some n∧(n=0↔x.V=y)):∃n,F108 rc l x1=some n∧(n=0↔l=x1):=by
 rw[F108,ck_t (by omega),Option.bind_some]
 rcases cfl_l1 rc l x1 h l 0 (List.drop_zero ..)with⟨h3,h4⟩|⟨m,h3,h4,h5⟩
 ·rw[h3,List.drop_zero]at*
  simp only[Option.bind_some]
  by_cases hx:(l.length:Int)<(x1.length:Int)
  ·rw[if_pos hx];exact⟨_,rfl,fun h=>by omega,fun h=>by rw[h]at hx;omega⟩
  ·rw[if_neg hx];exact⟨_,rfl,fun _=>by rw[List.take_of_length_le (by omega)]at h4;exact h4.symm,fun _=>rfl⟩
 ·rw[h3];exact⟨m,rfl,fun h=>(h4 h).elim,fun h=>(h5 (by rw[List.drop_zero,←h,List.take_length])).elim⟩
theorem cmpV_t:∀(k:Nat) (x y:TValue),wTValue x≤k→wTValue x≤4294967290→∃n,F82k k x y=some n∧(n=0↔x=y)
 |0,x,y,h,_=>by have:=wV_pos x;omega
 |k+1,x,y,h,h2=>by
  have l1:=wV_ll x
  have l2:=wV_fl x
  rw[F82k,F82]
  obtain⟨a,a1,a2⟩:=cint_t x.Kind y.Kind
  obtain⟨b,b1,b2⟩:=cint_t x.N y.N
  obtain⟨c,c1,c2⟩:=cstr_t x.S y.S
  obtain⟨d,d1,d2⟩:=clist_t (F82k k) x.List_ y.List_ (by omega) fun z hz y=>cmpV_t k z y (by have:=wV_list hz;omega) (by have:=wV_list hz;omega)
  obtain⟨e,e1,e2⟩:=cfl_t (F82k k) x.Fields y.Fields (by omega) fun z hz y=>cmpV_t k z.V y (by have:=wV_field hz;omega) (by have:=wV_field hz;omega)
  obtain⟨f,f1,f2⟩:=or_t (lit [a,b,c,d,e]) (by simp[lit])
  rw[a1,Option.bind_some,b1,Option.bind_some,c1,Option.bind_some,d1,Option.bind_some,e1,Option.bind_some,f1]
  refine⟨f,rfl,f2.trans ?_⟩
  simp only[lit,List.mem_cons,List.not_mem_nil,or_false,forall_eq_or_imp,forall_eq,a2,b2,c2,d2,e2]
  cases x;cases y;simp
theorem eqV_t{x:TValue}(y:TValue)(h:wTValue x≤4000000):∃b,F52 x y=some b∧(b=true↔x=y):=by
 obtain⟨n,h1,h2⟩:=cmpV_t 1099511627776 x y (by omega) (by omega)
 exact⟨decide (n=0),by rw[F52,h1];rfl,by simpa using h2⟩
theorem eqLab_l2(l x1:List Label)(hl:l.length=x1.length):∀(xs:List Label) (i:Nat),l.drop i=xs→F47_l2 x1 xs i=some (if xs=x1.drop i then .inr ()else .inl false)
 |[],i,e=>by
  have:l.length≤i:=by simpa using e
  rw[F47_l2,List.drop_of_length_le (by omega)];simp
 |x::xs,i,e=>by
  have hi:=(List.getElem?_eq_some_iff.1 (drop_hd e)).1
  have h1:i<x1.length:=by omega
  rw[F47_l2,rdI_at h1,Option.bind_some,eqLab_l2 l x1 hl xs (i+1) (drop_tl e),List.drop_eq_getElem_cons h1]
  have:(x.Key=x1[i].Key∧x.Value=x1[i].Value)↔x=x1[i]:=by obtain⟨a,b⟩:=x;rcases x1[i]with⟨c,d⟩;simp
  by_cases hx:x=x1[i]
  ·rw[if_neg (not_not_intro (this.2 hx))];simp only[hx,List.cons.injEq,true_and,false_and,not_true_eq_false,not_false_eq_true,if_true,if_false,Option.map_some,decide_true,decide_false,Bool.not_true,Bool.not_false,Bool.false_eq_true]
  ·rw[if_pos (fun hh=>hx (this.1 hh))];simp only[hx,List.cons.injEq,true_and,false_and,not_true_eq_false,not_false_eq_true,if_true,if_false,Option.map_some,decide_true,decide_false,Bool.not_true,Bool.not_false,Bool.false_eq_true]
theorem eqLab_t{l:List Label}(x1:List Label)(hl:l.length≤4294967290):F47 l x1=some (decide (l=x1)):=by
 rw[F47]
 by_cases h:(l.length:Int)=(x1.length:Int)
 ·rw[if_neg (by simpa using h),ck_t (by omega),Option.bind_some,eqLab_l2 l x1 (by omega) l 0 (List.drop_zero ..),List.drop_zero]
  by_cases hx:l=x1<;>simp[hx]
 ·rw[if_pos h]
  have:l≠x1:=fun e=>h (by rw[e])
  simp[this]
theorem eqOwn_l2(l x1:List Owner)(hl:l.length=x1.length):∀(xs:List Owner) (i:Nat),l.drop i=xs→F48_l2 x1 xs i=some (if xs=x1.drop i then .inr ()else .inl false)
 |[],i,e=>by
  have:l.length≤i:=by simpa using e
  rw[F48_l2,List.drop_of_length_le (by omega)];simp
 |x::xs,i,e=>by
  have hi:=(List.getElem?_eq_some_iff.1 (drop_hd e)).1
  have h1:i<x1.length:=by omega
  rw[F48_l2,rdI_at h1,Option.bind_some,eqOwn_l2 l x1 hl xs (i+1) (drop_tl e),List.drop_eq_getElem_cons h1]
  have:(decide (x.Kind=x1[i].Kind)&&(decide (x.Name=x1[i].Name)&&(decide (x.Uid=x1[i].Uid)&&((x.Controller==x1[i].Controller)&&(x.Block==x1[i].Block)))))=decide (x=x1[i]):=by
   obtain⟨a,b,c,d,e⟩:=x;rcases x1[i]with⟨a',b',c',d',e'⟩
   rw[Bool.eq_iff_iff];simp
  rw[this,nb_not]
  by_cases hx:x=x1[i]<;>simp only[hx,List.cons.injEq,true_and,false_and,not_true_eq_false,not_false_eq_true,if_true,if_false,Option.map_some,decide_true,decide_false,Bool.not_true,Bool.not_false,Bool.false_eq_true]
theorem eqOwn_t{l:List Owner}(x1:List Owner)(hl:l.length≤4294967290):F48 l x1=some (decide (l=x1)):=by
 rw[F48]
 by_cases h:(l.length:Int)=(x1.length:Int)
 ·rw[if_neg (by simpa using h),ck_t (by omega),Option.bind_some,eqOwn_l2 l x1 (by omega) l 0 (List.drop_zero ..),List.drop_zero]
  by_cases hx:l=x1<;>simp[hx]
 ·rw[if_pos h]
  have:l≠x1:=fun e=>h (by rw[e])
  simp[this]
theorem eqStr_l2(l x1:List ByteArray)(hl:l.length=x1.length):∀(xs:List ByteArray) (i:Nat),l.drop i=xs→F49_l2 x1 xs i=some (if xs=x1.drop i then .inr ()else .inl false)
 |[],i,e=>by
  have:l.length≤i:=by simpa using e
  rw[F49_l2,List.drop_of_length_le (by omega)];simp
 |x::xs,i,e=>by
  have hi:=(List.getElem?_eq_some_iff.1 (drop_hd e)).1
  have h1:i<x1.length:=by omega
  rw[F49_l2,rdI_at h1,Option.bind_some,eqStr_l2 l x1 hl xs (i+1) (drop_tl e),List.drop_eq_getElem_cons h1]
  by_cases hx:x=x1[i]<;>simp only[hx,List.cons.injEq,true_and,false_and,not_true_eq_false,not_false_eq_true,if_true,if_false,Option.map_some,decide_true,decide_false,Bool.not_true,Bool.not_false,Bool.false_eq_true]
theorem eqStr_t{l:List ByteArray}(x1:List ByteArray)(hl:l.length≤4294967290):F49 l x1=some (decide (l=x1)):=by
 rw[F49]
 by_cases h:(l.length:Int)=(x1.length:Int)
 ·rw[if_neg (by simpa using h),ck_t (by omega),Option.bind_some,eqStr_l2 l x1 (by omega) l 0 (List.drop_zero ..),List.drop_zero]
  by_cases hx:l=x1<;>simp[hx]
 ·rw[if_pos h]
  have:l≠x1:=fun e=>h (by rw[e])
  simp[this]
theorem eqMan1_t{x:Manager}(y:Manager)(h:x.Fields.length≤4294967290):F50 x y=some (decide (x=y)):=by
 rw[F50,eqStr_t _ h]
 obtain⟨a,b⟩:=x;obtain⟨c,d⟩:=y
 by_cases hx:a=c<;>simp[hx]
theorem eqMan_l2(l x1:List Manager)(hl:l.length=x1.length)(hm:∀m∈l,m.Fields.length≤4294967290):∀(xs:List Manager) (i:Nat),l.drop i=xs→F51_l2 x1 xs i=some (if xs=x1.drop i then .inr ()else .inl false)
 |[],i,e=>by
  have:l.length≤i:=by simpa using e
  rw[F51_l2,List.drop_of_length_le (by omega)];simp
 |x::xs,i,e=>by
  have hi:=(List.getElem?_eq_some_iff.1 (drop_hd e)).1
  have h1:i<x1.length:=by omega
  rw[F51_l2,rdI_at h1,Option.bind_some,eqMan1_t _ (hm x (List.mem_of_getElem? (drop_hd e))),Option.bind_some,eqMan_l2 l x1 hl hm xs (i+1) (drop_tl e),List.drop_eq_getElem_cons h1,nb_not]
  by_cases hx:x=x1[i]<;>simp only[hx,List.cons.injEq,true_and,false_and,not_true_eq_false,not_false_eq_true,if_true,if_false,Option.map_some,decide_true,decide_false,Bool.not_true,Bool.not_false,Bool.false_eq_true]
theorem eqMan_t{l:List Manager}(x1:List Manager)(hl:l.length≤4294967290)(hm:∀m∈l,m.Fields.length≤4294967290):F51 l x1=some (decide (l=x1)):=by
 rw[F51]
 by_cases h:(l.length:Int)=(x1.length:Int)
 ·rw[if_neg (by simpa using h),ck_t (by omega),Option.bind_some,eqMan_l2 l x1 (by omega) hm l 0 (List.drop_zero ..),List.drop_zero]
  by_cases hx:l=x1<;>simp[hx]
 ·rw[if_pos h]
  have:l≠x1:=fun e=>h (by rw[e])
  simp[this]
theorem eqO_t{x:Object}(y:Object)(h:OW x):∃b,F20 x y=some b∧(b=true↔x=y):=by
 have b0:∀b:Bool,∃r,some b=some r∧(r=true↔b=true):=fun b=>⟨b,rfl,Iff.rfl⟩
 obtain⟨p,p1,p2⟩:=eqV_t y.Spec h.spec
 obtain⟨q,q1,q2⟩:=eqV_t y.Status h.status
 rw[F20,F46,F46]
 simp only[Option.bind_some]
 rw[eqLab_t _ (by have:=h.labels;omega),eqOwn_t _ (by have:=h.owners;omega),eqStr_t _ (by have:=h.fins;omega),eqMan_t _ (by have:=h.mans;omega) (fun m hm=>by have:=h.man m hm;omega),p1,q1]
 obtain⟨⟨k,ns,nm,u,v,g,c,dl,da,lb,ow,fi,mn⟩,sp,st⟩:=x
 obtain⟨⟨k',ns',nm',u',v',g',c',dl',da',lb',ow',fi',mn'⟩,sp',st'⟩:=y
 simp only[Object.mk.injEq,Meta.mk.injEq]at*
 by_cases h1:k=k'∧ns=ns'∧nm=nm'
 rotate_left
 ·rw[if_pos h1];exact⟨false,rfl,by simp;intro a b c;exact(h1 ⟨a,b,c⟩).elim⟩
 rw[if_neg (not_not_intro h1)]
 by_cases h2:u=u'
 rotate_left
 ·rw[if_pos h2];exact⟨false,rfl,by simp[h2]⟩
 rw[if_neg (not_not_intro h2)]
 by_cases h3:v=v'
 rotate_left
 ·rw[if_pos h3];exact⟨false,rfl,by simp[h3]⟩
 rw[if_neg (not_not_intro h3)]
 by_cases h4:g=g'
 rotate_left
 ·rw[if_pos h4];exact⟨false,rfl,by simp[h4]⟩
 rw[if_neg (not_not_intro h4)]
 by_cases h5:c=c'
 rotate_left
 ·rw[if_pos h5];exact⟨false,rfl,by simp[h5]⟩
 rw[if_neg (not_not_intro h5)]
 by_cases h6:dl=dl'
 rotate_left
 ·rw[if_pos (by cases dl<;>cases dl'<;>simp_all)];exact⟨false,rfl,by simp[h6]⟩
 rw[if_neg (by rw[h6];simp)]
 by_cases h7:da=da'
 rotate_left
 ·simp only[h7,not_false_eq_true,decide_true,Option.bind_some,if_true];exact⟨false,rfl,by simp⟩
 simp only[h7,not_true_eq_false,decide_false,Option.bind_some,Bool.false_eq_true,if_false,nb_not]
 by_cases h8:lb=lb'
 rotate_left
 ·simp only[h8,decide_false,Bool.not_false,if_true,Option.bind_some];exact⟨false,rfl,by simp⟩
 simp only[h8,decide_true,Bool.not_true,Bool.false_eq_true,if_false,Option.bind_some]
 by_cases h9:ow=ow'
 rotate_left
 ·simp only[h9,decide_false,Bool.not_false,if_true,Option.bind_some];exact⟨false,rfl,by simp⟩
 simp only[h9,decide_true,Bool.not_true,Bool.false_eq_true,if_false,Option.bind_some]
 by_cases h10:fi=fi'
 rotate_left
 ·simp only[h10,decide_false,Bool.not_false,if_true,Option.bind_some];exact⟨false,rfl,by simp⟩
 simp only[h10,decide_true,Bool.not_true,Bool.false_eq_true,if_false,Option.bind_some]
 by_cases h11:mn=mn'
 rotate_left
 ·simp only[h11,decide_false,Bool.false_eq_true,if_false,Option.bind_some];exact⟨false,rfl,by simp⟩
 simp only[h11,decide_true,if_true,Option.bind_some]
 cases p
 ·exact⟨false,rfl,by simp[←p2]⟩
 ·simp only[if_true,Option.bind_some]
  exact⟨q,rfl,by simp[h1,h2,h3,h4,h5,h6,←p2,q2]⟩
open Go Go.Fw
set_option maxRecDepth 100000
set_option linter.unusedVariables false
set_option linter.unusedSimpArgs false
def ZO:Object:=⟨⟨⟨#[]⟩,⟨#[]⟩,⟨#[]⟩,0,0,0,0,false,0,[],[],[],[]⟩,⟨0,0,⟨#[]⟩,[],[]⟩,⟨0,0,⟨#[]⟩,[],[]⟩⟩
def cO(k:ByteArray)(y:Object):Int:=scmp (keyO y) k
def Sorted(l:List Object):Prop:=l.Pairwise fun a b=>lt (keyO a) (keyO b)
theorem S_obj{l:List Object}(h:Sorted l)(k:ByteArray):S (cO k) l:=
 h.imp fun{a b} hab hc=>by
   rcases(scmp_np (keyO b) k).1 hc with h1|rfl
   ·exact(scmp_neg (keyO a) k).2 (lt_trans hab h1)
   ·exact(scmp_neg (keyO a) (keyO b)).2 hab
theorem cO_zero{k:ByteArray}{y:Object}:cO k y=0↔keyO y=k:=scmp_zero _ _
theorem cO_neg{k:ByteArray}{y:Object}:cO k y<0↔lt (keyO y) k:=scmp_neg _ _
def rm(k:ByteArray)(l:List Object):List Object:=l.filter fun y=>decide (cO k y≠0)
def repS(l:List Object)(c:Change):List Object:=if c.Kind=2 then rm (keyO c.Object) l else insC (cO (keyO c.Object)) c.Object (rm (keyO c.Object) l)
def getS(l:List Object)(k:ByteArray):Option Object:=l.find? fun y=>decide (cO k y=0)
theorem rm_sorted{l:List Object}(k:ByteArray)(h:Sorted l):Sorted (rm k l):=h.filter _
theorem rm_mem{l:List Object}{k:ByteArray}{y:Object}:y∈rm k l↔y∈l∧keyO y≠k:=by
 unfold rm;rw[List.mem_filter];simp[cO_zero]
theorem rm_len(k:ByteArray)(l:List Object):(rm k l).length≤l.length:=List.length_filter_le ..
theorem rep_mem{l:List Object}{c:Change}{y:Object}(h:y∈repS l c):y∈l∨y=c.Object:=by
 unfold repS at h
 split at h
 ·exact .inl (rm_mem.1 h).1
 ·rcases(insC_mem _ _ _ _).1 h with h|h
  ·exact .inr h
  ·exact .inl (rm_mem.1 h).1
theorem rep_len(l:List Object)(c:Change):(repS l c).length≤l.length+1:=by
 have:=rm_len (keyO c.Object) l
 unfold repS
 split
 ·omega
 ·rw[insC_len];omega
theorem rep_sorted{l:List Object}(c:Change)(h:Sorted l):Sorted (repS l c):=by
 unfold repS
 split
 ·exact rm_sorted _ h
 ·refine insC_pw (R:=fun a b=>lt (keyO a) (keyO b)) (fun a b d=>lt_trans) (fun y hy hc=>cO_neg.1 hc) (fun y hy hc=>?_) (rm_sorted _ h)
  exact lt_of_not (mt cO_neg.2 hc) (rm_mem.1 hy).2
theorem or_neg{n:Int}{b:Bool}(h:(decide (n=0)||b)=true)(hn:n<0):b=true:=by
 simp at h;rcases h with h|h
 ·omega
 ·exact h
theorem set_ins{c:Object→Int}{x:Object}:∀{l:List Object},S c l→hasC c l=true→l.set (plc c l) x=insC c x (l.filter fun y=>decide (c y≠0))
 |[],_,h=>by simp[hasC]at h
 |y::l,hs,h=>by
  have hs2:=List.pairwise_cons.1 hs
  rw[hasC_cons]at h
  unfold plc
  by_cases hc:c y<0
  ·rw[if_pos hc,List.filter_cons_of_pos (by simp;omega),List.set_cons_succ,set_ins hs2.2 (or_neg h hc)]
   rw[insC,if_pos hc]
  ·rw[if_neg hc,List.set_cons_zero]
   have hg:∀z∈l,0<c z:=fun z hz=>by have:=hs2.1 z hz;omega
   rw[hasC_gt hg]at h
   simp at h
   rw[List.filter_cons_of_neg (by simp[h]),List.filter_eq_self.2 fun z hz=>by have:=hg z hz;simp;omega]
   cases l with
   |nil=>rfl
   |cons z l=>have:=hg z (List.mem_cons_self ..);rw[insC,if_neg (by omega)]
theorem get_has{l:List Object}{k:ByteArray}:hasC (cO k) l=(getS l k).isSome:=by
 unfold hasC getS
 rw[Bool.eq_iff_iff,List.any_eq_true,List.find?_isSome]
theorem get_plc{l:List Object}{k:ByteArray}(hs:S (cO k) l)(h:hasC (cO k) l=true):l[plc (cO k) l]? =getS l k:=by
 induction l with
 |nil=>simp[hasC]at h
 |cons y l ih=>
  have hs2:=List.pairwise_cons.1 hs
  rw[hasC_cons]at h
  unfold plc getS
  by_cases hc:cO k y<0
  ·rw[if_pos hc,List.getElem?_cons_succ,List.find?_cons_of_neg (by simp;omega)]
   exact ih hs2.2 (or_neg h hc)
  ·rw[if_neg hc]
   have hg:∀z∈l,0<cO k z:=fun z hz=>by have:=hs2.1 z hz;omega
   rw[hasC_gt hg]at h
   simp at h
   rw[List.find?_cons_of_pos (by simp[h])];rfl
theorem get_mem{l:List Object}{k:ByteArray}{o:Object}(h:getS l k=some o):o∈l∧keyO o=k:=
 ⟨List.mem_of_find?_eq_some h,by have:=List.find?_some h;exact cO_zero.1 (by simpa using this)⟩
theorem find1_t{y:Object}(h:OW y)(k:ByteArray):F115 y k=some (cO k y):=by
 rw[F115,KeyOf_t h.key];rfl
theorem bs_t(l:List Object)(k:ByteArray)(h:∀o∈l,OW o):∀(n:Nat) (a b:Int),F114_l1 l k n a b=bsL (cO k) l n a b
 |0,a,b=>by rw[F114_l1,bsL]
 |n+1,a,b=>by
  rw[F114_l1,bsL]
  simp only[bs_t l k h n]
  show(if a<b then(rdI l (mid a b)).bind (fun y3=>(F115 y3 k).bind fun t4=>if t4<0 then bsL (cO k) l n (IntKind.i64.wrap (mid a b+1)) b else bsL (cO k) l n a (mid a b))else some a)=_
  by_cases hab:a<b
  ·rw[if_pos hab,if_pos hab]
   cases hr:rdI l (mid a b)with
   |none=>rfl
   |some y=>
    have hy:=List.mem_of_getElem? (rdI_some hr).2.1
    simp only[Option.bind_some,find1_t (h y hy) k]
  ·rw[if_neg hab,if_neg hab]
theorem find_t'{l:List Object}(k:ByteArray)(hs:Sorted l)(h:∀o∈l,OW o)(hl:l.length≤1000000):F91 l k=some ((plc (cO k) l:Int),hasC (cO k) l):=by
 rw[F91,F114,bs_t l k h]
 have hp:=plc_le (cO k) l
 have:=bsL_spec (S_obj hs k) hl 1099511627776 0 l.length (by omega) (by omega) hp (by omega)
 rw[show((0:Nat):Int)=0 from rfl]at this
 rw[this,Option.bind_some]
 have ft:=find_t (S_obj hs k)
 have e:(if(plc (cO k) l:Int)<(l.length:Int)then(rdI l (plc (cO k) l:Int)).bind fun y8=>(F115 y8 k).bind fun t9=>some (decide (t9=0))else some false)=(if(plc (cO k) l:Int)<(l.length:Int)then(rdI l (plc (cO k) l:Int)).bind fun y=>some (decide (cO k y=0))else some false):=by
  by_cases hab:(plc (cO k) l:Int)<(l.length:Int)
  ·rw[if_pos hab,if_pos hab]
   cases hr:rdI l (plc (cO k) l:Int)with
   |none=>rfl
   |some y=>
    have hy:=List.mem_of_getElem? (rdI_some hr).2.1
    simp only[Option.bind_some,find1_t (h y hy) k]
  ·rw[if_neg hab,if_neg hab]
 rw[e,ft];rfl
theorem replay_t{l:List Object}(c:Change)(hs:Sorted l)(h:∀o∈l,OW o)(hc:OW c.Object)(hl:l.length≤1000000):∃b,F85 l c=some (repS l c,b)∧(b=true↔c.Kind≠2∨hasC (cO (keyO c.Object)) l=true):=by
 have hp:=plc_le (cO (keyO c.Object)) l
 have hS:=S_obj hs (keyO c.Object)
 rw[F85,KeyOf_t hc.key,Option.bind_some]
 show∃b,(F91 l (keyO c.Object)).bind _=_∧_
 rw[find_t' _ hs h hl]
 simp only[Option.bind_some,nb_not]
 unfold repS
 by_cases h2:c.Kind=2
 ·simp only[h2,if_true,Option.bind_some]
  cases hh:hasC (cO (keyO c.Object)) l with
  |false=>
   simp only[Bool.not_false,if_true]
   refine⟨false,?_,by simp⟩
   unfold rm
   rw[List.filter_eq_self.2]
   intro z hz
   have:=List.any_eq_false.1 hh z hz
   simpa using this
  |true=>
   simp only[Bool.not_true,Bool.false_eq_true,if_false]
   have hlt:plc (cO (keyO c.Object)) l<l.length:=by
    have hg:=get_plc hS hh
    rcases Nat.lt_or_ge (plc (cO (keyO c.Object)) l) l.length with h3|h3
    ·exact h3
    ·rw[List.getElem?_eq_none h3]at hg
     have:=get_has (l:=l) (k:=keyO c.Object)
     rw[hh,←hg]at this;simp at this
   rw[show IntKind.i64.wrap ((plc (cO (keyO c.Object)) l:Int)+1)=((plc (cO (keyO c.Object)) l+1:Nat):Int)from wrapN (by omega)]
   refine⟨true,?_,by simp⟩
   rw[delI,if_pos ⟨by omega,by omega,by omega,by omega⟩,Option.bind_some,Int.toNat_natCast,Int.toNat_natCast,rem_C hS hh]
   rfl
 ·simp only[h2,if_false,Option.bind_some,Bool.false_eq_true]
  cases hh:hasC (cO (keyO c.Object)) l with
  |true=>
   have hlt:plc (cO (keyO c.Object)) l<l.length:=by
    have hg:=get_plc hS hh
    rcases Nat.lt_or_ge (plc (cO (keyO c.Object)) l) l.length with h3|h3
    ·exact h3
    ·rw[List.getElem?_eq_none h3]at hg
     have:=get_has (l:=l) (k:=keyO c.Object)
     rw[hh,←hg]at this;simp at this
   simp only[if_true,rdI_at hlt,Option.bind_some,Int.toNat_natCast]
   exact⟨true,by rw[set_ins hS hh];rfl,by simp⟩
  |false=>
   simp only[Bool.false_eq_true,if_false]
   refine⟨true,?_,by simp[h2]⟩
   rw[insI,if_pos ⟨by omega,by omega,by omega⟩,Option.bind_some,Int.toNat_natCast,insC_plc]
   unfold rm
   rw[List.filter_eq_self.2]
   intro z hz
   have:=List.any_eq_false.1 hh z hz
   simpa using this
theorem fold_keep(P:Object→Prop):∀{cs:List Change} {l:List Object},(∀o∈l,P o)→(∀c∈cs,P c.Object)→∀o∈cs.foldl repS l,P o
 |[],l,h,_=>h
 |c::cs,l,h,hc=>fold_keep P (cs:=cs) (l:=repS l c) (fun o ho=>(rep_mem ho).elim (h o) fun e=>e▸hc c (List.mem_cons_self ..)) (fun d hd=>hc d (List.mem_cons_of_mem _ hd))
theorem fold_sorted:∀{cs:List Change} {l:List Object},Sorted l→Sorted (cs.foldl repS l)
 |[],l,h=>h
 |c::cs,l,h=>fold_sorted (cs:=cs) (l:=repS l c) (rep_sorted c h)
theorem fold_len:∀(cs:List Change) (l:List Object),(cs.foldl repS l).length≤l.length+cs.length
 |[],l=>Nat.le_refl _
 |c::cs,l=>by have:=fold_len cs (repS l c);have:=rep_len l c;simp only[List.foldl_cons,List.length_cons];omega
theorem at_l3:∀(cs:List Change) (i:Nat) (l:List Object),Sorted l→(∀o∈l,OW o)→(∀c∈cs,OW c.Object)→l.length+cs.length≤1000000→F54_l3 cs i l=some (cs.foldl repS l)
 |[],i,l,_,_,_,_=>by rw[F54_l3];rfl
 |c::cs,i,l,hs,h,hc,hl=>by
  rw[F54_l3]
  simp only[List.length_cons]at hl
  obtain⟨b,h1,_⟩:=replay_t c hs h (hc c (List.mem_cons_self ..)) (by omega)
  rw[h1,Option.bind_some,at_l3 cs (i+1) (repS l c) (rep_sorted c hs) (fun o ho=>(rep_mem ho).elim (h o) fun e=>e▸hc c (List.mem_cons_self ..)) (fun d hd=>hc d (List.mem_cons_of_mem _ hd)) (by have:=rep_len l c;omega)]
  rfl
open Go Go.Fw
set_option maxRecDepth 100000
set_option linter.unusedVariables false
set_option linter.unusedSimpArgs false
structure Inv(n:Nat)(s:TStore):Prop where
 ob:∀o∈s.Base,OW o
 oo:∀o∈s.Objects,OW o
 oh:∀c∈s.History,OW c.Object
 sb:Sorted s.Base
 so:Sorted s.Objects
 lb:(s.Base.length:Int)≤s.Floor
 lo:(s.Objects.length:Int)≤s.Rev
 fl:0≤s.Floor
 fr:s.Floor≤s.Rev
 rv:s.Rev≤n
 hl:(s.History.length:Int)=s.Rev-s.Floor
 u1:1≤s.NextUid
 un:s.NextUid≤n+1
 rp:s.History.foldl repS s.Base=s.Objects
theorem Inv.mono{n m:Nat}{s:TStore}(h:Inv n s)(hm:n≤m):Inv m s:=
 {h with rv:=by have:=h.rv;omega,un:=by have:=h.un;omega}
theorem Inv.sw{n:Nat}{s:TStore}(h:Inv n s)(hn:n≤3000):SW s:=
 ⟨h.ob,h.oo,h.oh,by have:=h.lb;have:=h.fr;have:=h.rv;omega,by have:=h.lo;have:=h.rv;omega,by have:=h.hl;have:=h.rv;have:=h.fl;omega⟩
def atL(s:TStore)(rev:Int):List Object:=(s.History.take (rev-s.Floor).toNat).foldl repS s.Base
theorem at_t{n:Nat}{s:TStore}(h:Inv n s)(hn:n≤3000){rev:Int}(h1:s.Floor≤rev)(h2:rev≤s.Rev):F54 s rev=some (atL s rev):=by
 have:=h.lb;have:=h.hl;have:=h.rv;have:=h.fl;have:=h.fr
 rw[F54,cl_t (by omega),Option.bind_some,wrapI (by omega) (by omega)]
 obtain⟨k,hk⟩:∃k:Nat,rev-s.Floor=k:=⟨(rev-s.Floor).toNat,by omega⟩
 have hs:slI s.History 0 (k:Int)=some (s.History.take k):=by
  have:=slI_t (xs:=s.History) (l:=0) (h:=k) (by omega) (by omega)
  simpa using this
 rw[hk,hs,Option.bind_some,ck_t ⟨by omega,by rw[List.length_take];omega⟩,Option.bind_some,at_l3 _ 0 s.Base h.sb h.ob (fun c hc=>h.oh c (List.mem_of_mem_take hc)) (by rw[List.length_take];omega)]
 unfold atL;rw[hk];rfl
theorem atL_keep{n:Nat}{s:TStore}(h:Inv n s)(rev:Int):Sorted (atL s rev)∧(∀o∈atL s rev,OW o)∧(atL s rev).length≤s.Base.length+(rev-s.Floor).toNat:=
 ⟨fold_sorted h.sb,fold_keep OW h.ob (fun c hc=>h.oh c (List.mem_of_mem_take hc)),Nat.le_trans (fold_len _ _) (by rw[List.length_take];omega)⟩
def commitS(s:TStore)(kind:Int)(o:Object):TStore:=
 ⟨s.Rev+1,s.Floor,s.NextUid,s.Base,repS s.Objects ⟨s.Rev+1,kind,o⟩,s.History++[⟨s.Rev+1,kind,o⟩]⟩
theorem commit_t{n:Nat}{s:TStore}(h:Inv n s)(hn:n≤3000)(kind:Int){o:Object}(ho:OW o):F93 s kind o=some ((commitS s kind o).Rev,(commitS s kind o).Floor,(commitS s kind o).Base,(commitS s kind o).Objects,(commitS s kind o).History):=by
 have h1:=h.lo;have h2:=h.hl;have h3:=h.rv;have h4:=h.fl;have h5:=h.fr
 have e:IntKind.i64.wrap (s.Rev+1)=s.Rev+1:=wrapI (by omega) (by omega)
 rw[F93,copied_t (h.sw hn),Option.bind_some,clone_t ho,Option.bind_some,Option.bind_some,e]
 simp only[parts,eta_v]
 obtain⟨b,hb,_⟩:=replay_t (l:=s.Objects) ⟨s.Rev+1,kind,o⟩ h.so h.oo ho (by omega)
 show(F85 s.Objects ⟨s.Rev+1,kind,o⟩).bind _=_
 rw[hb,Option.bind_some]
 show(apI s.History [⟨s.Rev+1,kind,o⟩]).bind _=_
 rw[apI_t (by simp;omega),Option.bind_some,if_neg (by simp;omega)]
 rfl
theorem OW_meta{o:Object}(h:OW o)(u v g c:Int)(dl:Bool)(da:Int):OW ⟨⟨o.Meta.Kind,o.Meta.Namespace,o.Meta.Name,u,v,g,c,dl,da,o.Meta.Labels,o.Meta.Owners,o.Meta.Finalizers,o.Meta.Managers⟩,o.Spec,o.Status⟩:=
 ⟨h.key,h.labels,h.owners,h.fins,h.mans,h.man,h.spec,h.status,h.label,h.owner,h.fin⟩
theorem OW_ZO:OW ZO:=oW (by unfold ZO wObject wMeta;rw[wTValue_u];simp[wN,wS,wL,show(⟨#[]⟩:ByteArray).size=0 from rfl])
theorem commit_inv{n:Nat}{s:TStore}(h:Inv n s)(kind:Int){o:Object}(ho:OW o):Inv (n+1) (commitS s kind o) where
 ob:=h.ob
 oo:=fun x hx=>(rep_mem hx).elim (h.oo x) fun e=>e▸ho
 oh:=fun c hc=>(List.mem_append.1 hc).elim (h.oh c) fun e=>by rw[List.mem_singleton.1 e];exact ho
 sb:=h.sb
 so:=rep_sorted _ h.so
 lb:=h.lb
 lo:=by have:=h.lo;have:=rep_len s.Objects ⟨s.Rev+1,kind,o⟩;show((repS s.Objects ⟨s.Rev+1,kind,o⟩).length:Int)≤s.Rev+1;omega
 fl:=h.fl
 fr:=by have:=h.fr;show s.Floor≤s.Rev+1;omega
 rv:=by have:=h.rv;show s.Rev+1≤((n+1:Nat):Int);omega
 hl:=by have:=h.hl;show((s.History++[_]).length:Int)=s.Rev+1-s.Floor;simp;omega
 u1:=h.u1
 un:=by have:=h.un;show s.NextUid≤((n+1:Nat):Int)+1;omega
 rp:=by show(s.History++[_]).foldl repS s.Base=_;rw[List.foldl_append,h.rp];rfl
def okO(o:Object):Bool:=(F92 o).getD false
theorem okO_t{o:Object}(h:OW o):F92 o=some (okO o):=by
 obtain⟨r,hr⟩:=vObj_ex h
 unfold okO;rw[hr];rfl
def newO(s:TStore)(o:Object)(now:Int):Object:=
 ⟨⟨o.Meta.Kind,o.Meta.Namespace,o.Meta.Name,s.NextUid,s.Rev+1,1,now,false,0,o.Meta.Labels,o.Meta.Owners,o.Meta.Finalizers,o.Meta.Managers⟩,o.Spec,o.Status⟩
def bump(s:TStore):TStore:=⟨s.Rev,s.Floor,s.NextUid+1,s.Base,s.Objects,s.History⟩
def createS(s:TStore)(o:Object)(now:Int):TStore×Object×Int:=
 if okO o=false∨now<0∨1000000000000<now then(s,ZO,1)
 else if hasC (cO (keyO o)) s.Objects=true then(s,ZO,8)
 else(bump (commitS s 1 (newO s o now)),newO s o now,0)
def tup8(r:TStore×Object×Int):Int×Int×Int×List Object×List Object×List Change×Object×Int:=
 (r.1.Rev,r.1.Floor,r.1.NextUid,r.1.Base,r.1.Objects,r.1.History,r.2.1,r.2.2)
theorem create_t{n:Nat}{s:TStore}(h:Inv n s)(hn:n≤400){o:Object}(ho:OW o)(now:Int):F63 s o now=some (tup8 (createS s o now)):=by
 have h1:=h.lo;have h2:=h.hl;have h3:=h.rv;have h4:=h.fl;have h5:=h.fr;have h6:=h.un;have h7:=h.u1
 have e:IntKind.i64.wrap (s.Rev+1)=s.Rev+1:=wrapI (by omega) (by omega)
 have e2:IntKind.i64.wrap (s.NextUid+1)=s.NextUid+1:=wrapI (by omega) (by omega)
 rw[F63,KeyOf_t ho.key,Option.bind_some]
 show(F91 s.Objects (keyO o)).bind _=_
 rw[find_t' _ h.so h.oo (by omega),Option.bind_some,okO_t ho,Option.bind_some,nb_not,copied_t (h.sw (by omega)),clone_t ho]
 unfold createS
 by_cases g1:okO o=false∨now<0∨1000000000000<now
 ·rw[if_pos g1]
  have:(if(!okO o)=true then some true else if now<0 then some true else some (decide (1000000000000<now)))=some true:=by
   rcases g1 with g|g|g
   ·simp[g]
   ·by_cases g2:okO o<;>simp[g,g2]
   ·by_cases g2:okO o<;>simp[g,g2]
  rw[this];rfl
 rw[if_neg g1]
 have:(if(!okO o)=true then some true else if now<0 then some true else some (decide (1000000000000<now)))=some false:=by
  simp only[not_or,Bool.not_eq_false]at g1
  rw[if_neg (by simp[g1.1]),if_neg g1.2.1,decide_eq_false g1.2.2]
 rw[this]
 simp only[Option.bind_some,Bool.false_eq_true,if_false]
 by_cases g2:hasC (cO (keyO o)) s.Objects=true
 ·rw[if_pos g2,if_pos g2];rfl
 rw[if_neg g2,if_neg g2]
 rw[if_neg (by omega),if_neg (by omega)]
 have:decide (1000000000000000≤s.NextUid)=false:=by simp;omega
 rw[this]
 simp only[Option.bind_some,Bool.false_eq_true,if_false,parts,eta_v,e,e2]
 rw[commit_t h (by omega) 1 (OW_meta ho _ _ _ _ _ _)]
 rfl
theorem create_inv{n:Nat}{s:TStore}(h:Inv n s){o:Object}(ho:OW o)(now:Int):Inv (n+1) (createS s o now).1∧OW (createS s o now).2.1:=by
 unfold createS
 split
 ·exact⟨h.mono (by omega),OW_ZO⟩
 split
 ·exact⟨h.mono (by omega),OW_ZO⟩
 have hc:=commit_inv h 1 (OW_meta ho s.NextUid (s.Rev+1) 1 now false 0)
 exact⟨{hc with u1:=by have:=h.u1;show 1≤s.NextUid+1;omega,un:=by have:=h.un;show s.NextUid+1≤((n+1:Nat):Int)+1;omega},OW_meta ho _ _ _ _ _ _⟩
def tupO(y:Object)(b:Bool):ByteArray×ByteArray×ByteArray×Int×Int×Int×Int×Bool×Int×List Label×List Owner×List ByteArray×List Manager×Int×Int×ByteArray×List TValue×List TField×Int×Int×ByteArray×List TValue×List TField×Bool:=
 (y.Meta.Kind,y.Meta.Namespace,y.Meta.Name,y.Meta.Uid,y.Meta.Version,y.Meta.Generation,y.Meta.Created,y.Meta.Deleting,y.Meta.DeleteAt,y.Meta.Labels,y.Meta.Owners,y.Meta.Finalizers,y.Meta.Managers,y.Spec.Kind,y.Spec.N,y.Spec.S,y.Spec.List_,y.Spec.Fields,y.Status.Kind,y.Status.N,y.Status.S,y.Status.List_,y.Status.Fields,b)
theorem get_t{n:Nat}{s:TStore}(h:Inv n s)(hn:n≤3000)(k:ByteArray):F94 s k=some (tupO ((getS s.Objects k).getD ZO) (getS s.Objects k).isSome):=by
 have h1:=h.lo;have h3:=h.rv
 rw[F94,find_t' _ h.so h.oo (by omega),Option.bind_some]
 simp only[get_has]
 cases hg:getS s.Objects k with
 |none=>rfl
 |some y=>
  have hp:=get_plc (S_obj h.so k) (by rw[get_has,hg];rfl)
  rw[hg]at hp
  simp only[Option.isSome_some,if_true,rdI_val hp,Option.bind_some]
  rw[clone_t (h.oo y (get_mem hg).1)]
  rfl
theorem find_l1{k:ByteArray}(l:List Object)(h:∀o∈l,OW o):∀(xs:List Object) (i:Nat),l.drop i=xs→(getS xs k=none∧F23_l1 k xs i=some (.inr ()))∨∃(y:Object) (j:Nat),getS xs k=some y∧F23_l1 k xs i=some (.inl (j:Int))∧l[j]? =some y
 |[],i,_=> .inl ⟨rfl,by rw[F23_l1]⟩
 |x::xs,i,e=>by
  have hx:=drop_hd e
  rw[F23_l1,rkey_t (h x (List.mem_of_getElem? hx)),Option.bind_some]
  by_cases hk:keyO x=k
  ·rw[if_pos hk]
   refine .inr ⟨x,i,?_,rfl,hx⟩
   unfold getS;rw[List.find?_cons_of_pos (by simp[cO_zero,hk])]
  ·rw[if_neg hk]
   have e1:getS (x::xs) k=getS xs k:=by unfold getS;rw[List.find?_cons_of_neg (by simp[cO_zero,hk])]
   rw[e1]
   exact find_l1 l h xs (i+1) (drop_tl e)
theorem rget_t{s:TStore}(h:∀o∈s.Objects,OW o)(hl:s.Objects.length≤4000000)(k:ByteArray):F95 s k=some ((getS s.Objects k).getD ZO,(getS s.Objects k).isSome):=by
 rw[F95,F23,ck_t (by omega),Option.bind_some]
 rcases find_l1 (k:=k) s.Objects h s.Objects 0 (List.drop_zero ..)with⟨h1,h2⟩|⟨y,j,h1,h2,h3⟩
 ·rw[h1,h2];rfl
 ·rw[h1,h2,Option.bind_some]
  simp only[Option.bind_some]
  rw[if_neg (by omega),rdI_val h3];rfl
open Classical in
noncomputable def updO(s:TStore)(o old:Object):Object:=
 ⟨⟨o.Meta.Kind,o.Meta.Namespace,o.Meta.Name,old.Meta.Uid,old.Meta.Version,(if o.Spec=old.Spec then old.Meta.Generation else IntKind.i64.wrap (old.Meta.Generation+1)),old.Meta.Created,o.Meta.Deleting,o.Meta.DeleteAt,o.Meta.Labels,o.Meta.Owners,o.Meta.Finalizers,o.Meta.Managers⟩,o.Spec,o.Status⟩
def withV(o:Object)(v:Int):Object:=
 ⟨⟨o.Meta.Kind,o.Meta.Namespace,o.Meta.Name,o.Meta.Uid,v,o.Meta.Generation,o.Meta.Created,o.Meta.Deleting,o.Meta.DeleteAt,o.Meta.Labels,o.Meta.Owners,o.Meta.Finalizers,o.Meta.Managers⟩,o.Spec,o.Status⟩
open Classical in
noncomputable def updateS(s:TStore)(o:Object):TStore×Object×Int:=
 if okO o=false then(s,ZO,1)else
 match getS s.Objects (keyO o)with
 |none=>(s,ZO,7)
 |some old=>
  if(o.Meta.Version≠0∧o.Meta.Version≠old.Meta.Version)∨(o.Meta.Uid≠0∧o.Meta.Uid≠old.Meta.Uid)then(s,ZO,9)
  else if updO s o old=old then(s,old,0)
  else(commitS s 1 (withV (updO s o old) (s.Rev+1)),withV (updO s o old) (s.Rev+1),0)
def tup28(nu:Int)(r:TStore×Object×Int):=(r.1.Rev,r.1.Floor,r.1.Base,r.1.Objects,r.1.History,r.2.1.Meta.Kind,r.2.1.Meta.Namespace,r.2.1.Meta.Name,r.2.1.Meta.Uid,r.2.1.Meta.Version,r.2.1.Meta.Generation,r.2.1.Meta.Created,r.2.1.Meta.Deleting,r.2.1.Meta.DeleteAt,r.2.1.Meta.Labels,r.2.1.Meta.Owners,r.2.1.Meta.Finalizers,r.2.1.Meta.Managers,r.2.1.Spec.Kind,r.2.1.Spec.N,r.2.1.Spec.S,r.2.1.Spec.List_,r.2.1.Spec.Fields,r.2.1.Status.Kind,r.2.1.Status.N,r.2.1.Status.S,r.2.1.Status.List_,r.2.1.Status.Fields,r.2.2)
theorem update_t{n:Nat}{s:TStore}(h:Inv n s)(hn:n≤400){o:Object}(ho:OW o):F65 s o=some (tup28 0 (updateS s o)):=by
 have h1:=h.lo;have h2:=h.hl;have h3:=h.rv;have h4:=h.fl;have h5:=h.fr
 have e:IntKind.i64.wrap (s.Rev+1)=s.Rev+1:=wrapI (by omega) (by omega)
 rw[F65,okO_t ho,Option.bind_some,nb_not,copied_t (h.sw (by omega)),KeyOf_t ho.key]
 unfold updateS
 cases g1:okO o with
 |false=>rfl
 |true=>
  simp only[Bool.not_true,Bool.false_eq_true,if_false,Option.bind_some,Bool.true_eq_false]
  rw[get_t h (by omega)]
  show _=some (tup28 0 (match getS s.Objects (keyO o)with|none=>_|some old=>_))
  rw[show keyB o.Meta=keyO o from rfl]
  cases hg:getS s.Objects (keyO o)with
  |none=>rfl
  |some old=>
   have hold:=h.oo old (get_mem hg).1
   simp only[Option.isSome_some,Option.getD_some,Option.bind_some,tupO,show nb true=false from rfl,Bool.false_eq_true,if_false,eta_v]
   have ec:(if¬o.Meta.Version=0 then(if¬o.Meta.Version=old.Meta.Version then some true else(if¬o.Meta.Uid=0 then some (decide (¬o.Meta.Uid=old.Meta.Uid))else some false))else(if¬o.Meta.Uid=0 then some (decide (¬o.Meta.Uid=old.Meta.Uid))else some false))=some (decide ((o.Meta.Version≠0∧o.Meta.Version≠old.Meta.Version)∨(o.Meta.Uid≠0∧o.Meta.Uid≠old.Meta.Uid))):=by
    by_cases a1:o.Meta.Version=0<;>by_cases a2:o.Meta.Version=old.Meta.Version<;>by_cases a3:o.Meta.Uid=0<;>by_cases a4:o.Meta.Uid=old.Meta.Uid<;>simp[a1,a2,a3,a4]
   rw[ec,Option.bind_some]
   by_cases g2:(o.Meta.Version≠0∧o.Meta.Version≠old.Meta.Version)∨(o.Meta.Uid≠0∧o.Meta.Uid≠old.Meta.Uid)
   ·rw[decide_eq_true g2,if_pos rfl,if_pos g2];rfl
   rw[decide_eq_false g2,if_neg (by simp),if_neg g2,clone_t ho]
   simp only[Option.bind_some,parts,eta_v]
   obtain⟨b,b1,b2⟩:=eqV_t old.Spec ho.spec
   rw[b1,Option.bind_some]
   have eg:(if nb b=true then some (IntKind.i64.wrap (old.Meta.Generation+1))else some old.Meta.Generation)=some (updO s o old).Meta.Generation:=by
    cases b
    ·have:¬o.Spec=old.Spec:=fun hh=>by have:=b2.2 hh;cases this
     simp[nb_not,updO,this]
    ·simp[nb_not,updO,b2.1 rfl]
   rw[eg,Option.bind_some]
   have hu:OW (updO s o old):=OW_meta ho _ _ _ _ _ _
   obtain⟨c,c1,c2⟩:=eqO_t old hu
   show(F20 (updO s o old) old).bind _=_
   rw[c1,Option.bind_some]
   cases c
   ·have:¬updO s o old=old:=fun hh=>by have:=c2.2 hh;cases this
    rw[if_neg (by simp),if_neg (by omega),if_neg this]
    simp only[Option.bind_some,e]
    have hw:OW (withV (updO s o old) (s.Rev+1)):=OW_meta hu _ _ _ _ _ _
    show(F93 s 1 (withV (updO s o old) (s.Rev+1))).bind _=_
    rw[commit_t h (by omega) 1 hw]
    rfl
   ·rw[if_pos rfl,if_pos (c2.1 rfl)];rfl
theorem update_inv{n:Nat}{s:TStore}(h:Inv n s){o:Object}(ho:OW o):Inv (n+1) (updateS s o).1∧OW (updateS s o).2.1:=by
 unfold updateS
 split
 ·exact⟨h.mono (by omega),OW_ZO⟩
 split
 ·exact⟨h.mono (by omega),OW_ZO⟩
 ·rename_i old hg
  split
  ·exact⟨h.mono (by omega),OW_ZO⟩
  split
  ·exact⟨h.mono (by omega),h.oo old (get_mem hg).1⟩
  have hu:OW (updO s o old):=OW_meta ho _ _ _ _ _ _
  have hw:OW (withV (updO s o old) (s.Rev+1)):=OW_meta hu _ _ _ _ _ _
  exact⟨commit_inv h 1 hw,hw⟩
def deleteS(s:TStore)(k:ByteArray)(v:Int):TStore×Object×Int:=
 match getS s.Objects k with
 |none=>(s,ZO,7)
 |some old=>
  if v≠0∧v≠old.Meta.Version then(s,ZO,9)
  else(commitS s 2 (withV old (s.Rev+1)),withV old (s.Rev+1),0)
def tup7(r:TStore×Object×Int):=(r.1.Rev,r.1.Floor,r.1.Base,r.1.Objects,r.1.History,r.2.1,r.2.2)
theorem delete_t{n:Nat}{s:TStore}(h:Inv n s)(hn:n≤400)(k:ByteArray)(v:Int):F66 s k v=some (tup7 (deleteS s k v)):=by
 have h1:=h.lo;have h2:=h.hl;have h3:=h.rv;have h4:=h.fl;have h5:=h.fr
 have e:IntKind.i64.wrap (s.Rev+1)=s.Rev+1:=wrapI (by omega) (by omega)
 rw[F66,get_t h (by omega),copied_t (h.sw (by omega))]
 unfold deleteS
 cases hg:getS s.Objects k with
 |none=>rfl
 |some old=>
  have hold:=h.oo old (get_mem hg).1
  simp only[Option.isSome_some,Option.getD_some,Option.bind_some,tupO,nb_not,Bool.not_true,Bool.false_eq_true,if_false,eta_v]
  have ec:(if¬v=0 then some (decide (¬v=old.Meta.Version))else some false)=some (decide (v≠0∧v≠old.Meta.Version)):=by
   by_cases a1:v=0<;>by_cases a2:v=old.Meta.Version<;>simp[a1,a2]
  rw[ec,Option.bind_some]
  by_cases g2:v≠0∧v≠old.Meta.Version
  ·rw[decide_eq_true g2,if_pos rfl,if_pos g2];rfl
  rw[decide_eq_false g2,if_neg (by simp),if_neg g2,if_neg (by omega)]
  simp only[e]
  have hw:OW (withV old (s.Rev+1)):=OW_meta hold _ _ _ _ _ _
  show(F93 s 2 (withV old (s.Rev+1))).bind _=_
  rw[commit_t h (by omega) 2 hw]
  rfl
theorem delete_inv{n:Nat}{s:TStore}(h:Inv n s)(k:ByteArray)(v:Int):Inv (n+1) (deleteS s k v).1∧OW (deleteS s k v).2.1:=by
 unfold deleteS
 split
 ·exact⟨h.mono (by omega),OW_ZO⟩
 ·rename_i old hg
  split
  ·exact⟨h.mono (by omega),OW_ZO⟩
  have hw:OW (withV old (s.Rev+1)):=OW_meta (h.oo old (get_mem hg).1) _ _ _ _ _ _
  exact⟨commit_inv h 2 hw,hw⟩
def compS(s:TStore)(rev:Int):TStore:=⟨s.Rev,rev,s.NextUid,atL s rev,s.Objects,s.History.drop (rev-s.Floor).toNat⟩
def compactS(s:TStore)(rev:Int):TStore×Int:=if rev<s.Floor∨s.Rev<rev then(s,5)else(compS s rev,0)
def tup5(r:TStore×Int):=(r.1.Floor,r.1.Base,r.1.Objects,r.1.History,r.2)
theorem comp_inv{n:Nat}{s:TStore}(h:Inv n s){rev:Int}(h1:s.Floor≤rev)(h2:rev≤s.Rev):Inv n (compS s rev):=by
 have k1:=h.lo;have k2:=h.hl;have k3:=h.rv;have k4:=h.fl;have k5:=h.fr;have k6:=h.lb
 obtain⟨a1,a2,a3⟩:=atL_keep h rev
 exact{ob:=a2,oo:=h.oo,oh:=fun c hc=>h.oh c (List.mem_of_mem_drop hc),sb:=a1,so:=h.so,lb:=by show((atL s rev).length:Int)≤rev;omega,lo:=k1,fl:=by show 0≤rev;omega,fr:=h2,rv:=k3,hl:=by show((s.History.drop _).length:Int)=s.Rev-rev;rw[List.length_drop];omega,u1:=h.u1,un:=h.un,rp:=by show(s.History.drop _).foldl repS ((s.History.take _).foldl repS s.Base)=s.Objects;rw[←List.foldl_append,List.take_append_drop];exact h.rp}
theorem compact_t{n:Nat}{s:TStore}(h:Inv n s)(hn:n≤400)(rev:Int):F28 s rev=some (tup5 (compactS s rev)):=by
 have k1:=h.lo;have k2:=h.hl;have k3:=h.rv;have k4:=h.fl;have k5:=h.fr;have k6:=h.lb
 rw[F28,copied_t (h.sw (by omega))]
 unfold compactS
 by_cases g:rev<s.Floor∨s.Rev<rev
 ·rw[if_pos g]
  have:(if rev<s.Floor then some true else some (decide (s.Rev<rev)))=some true:=by
   by_cases g1:rev<s.Floor
   ·rw[if_pos g1]
   ·rw[if_neg g1,decide_eq_true (g.resolve_left g1)]
  rw[this];rfl
 ·rw[if_neg g]
  have:(if rev<s.Floor then some true else some (decide (s.Rev<rev)))=some false:=by
   rw[if_neg (fun hh=>g (.inl hh)),decide_eq_false (fun hh=>g (.inr hh))]
  rw[this]
  simp only[Option.bind_some,Bool.false_eq_true,if_false]
  rw[F61,at_t h (by omega) (by omega) (by omega),Option.bind_some,wrapI (by omega) (by omega)]
  obtain⟨k,hk⟩:∃k:Nat,rev-s.Floor=k:=⟨(rev-s.Floor).toNat,by omega⟩
  have hs:slI s.History (k:Int) (s.History.length:Int)=some (s.History.drop k):=by
   rw[slI_t (by omega) (Nat.le_refl _),List.take_of_length_le (by simp)]
  rw[hk,hs,Option.bind_some,Option.bind_some]
  have hc:=comp_inv h (rev:=rev) (by omega) (by omega)
  have e:(⟨s.Rev,rev,s.NextUid,atL s rev,s.Objects,s.History.drop k⟩:TStore)=compS s rev:=by unfold compS;rw[hk];rfl
  rw[show(⟨s.Rev,rev,s.NextUid,(atL s rev,s.History.drop k).1,s.Objects,(atL s rev,s.History.drop k).2⟩:TStore)=compS s rev from e,copied_t (hc.sw (by omega))]
  rfl
theorem compact_inv{n:Nat}{s:TStore}(h:Inv n s)(rev:Int):Inv n (compactS s rev).1:=by
 unfold compactS
 split
 ·exact h
 ·exact comp_inv h (by omega) (by omega)
def verS(s:TStore)(op:TOp):Int:=if op.Version<0 then((getS s.Objects (if op.Kind=2 then keyB op.O.Meta else op.Key)).getD ZO).Meta.Version else op.Version
noncomputable def stepS(s:TStore)(op:TOp):TStore×Object×Int:=
 if op.Kind=1 then createS s op.O op.Now
 else if op.Kind=2 then updateS s (withV op.O (verS s op))
 else if op.Kind=3 then deleteS s op.Key (verS s op)
 else((compactS s op.Rev).1,ZO,(compactS s op.Rev).2)
theorem prep_t{n:Nat}{s:TStore}(h:Inv n s)(hn:n≤400){op:TOp}(ho:OW op.O):F67 s op=some (if op.Kind=2 then verS s op else op.O.Meta.Version,verS s op):=by
 have k1:=h.lo;have k3:=h.rv
 rw[F67,rKeyOf_t ho.key]
 have e1:(if op.Kind=2 then(some (keyB op.O.Meta)).bind fun t3=>some t3 else some op.Key)=some (if op.Kind=2 then keyB op.O.Meta else op.Key):=by split<;>rfl
 rw[e1,Option.bind_some,rget_t h.oo (by omega)]
 have e2:(if op.Version<0 then(some ((getS s.Objects (if op.Kind=2 then keyB op.O.Meta else op.Key)).getD ZO,(getS s.Objects (if op.Kind=2 then keyB op.O.Meta else op.Key)).isSome)).bind fun t6=>some t6.1.Meta.Version else some op.Version)=some (verS s op):=by unfold verS;split<;>rfl
 rw[e2,Option.bind_some]
 split<;>rfl
theorem upd_nu(s:TStore)(o:Object):(updateS s o).1.NextUid=s.NextUid:=by
 unfold updateS
 split
 ·rfl
 split
 ·rfl
 split
 ·rfl
 split<;>rfl
theorem del_nu(s:TStore)(k:ByteArray)(v:Int):(deleteS s k v).1.NextUid=s.NextUid:=by
 unfold deleteS
 split
 ·rfl
 split<;>rfl
theorem comp_nu(s:TStore)(rev:Int):(compactS s rev).1.NextUid=s.NextUid∧(compactS s rev).1.Rev=s.Rev:=by
 unfold compactS
 split<;>exact⟨rfl,rfl⟩
theorem step_t{n:Nat}{s:TStore}(h:Inv n s)(hn:n≤400){op:TOp}(ho:OW op.O):F33 s op=some (tup8 (stepS s op)):=by
 rw[F33,prep_t h hn ho,Option.bind_some]
 unfold stepS
 by_cases g1:op.Kind=1
 ·have g2:¬op.Kind=2:=by omega
  simp only[g1,if_true]
  rw[create_t h hn (o:=⟨⟨op.O.Meta.Kind,op.O.Meta.Namespace,op.O.Meta.Name,op.O.Meta.Uid,_,op.O.Meta.Generation,op.O.Meta.Created,op.O.Meta.Deleting,op.O.Meta.DeleteAt,op.O.Meta.Labels,op.O.Meta.Owners,op.O.Meta.Finalizers,op.O.Meta.Managers⟩,op.O.Spec,op.O.Status⟩) (OW_meta ho _ _ _ _ _ _)]
  simp only[Option.bind_some,tup8,eta_v]
  rfl
 by_cases g2:op.Kind=2
 ·simp only[g2,if_true,if_neg (show¬(2:Int)=1 by omega)]
  have e:F65 s (⟨⟨op.O.Meta.Kind,op.O.Meta.Namespace,op.O.Meta.Name,op.O.Meta.Uid,verS s op,op.O.Meta.Generation,op.O.Meta.Created,op.O.Meta.Deleting,op.O.Meta.DeleteAt,op.O.Meta.Labels,op.O.Meta.Owners,op.O.Meta.Finalizers,op.O.Meta.Managers⟩,op.O.Spec,op.O.Status⟩:Object)=some (tup28 0 (updateS s (withV op.O (verS s op)))):=update_t h hn (OW_meta ho _ _ _ _ _ _)
  rw[e]
  simp only[Option.bind_some,tup28,tup8,eta_v,upd_nu]
 by_cases g3:op.Kind=3
 ·simp only[if_neg g1,if_neg g2,if_pos g3]
  rw[delete_t h hn]
  simp only[Option.bind_some,tup7,tup8,eta_v,del_nu]
 ·simp only[if_neg g1,if_neg g2,if_neg g3]
  rw[compact_t h hn]
  simp only[Option.bind_some,tup5,tup8,comp_nu]
  rfl
theorem step_inv{n:Nat}{s:TStore}(h:Inv n s){op:TOp}(ho:OW op.O):Inv (n+1) (stepS s op).1∧OW (stepS s op).2.1:=by
 unfold stepS
 split
 ·exact create_inv h ho _
 split
 ·exact update_inv h (OW_meta ho _ _ _ _ _ _)
 split
 ·exact delete_inv h _ _
 ·exact⟨(compact_inv h _).mono (by omega),OW_ZO⟩
noncomputable def playS(s:TStore)(l:List TOp):TStore:=l.foldl (fun s op=>(stepS s op).1) s
def S0:TStore:=⟨0,0,1,[],[],[]⟩
theorem inv0:Inv 0 S0 where
 ob:=by intro o h;cases h
 oo:=by intro o h;cases h
 oh:=by intro o h;cases h
 sb:=List.Pairwise.nil
 so:=List.Pairwise.nil
 lb:=by decide
 lo:=by decide
 fl:=by decide
 fr:=by decide
 rv:=by decide
 hl:=by decide
 u1:=by decide
 un:=by decide
 rp:=rfl
theorem play_inv:∀{l:List TOp} {n:Nat} {s:TStore},Inv n s→(∀op∈l,OW op.O)→Inv (n+l.length) (playS s l)
 |[],n,s,h,_=>h
 |op::l,n,s,h,ho=>by
  have:=play_inv (l:=l) (step_inv h (ho op (List.mem_cons_self ..))).1 fun o hx=>ho o (List.mem_cons_of_mem _ hx)
  exact this.mono (by simp;omega)
open Go Go.Fw
set_option maxRecDepth 100000
set_option linter.unusedVariables false
set_option linter.unusedSimpArgs false
theorem wt_l1:∀(l:List Manager) (i:Nat) (n:Int),∃r,F29_l1 l i n=some r
 |[],i,n=>⟨_,by rw[F29_l1]⟩
 |x::l,i,n=>by rw[F29_l1];exact wt_l1 l _ _
theorem wt_ex{o:Object}(h:OW o):∃r,F29 o=some r:=by
 rw[F29,size_same]
 have g1:=vsize_ex 1099511627776 o.Spec (by have:=h.spec;omega) (by have:=h.spec;omega)
 have g2:=vsize_ex 1099511627776 o.Status (by have:=h.status;omega) (by have:=h.status;omega)
 refine exb (exb (exck (by have:=h.mans;omega)) fun _ _=>wt_l1 _ _ _) fun _ _=>?_
 repeat'(first|exact⟨_,rfl⟩|exact g1|exact g2|exact exck (by omega)|exact byI_ex (by omega) (by omega)|exact rdI_ex (by omega) (by omega)|exact apI_ex (by omega)|with_reducible refine exif (fun _=>?_) (fun _=>?_)|with_reducible refine exb ?_ (fun _ _=>?_)|with_reducible refine exmap ?_|split)
theorem light_l1(l:List TOp)(h:∀op∈l,OW op.O)(hl:l.length≤4000000):∀(m k i:Nat) (n:Int),l.length≤i+m→i≤4000000→m<k→∃r,F8_l1 l k n (i:Int)=some r
 |0,k+1,i,n,h1,_,_=>by rw[F8_l1,if_neg (by omega)];exact⟨_,rfl⟩
 |m+1,k+1,i,n,h1,h2,h3=>by
  rw[F8_l1]
  by_cases hi:(i:Int)<(l.length:Int)
  ·rw[if_pos hi,wrapN (by omega),rdI_at (by omega),Option.bind_some]
   obtain⟨w,hw⟩:=wt_ex (h l[i] (List.getElem_mem _))
   have ih:=fun n=>light_l1 l h hl m k (i+1) n (by omega) (by omega) (by omega)
   rw[Option.bind_some,hw,Option.bind_some]
   split
   ·exact ih _
   ·exact⟨_,rfl⟩
  ·rw[if_neg hi];exact⟨_,rfl⟩
theorem light_t{l:List TOp}(h:∀op∈l,OW op.O)(hl:l.length≤4000000):∃b,F8 l=some b∧(b=true→l.length≤40):=by
 obtain⟨r,hr⟩:=light_l1 l h hl l.length 1099511627776 0 0 (by omega) (by omega) (by omega)
 rw[F8]
 rw[show((0:Nat):Int)=0 from rfl]at hr
 rw[hr,Option.bind_some]
 by_cases g:(l.length:Int)≤40
 ·rw[if_pos g];exact⟨_,rfl,fun _=>by omega⟩
 ·rw[if_neg g];exact⟨false,rfl,by simp⟩
theorem play_l2:∀(l:List TOp) (i n:Nat) (s:TStore),Inv n s→n+l.length≤400→(∀op∈l,OW op.O)→F11_l2 l i s.Rev s.Floor s.NextUid s.Base s.Objects s.History=some (playS s l)
 |[],i,n,s,_,_,_=>by rw[F11_l2];rfl
 |op::l,i,n,s,h,hn,ho=>by
  rw[F11_l2]
  have h1:=ho op (List.mem_cons_self ..)
  have:=step_t h (by simp at hn;omega) h1
  show(F33 s op).bind _=_
  rw[this,Option.bind_some]
  exact play_l2 l (i+1) (n+1) (stepS s op).1 (step_inv h h1).1 (by simp at hn;omega) fun o hx=>ho o (List.mem_cons_of_mem _ hx)
theorem play_t{l:List TOp}(hl:l.length≤400)(ho:∀op∈l,OW op.O):F11 l=some (playS S0 l):=by
 rw[F11,F32,ck_t (by omega)]
 simp only[Option.bind_some]
 have:=play_l2 l 0 0 S0 inv0 (by omega) ho
 show(F11_l2 l 0 S0.Rev S0.Floor S0.NextUid S0.Base S0.Objects S0.History).bind _=_
 rw[this];rfl
theorem lget_l1(k:ByteArray):∀(l:List Label) (i:Nat),∃r,F99_l1 k l i=some r
 |[],i=>⟨_,by rw[F99_l1]⟩
 |x::l,i=>by
  rw[F99_l1]
  have ih:=lget_l1 k l (i+1)
  repeat'(first|exact⟨_,rfl⟩|exact ih|exact exck (by omega)|exact byI_ex (by omega) (by omega)|exact rdI_ex (by omega) (by omega)|exact apI_ex (by omega)|with_reducible refine exif (fun _=>?_) (fun _=>?_)|with_reducible refine exb ?_ (fun _ _=>?_)|with_reducible refine exmap ?_|split)
theorem lget_ex{l:List Label}(k:ByteArray)(hl:l.length≤4000000):∃r,F99 l k=some r:=by
 rw[F99]
 have g:=lget_l1 k l 0
 repeat'(first|exact⟨_,rfl⟩|exact g|exact exck (by omega)|exact byI_ex (by omega) (by omega)|exact rdI_ex (by omega) (by omega)|exact apI_ex (by omega)|with_reducible refine exif (fun _=>?_) (fun _=>?_)|with_reducible refine exb ?_ (fun _ _=>?_)|with_reducible refine exmap ?_|split)
theorem idx_l1(k:ByteArray):∀(l:List ByteArray) (i:Nat),∃r,F122_l1 k l i=some r
 |[],i=>⟨_,by rw[F122_l1]⟩
 |x::l,i=>by
  rw[F122_l1]
  have ih:=idx_l1 k l (i+1)
  repeat'(first|exact⟨_,rfl⟩|exact ih|exact exck (by omega)|exact byI_ex (by omega) (by omega)|exact rdI_ex (by omega) (by omega)|exact apI_ex (by omega)|with_reducible refine exif (fun _=>?_) (fun _=>?_)|with_reducible refine exb ?_ (fun _ _=>?_)|with_reducible refine exmap ?_|split)
theorem cont_ex{l:List ByteArray}(k:ByteArray)(hl:l.length≤4000000):∃r,F100 l k=some r:=by
 rw[F100,F122]
 have g:=idx_l1 k l 0
 repeat'(first|exact⟨_,rfl⟩|exact g|exact exck (by omega)|exact byI_ex (by omega) (by omega)|exact rdI_ex (by omega) (by omega)|exact apI_ex (by omega)|with_reducible refine exif (fun _=>?_) (fun _=>?_)|with_reducible refine exb ?_ (fun _ _=>?_)|with_reducible refine exmap ?_|split)
theorem holds_ex{r:Requirement}{l:List Label}(h1:r.Values.length≤4000000)(hl:l.length≤4000000):∃b,F78 r l=some b:=by
 rw[F78]
 have g:=lget_ex r.Key hl
 have g2:=fun k=>cont_ex (l:=r.Values) k h1
 repeat'(first|exact⟨_,rfl⟩|exact g|exact g2 _|exact exck (by omega)|exact byI_ex (by omega) (by omega)|exact rdI_ex (by omega) (by omega)|exact apI_ex (by omega)|with_reducible refine exif (fun _=>?_) (fun _=>?_)|with_reducible refine exb ?_ (fun _ _=>?_)|with_reducible refine exmap ?_|split)
theorem mat_l1{l:List Label}(hl:l.length≤4000000):∀(sel:List Requirement) (i:Nat),(∀r∈sel,r.Values.length≤4000000)→∃b,F42_l1 l sel i=some b
 |[],i,_=>⟨_,by rw[F42_l1]⟩
 |x::sel,i,h=>by
  rw[F42_l1]
  have ih:=mat_l1 hl sel (i+1) fun r hr=>h r (List.mem_cons_of_mem _ hr)
  have g:=holds_ex (h x (List.mem_cons_self ..)) hl
  repeat'(first|exact⟨_,rfl⟩|exact ih|exact g|exact exck (by omega)|exact byI_ex (by omega) (by omega)|exact rdI_ex (by omega) (by omega)|exact apI_ex (by omega)|with_reducible refine exif (fun _=>?_) (fun _=>?_)|with_reducible refine exb ?_ (fun _ _=>?_)|with_reducible refine exmap ?_|split)
def selOk(sel:List Requirement):Prop:=sel.length≤4000000∧∀r∈sel,r.Values.length≤4000000
def matB(sel:List Requirement)(l:List Label):Bool:=(F42 sel l).getD false
theorem mat_t{sel:List Requirement}{l:List Label}(h:selOk sel)(hl:l.length≤4000000):F42 sel l=some (matB sel l):=by
 have:∃b,F42 sel l=some b:=by
  rw[F42]
  have g:=mat_l1 hl sel 0 h.2
  have:=h.1
  repeat'(first|exact⟨_,rfl⟩|exact g|exact exck (by omega)|exact byI_ex (by omega) (by omega)|exact rdI_ex (by omega) (by omega)|exact apI_ex (by omega)|with_reducible refine exif (fun _=>?_) (fun _=>?_)|with_reducible refine exb ?_ (fun _ _=>?_)|with_reducible refine exmap ?_|split)
 obtain⟨b,hb⟩:=this
 unfold matB;rw[hb];rfl
def e0:ByteArray:=⟨#[]⟩
def selS(f:Filter)(o:Object):Bool:=(decide (f.Kind=e0)||decide (f.Kind=o.Meta.Kind))&&((decide (f.Namespace=e0)||decide (f.Namespace=o.Meta.Namespace))&&matB f.Selector o.Meta.Labels)
theorem sel_t'(f:Filter)(o:Object)(b:Bool):(if f.Kind=(⟨#[]⟩:ByteArray)then(if f.Namespace=(⟨#[]⟩:ByteArray)then(some b).bind fun t26=>some t26 else(if f.Namespace=o.Meta.Namespace then(some b).bind fun t28=>some t28 else some false))else(if f.Kind=o.Meta.Kind then(if f.Namespace=(⟨#[]⟩:ByteArray)then(some b).bind fun t31=>some t31 else(if f.Namespace=o.Meta.Namespace then(some b).bind fun t33=>some t33 else some false))else some false))=some ((decide (f.Kind=e0)||decide (f.Kind=o.Meta.Kind))&&((decide (f.Namespace=e0)||decide (f.Namespace=o.Meta.Namespace))&&b)):=by
 unfold e0
 by_cases a1:f.Kind=(⟨#[]⟩:ByteArray)<;>by_cases a2:f.Kind=o.Meta.Kind<;>by_cases a3:f.Namespace=(⟨#[]⟩:ByteArray)<;>by_cases a4:f.Namespace=o.Meta.Namespace<;>simp only[a1,a2,a3,a4,if_true,if_false,Option.bind_some,decide_true,decide_false,Bool.true_or,Bool.or_true,Bool.false_or,Bool.or_false,Bool.true_and,Bool.false_and,Bool.or_self,ite_self]
theorem sorted_inj:∀{l:List Object},Sorted l→∀{x y:Object},x∈l→y∈l→keyO x=keyO y→x=y
 |[],_,x,y,hx,_,_=>by cases hx
 |a::l,hs,x,y,hx,hy,e=>by
  have hs2:=List.pairwise_cons.1 hs
  rcases List.mem_cons.1 hx with e1|h1<;>rcases List.mem_cons.1 hy with e2|h2
  ·rw[e1,e2]
  ·subst e1;exact(lt_ne (hs2.1 y h2) e).elim
  ·subst e2;exact(lt_ne (hs2.1 x h1) e.symm).elim
  ·exact sorted_inj hs2.2 h1 h2 e
theorem get_self{l:List Object}(hs:Sorted l){x:Object}(hx:x∈l):getS l (keyO x)=some x:=by
 cases hg:getS l (keyO x)with
 |none=>
  have:=List.find?_eq_none.1 hg x hx
  simp[cO_zero]at this
 |some y=>
  obtain⟨h1,h2⟩:=get_mem hg
  rw[sorted_inj hs h1 hx h2]
theorem ops_ow{l:List TOp}(h:wL wTOp l≤1048576):(∀op∈l,OW op.O)∧l.length≤4000000:=by
 refine⟨fun op ho=>oW ?_,?_⟩
 ·have:=wL_mem (w:=wTOp) ho
  unfold wTOp at this
  unfold wTOp at h
  omega
 ·have:=wL_len (w:=wTOp) (fun a=>by unfold wTOp;omega) l
  omega
open Go Go.Fw
set_option maxRecDepth 100000
set_option linter.unusedVariables false
set_option linter.unusedSimpArgs false
open Go Go.Fw
set_option maxRecDepth 100000
set_option linter.unusedVariables false
set_option linter.unusedSimpArgs false
open Go Go.Fw
set_option maxRecDepth 100000
set_option linter.unusedVariables false
set_option linter.unusedSimpArgs false
def restC(m:Meta):Option Bool:=(((F130 m.Kind).bind fun t6=>(if t6=true then(F131 m.Namespace).bind fun t8=>(if t8=true then(F132 m.Name).bind fun t10=>(if t10=true then(F133 m.Labels).bind fun t12=>(if t12=true then(F134 m.Owners).bind fun t14=>(if t14=true then(F135 m.Finalizers).bind fun t16=>(if t16=true then(F136 m.Managers).bind fun t18=>some t18 else some false)else some false)else some false)else some false)else some false)else some false)).bind fun o5=>some o5)
def num(m:Meta):Prop:=0≤m.Uid∧0≤m.Version∧0≤m.Generation∧0≤m.Created∧0≤m.DeleteAt∧(m.Deleting=true∨m.DeleteAt=0)
instance(m:Meta):Decidable (num m):=by unfold num;exact inferInstance
theorem mn(a b:Int):(if b<a then b else a)<0↔a<0∨b<0:=by split<;>omega
theorem mvalid_eq(m:Meta):F116 m=if num m then restC m else some false:=by
 rw[F116]
 simp only[mn]
 have e:(if(((m.Uid<0∨m.Version<0)∨m.Generation<0)∨m.Created<0)∨m.DeleteAt<0 then some true else(if(nb m.Deleting)=true then some (decide (¬(m.DeleteAt=0)))else some false))=some (decide (¬num m)):=by
  unfold num
  rw[nb_not]
  by_cases h:(((m.Uid<0∨m.Version<0)∨m.Generation<0)∨m.Created<0)∨m.DeleteAt<0
  ·rw[if_pos h]
   have:¬(0≤m.Uid∧0≤m.Version∧0≤m.Generation∧0≤m.Created∧0≤m.DeleteAt∧(m.Deleting=true∨m.DeleteAt=0)):=by omega
   rw[decide_eq_true this]
  ·rw[if_neg h]
   have h1:0≤m.Uid∧0≤m.Version∧0≤m.Generation∧0≤m.Created∧0≤m.DeleteAt:=by omega
   by_cases hd:m.Deleting=true<;>by_cases h2:m.DeleteAt=0<;>simp[h1.1,h1.2.1,h1.2.2.1,h1.2.2.2.1,h1.2.2.2.2,hd,h2]
 rw[e]
 by_cases h:num m
 ·rw[decide_eq_false (not_not_intro h),if_pos h];rfl
 ·rw[decide_eq_true h,if_neg h];rfl
def rest(o:Object):Prop:=restC o.Meta=some true∧F117 o.Spec=some true∧F117 o.Status=some true
theorem okO_iff{o:Object}(h:OW o):okO o=true↔num o.Meta∧rest o:=by
 have h0:=okO_t h
 obtain⟨a,ha⟩:=mValid_ex h
 obtain⟨b,hb⟩:=vValid_ex o.Spec h.spec
 obtain⟨c,hc⟩:=vValid_ex o.Status h.status
 rw[F92,ha,hb,hc]at h0
 unfold rest
 rw[hb,hc]
 rw[mvalid_eq]at ha
 have hv:okO o=(a&&(b&&c)):=by
  cases a<;>cases b<;>cases c<;>simp at h0<;>simp[←h0]
 rw[hv]
 by_cases hn:num o.Meta
 ·rw[if_pos hn]at ha
  rw[ha];simp[hn]
 ·rw[if_neg hn]at ha
  cases ha
  simp[hn]
theorem rest_meta{o:Object}(h:rest o)(u v g c:Int)(dl:Bool)(da:Int):rest ⟨⟨o.Meta.Kind,o.Meta.Namespace,o.Meta.Name,u,v,g,c,dl,da,o.Meta.Labels,o.Meta.Owners,o.Meta.Finalizers,o.Meta.Managers⟩,o.Spec,o.Status⟩:=h
def OV(rev next:Int)(o:Object):Prop:=okO o=true∧1≤o.Meta.Uid∧o.Meta.Uid<next∧1≤o.Meta.Generation∧o.Meta.Generation≤o.Meta.Version∧o.Meta.Version≤rev
theorem OV.mono{r n r' n':Int}{o:Object}(h:OV r n o)(hr:r≤r')(hn:n≤n'):OV r' n' o:=by
 obtain⟨h1,h2,h3,h4,h5,h6⟩:=h
 exact⟨h1,h2,by omega,h4,h5,by omega⟩
def Dist(l:List Object):Prop:=l.Pairwise fun a b=>a.Meta.Uid≠b.Meta.Uid
def pre(s:TStore)(k:Nat):List Object:=(s.History.take k).foldl repS s.Base
structure HV(s:TStore)(i:Nat)(c:Change):Prop where
 rev:c.Rev=s.Floor+1+i
 ver:c.Object.Meta.Version=c.Rev
 kind:c.Kind=1∨c.Kind=2
 ov:OV (s.Floor+1+i) s.NextUid c.Object
 has:c.Kind=2→hasC (cO (keyO c.Object)) (pre s i)=true
structure Inv2(s:TStore):Prop where
 b:∀o∈s.Base,OV s.Floor s.NextUid o
 h:∀(i:Nat) (c:Change),s.History[i]? =some c→HV s i c
 d:∀k,k≤s.History.length→Dist (pre s k)
theorem pre_succ{s:TStore}{k:Nat}{c:Change}(h:s.History[k]? =some c):pre s (k+1)=repS (pre s k) c:=by
 unfold pre
 obtain⟨h1,h2⟩:=List.getElem?_eq_some_iff.1 h
 rw[List.take_add_one,h,List.foldl_append];rfl
theorem pre_ov{s:TStore}(h:Inv2 s):∀k,k≤s.History.length→∀o∈pre s k,OV (s.Floor+k) s.NextUid o
 |0,_,o,ho=>by
  have:=h.b o (by unfold pre at ho;simpa using ho)
  exact this.mono (by omega) (by omega)
 |k+1,hk,o,ho=>by
  have hc:s.History[k]? =some s.History[k]:=List.getElem?_eq_getElem (by omega)
  rw[pre_succ hc]at ho
  rcases rep_mem ho with h1|h1
  ·exact(pre_ov h k (by omega) o h1).mono (by omega) (by omega)
  ·rw[h1];exact((h.h k _ hc).ov).mono (by omega) (by omega)
theorem pre_all{n:Nat}{s:TStore}(hi:Inv n s):pre s s.History.length=s.Objects:=by
 unfold pre;rw[List.take_length];exact hi.rp
theorem obj_ov{n:Nat}{s:TStore}(hi:Inv n s)(h:Inv2 s):(∀o∈s.Objects,OV s.Rev s.NextUid o)∧Dist s.Objects:=by
 rw[←pre_all hi]
 refine⟨fun o ho=>(pre_ov h _ (Nat.le_refl _) o ho).mono (by have:=hi.hl;omega) (by omega),h.d _ (Nat.le_refl _)⟩
theorem insC_perm(c:Object→Int)(x:Object):∀l:List Object,(insC c x l).Perm (x::l)
 |[]=>List.Perm.refl _
 |y::l=>by
  unfold insC
  split
  ·exact((insC_perm c x l).cons y).trans (List.Perm.swap x y l)
  ·exact List.Perm.refl _
theorem rep_dist{l:List Object}{c:Change}(h:Dist l)(hc:c.Kind≠2→∀y∈l,keyO y≠keyO c.Object→c.Object.Meta.Uid≠y.Meta.Uid):Dist (repS l c):=by
 unfold repS
 split
 ·exact h.filter _
 ·rename_i h2
  refine((insC_perm _ _ _).pairwise_iff (fun hh=>Ne.symm hh)).2 (List.pairwise_cons.2 ⟨fun y hy=>?_,h.filter _⟩)
  exact hc h2 y (rm_mem.1 hy).1 (rm_mem.1 hy).2
theorem commit_inv2{n:Nat}{s:TStore}(hi:Inv n s)(h:Inv2 s){kind:Int}{o:Object}{nu:Int}(hnu:s.NextUid≤nu)(hk:kind=1∨kind=2)(hv:OV (s.Rev+1) nu o)(hver:o.Meta.Version=s.Rev+1)
 (h1:kind=1→∀y∈s.Objects,keyO y≠keyO o→o.Meta.Uid≠y.Meta.Uid) (h2:kind=2→hasC (cO (keyO o)) s.Objects=true):
 Inv2 ⟨s.Rev+1,s.Floor,nu,s.Base,repS s.Objects ⟨s.Rev+1,kind,o⟩,s.History++[⟨s.Rev+1,kind,o⟩]⟩:=by
 have hl:=hi.hl
 have hpre:∀k,k≤s.History.length→pre ⟨s.Rev+1,s.Floor,nu,s.Base,repS s.Objects ⟨s.Rev+1,kind,o⟩,s.History++[⟨s.Rev+1,kind,o⟩]⟩ k=pre s k:=fun k hk=>by
  unfold pre;rw[show((⟨s.Rev+1,s.Floor,nu,s.Base,repS s.Objects ⟨s.Rev+1,kind,o⟩,s.History++[⟨s.Rev+1,kind,o⟩]⟩:TStore).History.take k)=s.History.take k from List.take_append_of_le_length hk]
 have hall:=pre_all hi
 have hd:=(obj_ov hi h).2
 refine⟨fun x hx=>(h.b x hx).mono (Int.le_refl _) hnu,fun i c hc=>?_,fun k hk2=>?_⟩
 ·rcases Nat.lt_or_ge i s.History.length with hlt|hge
  ·have hc':s.History[i]? =some c:=by rw[←List.getElem?_append_left hlt];exact hc
   have hh:=h.h i c hc'
   exact⟨hh.rev,hh.ver,hh.kind,hh.ov.mono (Int.le_refl _) hnu,fun h3=>by rw[hpre i (by omega)];exact hh.has h3⟩
  ·have hi2:i=s.History.length:=by
    have:=(List.getElem?_eq_some_iff.1 hc).1
    have e:((⟨s.Rev+1,s.Floor,nu,s.Base,repS s.Objects ⟨s.Rev+1,kind,o⟩,s.History++[⟨s.Rev+1,kind,o⟩]⟩:TStore).History).length=s.History.length+1:=by simp
    omega
   subst hi2
   have:c=⟨s.Rev+1,kind,o⟩:=by
    have h3:(s.History++[(⟨s.Rev+1,kind,o⟩:Change)])[s.History.length]? =some c:=hc
    simpa using h3.symm
   subst this
   refine⟨by show s.Rev+1=s.Floor+1+(s.History.length:Int);omega,hver,hk,hv.mono (by show s.Rev+1≤s.Floor+1+(s.History.length:Int);omega) (Int.le_refl _),fun h3=>?_⟩
   rw[hpre _ (Nat.le_refl _),hall]
   exact h2 h3
 ·rcases Nat.lt_or_ge s.History.length k with hlt|hge
  ·have hk3:k=s.History.length+1:=by
    have e:((⟨s.Rev+1,s.Floor,nu,s.Base,repS s.Objects ⟨s.Rev+1,kind,o⟩,s.History++[⟨s.Rev+1,kind,o⟩]⟩:TStore).History).length=s.History.length+1:=by simp
    omega
   subst hk3
   rw[pre_succ (c:=⟨s.Rev+1,kind,o⟩) (by show(s.History++[(⟨s.Rev+1,kind,o⟩:Change)])[s.History.length]? =_;simp),hpre _ (Nat.le_refl _),hall]
   refine rep_dist hd fun h3=>h1 ?_
   exact hk.resolve_right h3
  ·rw[hpre k hge];exact h.d k hge
open Go Go.Fw
set_option maxRecDepth 100000
set_option linter.unusedVariables false
set_option linter.unusedSimpArgs false
theorem create_inv2{n:Nat}{s:TStore}(hi:Inv n s)(h:Inv2 s)(hn:n≤400){o:Object}(ho:OW o)(now:Int):Inv2 (createS s o now).1:=by
 unfold createS
 split
 ·exact h
 rename_i g1
 split
 ·exact h
 rename_i g2
 simp only[not_or,Bool.not_eq_false]at g1
 have hu:=hi.u1;have hr:=hi.fr;have hf:=hi.fl
 obtain⟨h1,h2⟩:=(okO_iff ho).1 g1.1
 have hov:=(obj_ov hi h).1
 refine commit_inv2 hi h (kind:=1) (o:=newO s o now) (nu:=s.NextUid+1) (by omega) (.inl rfl) ⟨?_,?_,?_,?_,?_,?_⟩ rfl (fun _ y hy _=>?_) (fun h=>by cases h)
 ·exact(okO_iff (OW_meta ho _ _ _ _ _ _)).2 ⟨⟨by show 0≤s.NextUid;omega,by show 0≤s.Rev+1;omega,by show(0:Int)≤1;omega,by show 0≤now;omega,Int.le_refl _,.inr rfl⟩,rest_meta h2 _ _ _ _ _ _⟩
 ·show 1≤s.NextUid;omega
 ·show s.NextUid<s.NextUid+1;omega
 ·show(1:Int)≤1;omega
 ·show(1:Int)≤s.Rev+1;omega
 ·show s.Rev+1≤s.Rev+1;omega
 ·have:=(hov y hy).2.2.1
  show s.NextUid≠y.Meta.Uid;omega
theorem upd_ov{n:Nat}{s:TStore}(hi:Inv n s)(h:Inv2 s)(hn:n≤400){o old:Object}(ho:OW o)(hok:okO o=true)(hold:old∈s.Objects):OV (s.Rev+1) s.NextUid (withV (updO s o old) (s.Rev+1)):=by
 obtain⟨h1,h2⟩:=(okO_iff ho).1 hok
 have hov:=(obj_ov hi h).1 old hold
 obtain⟨k1,k2,k3,k4,k5,k6⟩:=hov
 have hnum:=((okO_iff (hi.oo old hold)).1 k1).1
 have hr:=hi.rv;have hf:=hi.fl;have hfr:=hi.fr
 have hg:1≤(updO s o old).Meta.Generation∧(updO s o old).Meta.Generation≤s.Rev+1:=by
  unfold updO
  simp only
  split
  ·omega
  ·rw[wrapI (by omega) (by omega)];omega
 have hu:OW (updO s o old):=OW_meta ho _ _ _ _ _ _
 refine⟨(okO_iff (OW_meta hu _ _ _ _ _ _)).2 ⟨⟨hnum.1,by show 0≤s.Rev+1;omega,by show 0≤(updO s o old).Meta.Generation;omega,hnum.2.2.2.1,h1.2.2.2.2.1,h1.2.2.2.2.2⟩,h2⟩,k2,k3,hg.1,hg.2,Int.le_refl _⟩
theorem dist_ne{l:List Object}(h:Dist l){x y:Object}(hx:x∈l)(hy:y∈l)(hne:x≠y):x.Meta.Uid≠y.Meta.Uid:=by
 induction l with
 |nil=>cases hx
 |cons a l ih=>
  have h2:=List.pairwise_cons.1 h
  rcases List.mem_cons.1 hx with e1|h1<;>rcases List.mem_cons.1 hy with e2|h3
  ·exact(hne (e1.trans e2.symm)).elim
  ·rw[e1];exact h2.1 y h3
  ·rw[e2];exact(h2.1 x h1).symm
  ·exact ih h2.2 h1 h3
theorem update_inv2{n:Nat}{s:TStore}(hi:Inv n s)(h:Inv2 s)(hn:n≤400){o:Object}(ho:OW o):Inv2 (updateS s o).1:=by
 unfold updateS
 split
 ·exact h
 rename_i g1
 split
 ·exact h
 ·rename_i old hg
  split
  ·exact h
  split
  ·exact h
  obtain⟨hm,hk⟩:=get_mem hg
  refine commit_inv2 hi h (kind:=1) (o:=withV (updO s o old) (s.Rev+1)) (nu:=s.NextUid) (Int.le_refl _) (.inl rfl) (upd_ov hi h hn ho (by simpa using g1) hm) rfl (fun _ y hy hne=>?_) (fun h=>by cases h)
  show old.Meta.Uid≠y.Meta.Uid
  refine dist_ne (obj_ov hi h).2 hm hy fun e=>hne ?_
  rw[←e,hk];rfl
theorem delete_inv2{n:Nat}{s:TStore}(hi:Inv n s)(h:Inv2 s)(hn:n≤400)(k:ByteArray)(v:Int):Inv2 (deleteS s k v).1:=by
 unfold deleteS
 split
 ·exact h
 ·rename_i old hg
  split
  ·exact h
  obtain⟨hm,hk⟩:=get_mem hg
  have hold:=hi.oo old hm
  obtain⟨k1,k2,k3,k4,k5,k6⟩:=(obj_ov hi h).1 old hm
  have hnum:=(okO_iff hold).1 k1
  have hr:=hi.rv;have hf:=hi.fl;have hfr:=hi.fr
  refine commit_inv2 hi h (kind:=2) (o:=withV old (s.Rev+1)) (nu:=s.NextUid) (Int.le_refl _) (.inr rfl) ⟨(okO_iff (OW_meta hold _ _ _ _ _ _)).2 ⟨⟨hnum.1.1,by show 0≤s.Rev+1;omega,hnum.1.2.2⟩,hnum.2⟩,k2,k3,k4,by show old.Meta.Generation≤s.Rev+1;omega,Int.le_refl _⟩ rfl (fun h=>by cases h) (fun _=>?_)
  have:keyO (withV old (s.Rev+1))=k:=hk
  rw[this,get_has,hg];rfl
theorem comp_pre{s:TStore}(rev:Int)(j:Nat):pre (compS s rev) j=pre s ((rev-s.Floor).toNat+j):=by
 unfold pre
 show((s.History.drop _).take j).foldl repS ((s.History.take _).foldl repS s.Base)=_
 rw[←List.foldl_append,List.take_add]
theorem comp_inv2{n:Nat}{s:TStore}(hi:Inv n s)(h:Inv2 s){rev:Int}(h1:s.Floor≤rev)(h2:rev≤s.Rev):Inv2 (compS s rev):=by
 have hl:=hi.hl
 have hlen:(compS s rev).History.length=s.History.length-(rev-s.Floor).toNat:=List.length_drop ..
 refine⟨fun o ho=>?_,fun i c hc=>?_,fun k hk=>?_⟩
 ·have:o∈pre s (rev-s.Floor).toNat:=ho
  exact(pre_ov h _ (by omega) o this).mono (by show _≤rev;omega) (Int.le_refl _)
 ·have hc':s.History[(rev-s.Floor).toNat+i]? =some c:=by
   have:(s.History.drop (rev-s.Floor).toNat)[i]? =some c:=hc
   rwa [List.getElem?_drop]at this
  have hh:=h.h _ c hc'
  refine⟨by have:=hh.rev;show c.Rev=rev+1+i;omega,hh.ver,hh.kind,hh.ov.mono (by show _≤rev+1+(i:Int);omega) (Int.le_refl _),fun h3=>?_⟩
  rw[comp_pre];exact hh.has h3
 ·rw[comp_pre];exact h.d _ (by omega)
theorem step_inv2{n:Nat}{s:TStore}(hi:Inv n s)(h:Inv2 s)(hn:n≤400){op:TOp}(ho:OW op.O):Inv2 (stepS s op).1:=by
 unfold stepS
 split
 ·exact create_inv2 hi h hn ho _
 split
 ·exact update_inv2 hi h hn (OW_meta ho _ _ _ _ _ _)
 split
 ·exact delete_inv2 hi h hn _ _
 ·show Inv2 (compactS s op.Rev).1
  unfold compactS
  split
  ·exact h
  ·exact comp_inv2 hi h (by omega) (by omega)
theorem inv20:Inv2 S0 where
 b:=by intro o h;cases h
 h:=by intro i c hc;simp[S0]at hc
 d:=by intro k hk;unfold pre S0;simp[Dist]
theorem play_inv2:∀{l:List TOp} {n:Nat} {s:TStore},Inv n s→Inv2 s→n+l.length≤400→(∀op∈l,OW op.O)→Inv2 (playS s l)
 |[],n,s,_,h,_,_=>h
 |op::l,n,s,hi,h,hn,ho=>by
  have h1:=ho op (List.mem_cons_self ..)
  simp only[List.length_cons]at hn
  exact play_inv2 (l:=l) (step_inv hi h1).1 (step_inv2 hi h (by omega) h1) (by omega) fun o hx=>ho o (List.mem_cons_of_mem _ hx)
open Go Go.Fw
set_option maxRecDepth 100000
set_option linter.unusedVariables false
set_option linter.unusedSimpArgs false
theorem pre_ow{n:Nat}{s:TStore}(hi:Inv n s)(k:Nat):Sorted (pre s k)∧(∀o∈pre s k,OW o)∧(pre s k).length≤s.Base.length+k:=
 ⟨fold_sorted hi.sb,fold_keep OW hi.ob (fun c hc=>hi.oh c (List.mem_of_mem_take hc)),Nat.le_trans (fold_len _ _) (by rw[List.length_take];omega)⟩
theorem At_t{n:Nat}{s:TStore}(hi:Inv n s)(hn:n≤400){rev:Int}(h1:s.Floor≤rev)(h2:rev≤s.Rev):F21 s rev=some (atL s rev,0):=by
 have hr:=hi.rv;have hf:=hi.fl;have hlb:=hi.lb
 obtain⟨p1,p2,p3⟩:=atL_keep hi rev
 rw[F21,if_neg (by omega),decide_eq_false (by omega)]
 simp only[Option.bind_some,Bool.false_eq_true,if_false]
 rw[if_neg (by omega),at_t hi (by omega) h1 h2,Option.bind_some,cloneAll_t p2 (by omega)]
 rfl
open Go Go.Fw
set_option maxRecDepth 100000
set_option linter.unusedVariables false
set_option linter.unusedSimpArgs false
open Go Go.Fw
set_option maxRecDepth 100000
set_option linter.unusedVariables false
set_option linter.unusedSimpArgs false
theorem getM_putS(k k':ByteArray)(v:Bool):∀m:List (ByteArray×Bool),getM k (putM k' v m)=if k'=k then some v else getM k m
 |[]=>by simp[putM,getM]
 |e::r=>by
  rw[putM]
  by_cases h:e.1=k'
  ·rw[if_pos h,getM,getM]
   by_cases h2:k'=k
   ·rw[if_pos h2,if_pos h2]
   ·rw[if_neg h2,if_neg h2,if_neg (by rw[h];exact h2)]
  ·rw[if_neg h,getM,getM_putS k k' v r,getM]
   by_cases h2:e.1=k
   ·rw[if_pos h2,if_pos h2,if_neg (by rw[←h2];exact fun h'=>h h'.symm)]
   ·rw[if_neg h2,if_neg h2]
open Go Go.Fw
set_option maxRecDepth 100000
set_option linter.unusedVariables false
set_option linter.unusedSimpArgs false
open Go Go.Fw
set_option maxRecDepth 100000
set_option linter.unusedVariables false
set_option linter.unusedSimpArgs false
open Go Go.Fw
set_option maxRecDepth 100000
set_option linter.unusedVariables false
set_option linter.unusedSimpArgs false
open Go Go.Fw
set_option maxRecDepth 100000
set_option linter.unusedVariables false
set_option linter.unusedSimpArgs false
def wbN(n:Int):Bool:=decide (97≤n)&&decide (n≤122)||decide (48≤n)&&decide (n≤57)||decide (n=45)||decide (n=46)||decide (n=47)
def wb(c:UInt8):Bool:=wbN (c.toNat:Int)
theorem L51_t(n:Int):F113 n=some (wbN n):=by
 unfold F113 wbN
 by_cases h1:97≤n<;>by_cases h2:n≤122<;>by_cases h3:48≤n<;>by_cases h4:n≤57<;>by_cases h5:n=45<;>by_cases h6:n=46<;>simp[*]
theorem byI_at{b:ByteArray}{i:Nat}(h:i<(bl b).length):byI b (i:Int)=some ((bl b)[i].toNat:Int):=by
 have hs:i<b.size:=h
 unfold byI
 rw[if_pos (by omega)]
 simp[hs,bl,ByteArray.getElem_eq_getElem_data]
theorem size_bl(b:ByteArray):b.size=(bl b).length:=rfl
def lkL(l:List UInt8):Bool:=decide (1≤l.length)&&decide (l.length≤40)&&(match l with|[]=>false|c::_=>decide (97≤c.toNat)&&decide (c.toNat≤122))&&l.all wb
def lkB(s:ByteArray):Bool:=lkL (bl s)
def valc(c:UInt8):Bool:=wb c&& !decide (c.toNat=47)
def valL(l:List UInt8):Bool:=decide (l.length≤40)&&l.all valc
def valB(s:ByteArray):Bool:=valL (bl s)
theorem L29_l8_t(s:ByteArray)(hs:(bl s).length≤40):∀(n i k:Nat),(bl s).length=i+n→n<k→F87_l8 s k (i:Int)=some (if((bl s).drop i).all wb=true then .inr ()else .inl false)
 |0,i,k+1,hl,_=>by
  rw[F87_l8,if_neg (by rw[size_bl];omega),List.drop_of_length_le (by omega)];rfl
 |n+1,i,k+1,hl,hk=>by
  rw[F87_l8,if_pos (by rw[size_bl];omega),byI_at (by omega),List.drop_eq_getElem_cons (by omega),List.all_cons]
  simp only[Option.bind_some,L51_t]
  have e1:IntKind.i64.wrap ((i:Int)+1)=((i+1:Nat):Int):=wrapN (by omega)
  rw[e1,L29_l8_t s hs n (i+1) k (by omega) (by omega)]
  show(if nb (wb (bl s)[i])=true then _ else _)=_
  cases hw:wb (bl s)[i]<;>simp[nb_not]
theorem L29_t(s:ByteArray):F87 s=some (lkB s):=by
 unfold F87 lkB lkL
 by_cases h0:s=⟨#[]⟩
 ·subst h0;rfl
 rw[if_neg h0]
 have hne:bl s≠[]:=fun e=>h0 (by rw[←lb_bl s,e];rfl)
 by_cases h1:40<(s.size:Int)
 ·rw[if_pos h1]
  have:¬(bl s).length≤40:=by rw[size_bl]at h1;omega
  simp[this]
 rw[if_neg h1]
 rw[size_bl]at h1
 match hb:bl s with
 |[]=>exact(hne hb).elim
 |c::r=>
  have hl:(bl s).length=r.length+1:=by rw[hb];rfl
  have hc:byI s 0=some (c.toNat:Int):=by
   have:=byI_at (b:=s) (i:=0) (by omega)
   rw[show((0:Nat):Int)=0 from rfl]at this
   rw[this];simp[hb]
  rw[hc]
  have h8:=L29_l8_t s (by omega) (bl s).length 0 1099511627776 (by omega) (by omega)
  rw[show((0:Nat):Int)=0 from rfl,List.drop_zero,hb]at h8
  simp only[Option.bind_some,h8]
  have hr:r.length≤39:=by omega
  by_cases g1:(c.toNat:Int)<97
  ·have:¬97≤c.toNat:=by omega
   simp[g1,this]
  ·have a1:97≤c.toNat:=by omega
   by_cases g2:122<(c.toNat:Int)
   ·have:¬c.toNat≤122:=by omega
    simp[g1,g2,this]
   ·have a2:c.toNat≤122:=by omega
    simp only[g1,g2,if_false,Option.bind_some,decide_false,Bool.false_eq_true,List.length_cons]
    cases hw:(c::r).all wb<;>simp[a1,a2,hr]
theorem L30_l2_t(s:ByteArray)(hs:(bl s).length≤40):∀(n i k:Nat),(bl s).length=i+n→n<k→F89_l2 s k (i:Int)=some (if((bl s).drop i).all valc=true then .inr ()else .inl false)
 |0,i,k+1,hl,_=>by
  rw[F89_l2,if_neg (by rw[size_bl];omega),List.drop_of_length_le (by omega)];rfl
 |n+1,i,k+1,hl,hk=>by
  rw[F89_l2,if_pos (by rw[size_bl];omega),byI_at (by omega),List.drop_eq_getElem_cons (by omega),List.all_cons]
  simp only[Option.bind_some,L51_t]
  have e1:IntKind.i64.wrap ((i:Int)+1)=((i+1:Nat):Int):=wrapN (by omega)
  rw[e1,L30_l2_t s hs n (i+1) k (by omega) (by omega)]
  show((if nb (wb (bl s)[i])=true then some true else some (decide (((bl s)[i].toNat:Int)=47))).bind _)=_
  rw[show valc (bl s)[i]=(wb (bl s)[i]&& !decide ((bl s)[i].toNat=47))from rfl]
  have e2:(((bl s)[i].toNat:Int)=47)↔((bl s)[i].toNat=47):=by omega
  cases hw:wb (bl s)[i]<;>by_cases h47:(bl s)[i].toNat=47<;>simp[nb_not,e2,h47]
theorem L30_t(s:ByteArray):F89 s=some (valB s):=by
 unfold F89 valB valL
 by_cases h1:40<(s.size:Int)
 ·rw[if_pos h1]
  have:¬(bl s).length≤40:=by rw[size_bl]at h1;omega
  simp[this]
 rw[if_neg h1]
 rw[size_bl]at h1
 have h8:=L30_l2_t s (by omega) (bl s).length 0 1099511627776 (by omega) (by omega)
 rw[show((0:Nat):Int)=0 from rfl,List.drop_zero]at h8
 rw[h8]
 have a:(bl s).length≤40:=by omega
 cases hw:(bl s).all valc<;>simp[a]
def adj{α:Type}(f:α→ByteArray)(p:α→Bool):Option ByteArray→List α→Bool
 |_,[]=>true
 |q,x::r=>p x&&(match q with|none=>true|some y=>decide (lt y (f x)))&&adj f p (some (f x)) r
def prev{α:Type}(f:α→ByteArray)(l:List α):Nat→Option ByteArray
 |0=>none
 |n+1=>(l[n]?).map f
theorem L35_l11_t(r:Requirement)(hs:r.Values.length≤64):∀(n i:Nat),r.Values.length=i+n→F59_l11 r (r.Values.drop i) i=some (if adj id valB (prev id r.Values i) (r.Values.drop i)=true then .inr ()else .inl false)
 |0,i,hl=>by
  rw[List.drop_of_length_le (by omega)];rfl
 |n+1,i,hl=>by
  rw[List.drop_eq_getElem_cons (by omega),F59_l11,L35_l11_t r hs n (i+1) (by omega)]
  have hp:prev id r.Values (i+1)=some r.Values[i]:=by simp[prev,List.getElem?_eq_getElem (show i<r.Values.length by omega)]
  rw[hp]
  simp only[L30_t,Option.bind_some,adj,nb_not,id]
  cases i with
  |zero=>by_cases hv:valB r.Values[0]=true<;>simp[prev,hv]
  |succ i=>
   have e2:IntKind.i64.wrap (((i+1:Nat):Int)-1)=(i:Int):=by rw[wrapI (by omega) (by omega)];omega
   have hp2:prev id r.Values (i+1)=some r.Values[i]:=by simp[prev,List.getElem?_eq_getElem (show i<r.Values.length by omega)]
   have h0:0<((i+1:Nat):Int):=by omega
   simp only[e2,rdI_at (show i<r.Values.length by omega),hp2,h0,if_true,Option.bind_some,bl_le]
   by_cases hv:valB r.Values[i+1]=true<;>by_cases hlt:lt r.Values[i] r.Values[i+1]<;>simp[hlt,hv]
def validR(r:Requirement):Bool:=
 lkB r.Key&&(if r.Op=3∨r.Op=4 then decide (r.Values.length=0)else decide (r.Op=1∨r.Op=2)&&(decide (1≤r.Values.length)&&decide (r.Values.length≤64)&&adj id valB none r.Values))
theorem vals_t(r:Requirement):((if(r.Values.length:Int)<1 then some true else some (decide (64<(r.Values.length:Int)))).bind fun o8=>(if o8=true then some false else(((ck (0≤r.Values.length∧r.Values.length≤4294967290)).bind fun u19=>F59_l11 r r.Values 0).bind fun o11=>match o11 with|Sum.inl f=>some f|Sum.inr po11=>some true):Option Bool))=some (decide (1≤r.Values.length)&&decide (r.Values.length≤64)&&adj id valB none r.Values):=by
 have e1:((r.Values.length:Int)<1)↔¬1≤r.Values.length:=by omega
 have e2:(64<(r.Values.length:Int))↔¬r.Values.length≤64:=by omega
 by_cases h1:1≤r.Values.length
 ·by_cases h2:r.Values.length≤64
  ·have:=L35_l11_t r h2 r.Values.length 0 (by omega)
   rw[List.drop_zero]at this
   rw[if_neg (fun h=>e1.1 h h1),ck_t (by omega),Option.bind_some,Option.bind_some,this]
   simp only[h1,h2,e2,decide_true,Bool.true_and,not_true_eq_false,decide_false,Bool.false_eq_true,if_false]
   show _=some (adj id valB (prev id r.Values 0) r.Values)
   cases adj id valB (prev id r.Values 0) r.Values<;>rfl
  ·simp[e1,e2,h1,h2]
 ·simp[e1,h1]
theorem L35_t(r:Requirement):F59 r=some (validR r):=by
 unfold F59 validR
 simp only[L29_t,Option.bind_some,nb_not]
 cases hk:lkB r.Key
 ·rfl
 simp only[Bool.not_true,Bool.false_eq_true,if_false,Bool.true_and]
 unfold F88
 by_cases h3:r.Op=3
 ·simp[h3]
 by_cases h4:r.Op=4
 ·simp[h4]
 by_cases h1:r.Op=1
 ·simp only[h1,if_true,Option.bind_some,Bool.not_true,Bool.false_eq_true,if_false]
  refine(vals_t r).trans ?_;simp
 by_cases h2:r.Op=2
 ·simp only[h2,decide_true,if_true,Option.bind_some,Bool.not_true,Bool.false_eq_true,if_false,show¬((2:Int)=1)from by omega]
  refine(vals_t r).trans ?_;simp
 simp[h1,h2,h3,h4]
theorem L53_l1_t:∀(l:List Requirement) (i:Nat),∃r,F86_l1 l i=some r∧(l.all validR=true→r= .inr ())∧(l.all validR=false→∃j:Nat,r= .inl (j:Int))
 |[],i=>⟨_,rfl,fun _=>rfl,fun h=>by simp at h⟩
 |x::l,i=>by
  rw[F86_l1,List.all_cons]
  unfold F58
  simp only[L35_t,Option.bind_some,nb_not]
  cases hv:validR x
  ·exact⟨_,rfl,fun h=>by simp at h,fun _=>⟨i,rfl⟩⟩
  ·simpa using L53_l1_t l (i+1)
def validS(s:List Requirement):Bool:=decide (s.length≤16)&&s.all validR
theorem L15_t(s:List Requirement):F27 s=some (validS s):=by
 unfold F27 validS
 by_cases h:s.length≤16
 ·have e:(s.length:Int)≤16:=by omega
  rw[if_pos e]
  unfold F57 F86
  obtain⟨r,h1,h2,h3⟩:=L53_l1_t s 0
  rw[ck_t (by omega),Option.bind_some,h1]
  cases hv:s.all validR
  ·obtain⟨j,rfl⟩:=h3 hv
   simp[h,nb_not]
  ·rw[h2 hv]
   simp[h,nb_not]
 ·have e:¬(s.length:Int)≤16:=by omega
  simp[e,h]
open Go Go.Fw
set_option maxRecDepth 100000
set_option linter.unusedVariables false
set_option linter.unusedSimpArgs false
theorem wawake_t:F10=some true:=by
 set_option maxRecDepth 1000000 in
 kernel_rfl
theorem wsel_t{f:Filter}{o:Object}(h:selOk f.Selector)(ho:OW o):F16 f o=some (selS f o):=by
 have e:(if f.Kind=(⟨#[]⟩:ByteArray)then(if f.Namespace=(⟨#[]⟩:ByteArray)then(some (matB f.Selector o.Meta.Labels)).bind fun t26=>some t26 else(if f.Namespace=o.Meta.Namespace then(some (matB f.Selector o.Meta.Labels)).bind fun t28=>some t28 else some false))else(if f.Kind=o.Meta.Kind then(if f.Namespace=(⟨#[]⟩:ByteArray)then(some (matB f.Selector o.Meta.Labels)).bind fun t31=>some t31 else(if f.Namespace=o.Meta.Namespace then(some (matB f.Selector o.Meta.Labels)).bind fun t33=>some t33 else some false))else some false))=some (selS f o):=sel_t' f o _
 rw[F16,mat_t h ho.labels,e];rfl
theorem narrow_l2:∀(l:List Requirement) (i:Nat),∃r,F9_l2 l i=some r
 |[],i=>⟨_,by rw[F9_l2]⟩
 |x::l,i=>by
  rw[F9_l2]
  split
  ·exact⟨_,rfl⟩
  ·exact narrow_l2 l _
theorem narrow_ex(f:Filter):∃b,F9 f=some b:=by
 rw[F9]
 split
 ·exact⟨_,rfl⟩
 ·rw[ck_t (by omega),Option.bind_some]
  obtain⟨r,hr⟩:=narrow_l2 f.Selector 0
  rw[hr]
  cases r<;>exact⟨_,rfl⟩
theorem wcopied_l2(l:List Requirement)(h:∀r∈l,r.Values.length≤4294967290):∀(xs:List Requirement) (i:Nat),l.drop i=xs→F35_l2 xs i l=some l
 |[],i,_=>by rw[F35_l2]
 |x::xs,i,e=>by
  have hx:=drop_hd e
  rw[F35_l2,rdI_val hx]
  simp only[Option.bind_some]
  rw[cl_t (h x (List.mem_of_getElem? hx))]
  simp only[Option.bind_some,Int.toNat_natCast]
  rw[set_same hx]
  exact wcopied_l2 l h xs (i+1) (drop_tl e)
theorem wcopied_t{f:Filter}(h:selOk f.Selector):F35 f=some f.Selector:=by
 have:=h.1
 rw[F35,cl_t (by omega),Option.bind_some,ck_t (by omega),Option.bind_some,wcopied_l2 _ (fun r hr=>by have:=h.2 r hr;omega) _ 0 (List.drop_zero ..)]
 rfl
theorem wclone_l5(l:List Manager)(h:∀m∈l,m.Fields.length≤4294967290):∀(xs:List Manager) (i:Nat),l.drop i=xs→F38_l5 xs i l=some l
 |[],i,_=>by rw[F38_l5]
 |x::xs,i,e=>by
  have hx:=drop_hd e
  rw[F38_l5,rdI_val hx]
  simp only[Option.bind_some]
  rw[cl_t (h x (List.mem_of_getElem? hx))]
  simp only[Option.bind_some,Int.toNat_natCast]
  rw[set_same hx]
  exact wclone_l5 l h xs (i+1) (drop_tl e)
theorem wList_t{a b:TValue}(ha:wTValue a≤4000000)(hb:wTValue b≤4000000):F74 [a,b]=some ([a,b],[]):=by
 rw[F74,vclone_t]
 ·rfl
 ·rw[wTValue_u];simp only[wN,wS,wL,List.map_cons,List.map_nil,List.sum_cons,List.sum_nil,show(⟨#[]⟩:ByteArray).size=0 from rfl];omega
 ·rw[wTValue_u];simp only[wN,wS,wL,List.map_cons,List.map_nil,List.sum_cons,List.sum_nil,show(⟨#[]⟩:ByteArray).size=0 from rfl];omega
theorem wclone_t{o:Object}(h:OW o):F38 o=some (parts o):=by
 rw[F38,cl_t (by have:=h.labels;omega),Option.bind_some,cl_t (by have:=h.owners;omega),Option.bind_some,cl_t (by have:=h.fins;omega),Option.bind_some,cl_t (by have:=h.mans;omega),Option.bind_some,ck_t (by have:=h.mans;omega),Option.bind_some,wclone_l5 _ (fun m hm=>by have:=h.man m hm;omega) _ 0 (List.drop_zero ..),Option.bind_some,wList_t h.spec h.status]
 rfl
def fltS(s:TStore)(f:Filter)(rev:Int):Int:=if validS f.Selector=false then 1 else if rev<0∨s.Rev<rev then 5 else if rev<s.Floor then 10 else 0
theorem flt_or(s:TStore)(rev:Int):(if rev<0 then some true else some (decide (s.Rev<rev)))=some (decide (rev<0∨s.Rev<rev)):=by
 by_cases g:rev<0<;>simp[g]
theorem fault_t(s:TStore)(f:Filter)(rev:Int):F34 s f rev=some (fltS s f rev):=by
 rw[F34,L15_t,Option.bind_some,nb_not,flt_or]
 unfold fltS
 cases validS f.Selector
 ·rfl
 by_cases g:rev<0∨s.Rev<rev
 ·simp[g]
 ·by_cases g2:rev<s.Floor<;>simp[g,g2]
def wasS(f:Filter)(l:List Object)(k:ByteArray):Bool:=match getS l k with|none=>false|some y=>selS f y
def evT(f:Filter)(l:List Object)(c:Change):Int:=
 if c.Kind=1∧selS f c.Object=true then(if wasS f l (keyO c.Object)=true then 2 else 1)else if wasS f l (keyO c.Object)=true then 3 else 0
def nxt(f:Filter)(most:Int):List Change→List Object→Int→List Event→Int×List Event×Bool
 |[],_,at_,out=>(at_,out,false)
 |c::cs,l,at_,out=>
  if evT f l c=0 then nxt f most cs (repS l c) at_ out
  else if most≤((out.length+1:Nat):Int)then(c.Rev,out++[⟨evT f l c,c.Rev,c.Object⟩],true)
  else nxt f most cs (repS l c) c.Rev (out++[⟨evT f l c,c.Rev,c.Object⟩])
def fin(s:TStore)(r:Int×List Event×Bool):Int×List Event:=
 if r.2.2=true then(r.1,r.2.1)else if r.1<s.Rev then(s.Rev,r.2.1++[⟨4,s.Rev,ZO⟩])else(r.1,r.2.1)
def nextS(s:TStore)(f:Filter)(rev most:Int):Int×List Event:=
 fin s (nxt f (if most<1 then 1 else most) (s.History.drop (rev-s.Floor).toNat) (atL s rev) rev [])
theorem evT_kind{f:Filter}{l:List Object}{c:Change}(h:selOk f.Selector)(hc:OW c.Object):F37 f c (wasS f l (keyO c.Object))=some (evT f l c):=by
 rw[F37,wsel_t h hc]
 unfold evT
 by_cases k1:c.Kind=1
 ·rw[if_pos k1]
  simp only[k1,true_and,Option.bind_some]
  cases selS f c.Object<;>cases wasS f l (keyO c.Object)<;>rfl
 ·rw[if_neg k1]
  simp only[k1,false_and,if_false,Option.bind_some]
  cases wasS f l (keyO c.Object)<;>rfl
open Go Go.Fw
set_option maxRecDepth 100000
set_option linter.unusedVariables false
set_option linter.unusedSimpArgs false
theorem get_iff{l:List Object}(hs:Sorted l){k:ByteArray}{y:Object}:getS l k=some y↔y∈l∧keyO y=k:=
 ⟨get_mem,fun h=>by rw[←h.2];exact get_self hs h.1⟩
theorem rep_mem_iff{l:List Object}{c:Change}{y:Object}:y∈repS l c↔(c.Kind≠2∧y=c.Object)∨(y∈l∧keyO y≠keyO c.Object):=by
 unfold repS
 by_cases h:c.Kind=2
 ·rw[if_pos h,rm_mem];simp[h]
 ·rw[if_neg h,insC_mem,rm_mem];simp[h]
theorem get_rep{l:List Object}(hs:Sorted l)(c:Change)(u:ByteArray):getS (repS l c) u=if u=keyO c.Object then(if c.Kind=2 then none else some c.Object)else getS l u:=by
 refine Option.ext fun y=>?_
 rw[get_iff (rep_sorted c hs),rep_mem_iff]
 by_cases hu:u=keyO c.Object
 ·rw[if_pos hu]
  by_cases hk:c.Kind=2
  ·rw[if_pos hk]
   constructor
   ·rintro⟨h|h,e⟩
    ·exact absurd hk h.1
    ·exact absurd (e.trans hu) h.2
   ·intro h;cases h
  ·rw[if_neg hk]
   constructor
   ·rintro⟨h|h,e⟩
    ·rw[h.2]
    ·exact absurd (e.trans hu) h.2
   ·intro h
    cases h
    exact⟨.inl ⟨hk,rfl⟩,hu.symm⟩
 ·rw[if_neg hu,get_iff hs]
  constructor
  ·rintro⟨h|h,e⟩
   ·rw[h.2]at e;exact absurd e.symm hu
   ·exact⟨h.1,e⟩
  ·rintro⟨h,e⟩
   exact⟨.inr ⟨h,fun h2=>hu (e.symm.trans h2)⟩,e⟩
theorem was_rep{f:Filter}{l:List Object}(hs:Sorted l){c:Change}(hk:c.Kind=1∨c.Kind=2)(u:ByteArray):wasS f (repS l c) u=if u=keyO c.Object then decide (evT f l c=1∨evT f l c=2)else wasS f l u:=by
 unfold wasS
 rw[get_rep hs]
 by_cases hu:u=keyO c.Object
 ·rw[if_pos hu,if_pos hu]
  rcases hk with hk|hk
  ·rw[if_neg (by omega)]
   show selS f c.Object=_
   unfold evT
   simp only[hk,true_and]
   cases selS f c.Object<;>cases wasS f l (keyO c.Object)<;>rfl
  ·rw[if_pos hk]
   show false=_
   unfold evT
   simp only[hk,show¬(2:Int)=1 by decide,false_and,if_false]
   cases wasS f l (keyO c.Object)<;>rfl
 ·rw[if_neg hu,if_neg hu]
theorem flt_in{s:TStore}{f:Filter}{rev:Int}(h:fltS s f rev=0):s.Floor≤rev∧rev≤s.Rev∧0≤rev:=by
 unfold fltS at h
 split at h
 ·omega
 split at h
 ·omega
 split at h
 ·omega
 ·omega
theorem nxt_at{n:Nat}{s:TStore}(h:Inv2 s)(hi:Inv n s)(f:Filter)(most:Int):∀(m i:Nat) (at_:Int) (out:List Event),s.History.length=i+m→at_≤s.Rev→(nxt f most (s.History.drop i) (pre s i) at_ out).1≤s.Rev
 |0,i,at_,out,h1,h2=>by rw[List.drop_of_length_le (by omega)];exact h2
 |m+1,i,at_,out,h1,h2=>by
  have hl:=hi.hl
  have hlt:i<s.History.length:=by omega
  have hc:s.History[i]? =some s.History[i]:=List.getElem?_eq_getElem hlt
  have hh:=h.h i _ hc
  have:=hh.rev
  rw[List.drop_eq_getElem_cons hlt,nxt,←pre_succ hc]
  split
  ·exact nxt_at h hi f most m (i+1) _ _ (by omega) h2
  split
  ·show s.History[i].Rev≤s.Rev;omega
  ·exact nxt_at h hi f most m (i+1) _ _ (by omega) (by omega)
theorem nxt_len{n:Nat}{s:TStore}(hi:Inv n s)(f:Filter)(most:Int):∀(m i:Nat) (at_:Int) (out:List Event),s.History.length=i+m→(nxt f most (s.History.drop i) (pre s i) at_ out).2.1.length≤out.length+m
 |0,i,at_,out,h1=>by rw[List.drop_of_length_le (by omega)];exact Nat.le_refl _
 |m+1,i,at_,out,h1=>by
  have hlt:i<s.History.length:=by omega
  have hc:s.History[i]? =some s.History[i]:=List.getElem?_eq_getElem hlt
  rw[List.drop_eq_getElem_cons hlt,nxt,←pre_succ hc]
  split
  ·have:=nxt_len hi f most m (i+1) at_ out (by omega);omega
  split
  ·simp
  ·have:=nxt_len hi f most m (i+1) s.History[i].Rev (out++[⟨evT f (pre s i) s.History[i],s.History[i].Rev,s.History[i].Object⟩]) (by omega)
   simp at this;omega
open Go Go.Fw
set_option maxRecDepth 100000
set_option linter.unusedVariables false
set_option linter.unusedSimpArgs false
theorem keyM_t{o:Object}(h:OW o):F24 o.Meta=some (keyO o):=KeyOf_t h.key
theorem getS_app(l:List Object)(x:Object)(u:ByteArray):getS (l++[x]) u=(getS l u).or (if keyO x=u then some x else none):=by
 unfold getS
 rw[List.find?_append]
 congr 1
 by_cases h:keyO x=u
 ·rw[if_pos h,List.find?_cons_of_pos (by simp[cO_zero,h])]
 ·rw[if_neg h,List.find?_cons_of_neg (by simp[cO_zero,h])];rfl
theorem sel_l5{f:Filter}(hf:selOk f.Selector){rv:Int}{l:List Object}{e:Int}(hs:Sorted l)(ho:∀o∈l,OW o):∀(xs:List Object) (i:Nat) (m:List (ByteArray×Bool)),l.drop i=xs→(∀u,(getM u m).getD false=wasS f (l.take i) u)→∃m',F14_l5 (l,e) ⟨f,rv⟩ xs i m=some m'∧∀u,(getM u m').getD false=wasS f l u
 |[],i,m,e1,hm=>⟨m,by rw[F14_l5],by
    have:l.length≤i:=by simpa using e1
    rwa [List.take_of_length_le this]at hm⟩
 |x::xs,i,m,e1,hm=>by
  have hx:=drop_hd e1
  have hxm:=List.mem_of_getElem? hx
  have h1:=ho x hxm
  rw[F14_l5,rdI_val hx,Option.bind_some,keyM_t h1,Option.bind_some,wsel_t hf h1,Option.bind_some]
  refine sel_l5 hf hs ho xs (i+1) _ (drop_tl e1) fun u=>?_
  have hno:getS (l.take i) (keyO x)=none:=by
   cases hg:getS (l.take i) (keyO x)with
   |none=>rfl
   |some y=>
    obtain⟨y1,y2⟩:=get_mem hg
    have hd:Sorted (l.take i++l.drop i):=by rw[List.take_append_drop];exact hs
    have:=(List.pairwise_append.1 hd).2.2 y y1 x (by rw[e1];exact List.mem_cons_self ..)
    exact(lt_ne this y2).elim
  rw[getM_putS]
  unfold wasS
  rw[List.take_add_one,hx,Option.toList_some,getS_app]
  by_cases hu:keyO x=u
  ·rw[if_pos hu,if_pos hu,←hu,hno];rfl
  ·rw[if_neg hu,if_neg hu,hm u]
   unfold wasS
   cases getS (l.take i) u<;>rfl
theorem parts_eta(x:Object):(⟨⟨x.Meta.Kind,x.Meta.Namespace,x.Meta.Name,x.Meta.Uid,x.Meta.Version,x.Meta.Generation,x.Meta.Created,x.Meta.Deleting,x.Meta.DeleteAt,(parts x).1,(parts x).2.1,(parts x).2.2.1,(parts x).2.2.2.1⟩,⟨(parts x).2.2.2.2.1,(parts x).2.2.2.2.2.1,(parts x).2.2.2.2.2.2.1,(parts x).2.2.2.2.2.2.2.1,(parts x).2.2.2.2.2.2.2.2.1⟩,⟨(parts x).2.2.2.2.2.2.2.2.2.1,(parts x).2.2.2.2.2.2.2.2.2.2.1,(parts x).2.2.2.2.2.2.2.2.2.2.2.1,(parts x).2.2.2.2.2.2.2.2.2.2.2.2.1,(parts x).2.2.2.2.2.2.2.2.2.2.2.2.2⟩⟩:Object)=x:=by
 simp only[parts,eta_v]
theorem evT_le(f:Filter)(l:List Object)(c:Change):evT f l c=0∨evT f l c=1∨evT f l c=2∨evT f l c=3:=by
 unfold evT
 split
 ·split<;>simp
 ·split<;>simp
theorem next_l11{n:Nat}{s:TStore}(hi:Inv n s)(h:Inv2 s)(hn:n≤400){w:Watcher}(hf:selOk w.Filter.Selector)(most:Int){t1:List Requirement}:∀(xs:List Change) (i:Nat) (at_:Int) (m:List (ByteArray×Bool)) (out:List Event),s.History.drop i=xs→w.Rev≤s.Floor+i→out.length≤i→(out.length:Int)<(if most<1 then 1 else most)→(∀u,(getM u m).getD false=wasS w.Filter (pre s i) u)→F14_l11 t1 w most xs i at_ m out=some (if(nxt w.Filter (if most<1 then 1 else most) xs (pre s i) at_ out).2.2=true then .inl (t1,(nxt w.Filter (if most<1 then 1 else most) xs (pre s i) at_ out).1,(nxt w.Filter (if most<1 then 1 else most) xs (pre s i) at_ out).2.1,0)else .inr ((nxt w.Filter (if most<1 then 1 else most) xs (pre s i) at_ out).1,(nxt w.Filter (if most<1 then 1 else most) xs (pre s i) at_ out).2.1))
 |[],i,at_,m,out,e,_,_,_,_=>by rw[F14_l11];rfl
 |c::xs,i,at_,m,out,e,hw,ho,hlm,hm=>by
  have hr:=hi.rv;have hfl:=hi.fl;have hl:=hi.hl;have hlb:=hi.lb;have hfr:=hi.fr
  have hc:=drop_hd e
  have hlt:=(List.getElem?_eq_some_iff.1 hc).1
  have hh:=h.h i _ hc
  have hco:=hi.oh _ (List.mem_of_getElem? hc)
  obtain⟨p1,p2,p3⟩:=pre_ow hi i
  have hrev:=hh.rev
  have hm':∀u,(getM u (if evT w.Filter (pre s i) c=1 then putM (keyO c.Object) true m else putM (keyO c.Object) (decide (evT w.Filter (pre s i) c=2)) m)).getD false=wasS w.Filter (pre s (i+1)) u:=by
   intro u
   rw[pre_succ hc,was_rep p1 hh.kind]
   by_cases hu:u=keyO c.Object
   ·rw[if_pos hu]
    by_cases k1:evT w.Filter (pre s i) c=1
    ·rw[if_pos k1,getM_putS,if_pos hu.symm];simp[k1]
    ·rw[if_neg k1,getM_putS,if_pos hu.symm];simp[k1]
   ·rw[if_neg hu,←hm u]
    by_cases k1:evT w.Filter (pre s i) c=1
    ·rw[if_pos k1,getM_putS,if_neg fun hh=>hu hh.symm]
    ·rw[if_neg k1,getM_putS,if_neg fun hh=>hu hh.symm]
  have em:(if evT w.Filter (pre s i) c=1 then some (putM (keyO c.Object) true m)else some (putM (keyO c.Object) (decide (evT w.Filter (pre s i) c=2)) m))=some (if evT w.Filter (pre s i) c=1 then putM (keyO c.Object) true m else putM (keyO c.Object) (decide (evT w.Filter (pre s i) c=2)) m):=by
   split<;>rfl
  rw[F14_l11,if_neg (by omega),keyM_t hco,Option.bind_some,hm (keyO c.Object),evT_kind hf hco,Option.bind_some,em,Option.bind_some,nxt,←pre_succ hc]
  by_cases g:evT w.Filter (pre s i) c=0
  ·rw[if_pos g]
   simp only[if_pos g,Option.bind_some]
   exact next_l11 hi h hn hf most xs (i+1) at_ _ out (drop_tl e) (by omega) (by omega) hlm hm'
  ·rw[if_neg g,wclone_t hco,Option.bind_some,parts_eta,apI_t (by simp;omega),Option.bind_some]
   simp only[if_neg g]
   have e2:((out++[(⟨evT w.Filter (pre s i) c,c.Rev,c.Object⟩:Event)]).length:Int)=((out.length+1:Nat):Int):=by simp
   rw[e2]
   by_cases g2:(if most<1 then 1 else most)≤((out.length+1:Nat):Int)
   ·rw[if_pos (show((out.length+1:Nat):Int)=(if most<1 then 1 else most)by omega)]
    simp only[if_pos g2,Option.map_some,Option.bind_some,if_true]
   ·rw[if_neg (show¬((out.length+1:Nat):Int)=(if most<1 then 1 else most)by omega)]
    simp only[if_neg g2,Option.bind_some]
    exact next_l11 hi h hn hf most xs (i+1) _ _ _ (drop_tl e) (by omega) (by simp;omega) (by simp only[List.length_append,List.length_cons,List.length_nil];omega) hm'
theorem skip_l11{n:Nat}{s:TStore}(hi:Inv n s)(h:Inv2 s){w:Watcher}(most:Int){t1:List Requirement}{k:Nat}(hk:w.Rev=s.Floor+k)(hkl:k≤s.History.length)(at_:Int)(m:List (ByteArray×Bool))(out:List Event):∀(d i:Nat),i+d=k→F14_l11 t1 w most (s.History.drop i) i at_ m out=F14_l11 t1 w most (s.History.drop k) k at_ m out
 |0,i,e=>by rw[show i=k by omega]
 |d+1,i,e=>by
  have hlt:i<s.History.length:=by omega
  have hc:s.History[i]? =some s.History[i]:=List.getElem?_eq_getElem hlt
  have hh:=h.h i _ hc
  have hrev:=hh.rev
  rw[List.drop_eq_getElem_cons hlt,F14_l11,if_pos (by omega)]
  simp only[Option.bind_some]
  exact skip_l11 hi h most hk hkl at_ m out d (i+1) (by omega)
theorem next_t{n:Nat}{s:TStore}(hi:Inv n s)(h:Inv2 s)(hn:n≤400){w:Watcher}(hf:selOk w.Filter.Selector)(most:Int):F14 s w most=some (if fltS s w.Filter w.Rev=0 then(w.Filter.Selector,(nextS s w.Filter w.Rev most).1,(nextS s w.Filter w.Rev most).2,0)else(w.Filter.Selector,w.Rev,[],fltS s w.Filter w.Rev)):=by
 have hr:=hi.rv;have hfl:=hi.fl;have hl:=hi.hl;have hfr:=hi.fr;have hlb:=hi.lb
 rw[F14,wcopied_t hf,Option.bind_some,fault_t,Option.bind_some]
 by_cases g:fltS s w.Filter w.Rev=0
 ·rw[if_neg (by simpa using g),if_pos g]
  obtain⟨g1,g2,g3⟩:=flt_in g
  obtain⟨k,hk⟩:∃k:Nat,w.Rev-s.Floor=k:=⟨(w.Rev-s.Floor).toNat,by omega⟩
  have ek:(w.Rev-s.Floor).toNat=k:=by omega
  have ea:atL s w.Rev=pre s k:=by unfold atL pre;rw[ek]
  obtain⟨p1,p2,p3⟩:=pre_ow hi k
  rw[At_t hi (by omega) g1 g2,Option.bind_some,ea,ck_t (by show _∧(pre s k).length≤_;omega),Option.bind_some]
  obtain⟨m,m1,m2⟩:=sel_l5 hf (rv:=w.Rev) (e:=0) p1 p2 (pre s k) 0 [] (List.drop_zero ..) (fun u=>rfl)
  show Option.bind (F14_l5 (pre s k,0) ⟨w.Filter,w.Rev⟩ (pre s k) 0 []) _=_
  rw[m1,Option.bind_some,ck_t (by omega),Option.bind_some]
  have e0:=skip_l11 hi h (w:=w) most (t1:=w.Filter.Selector) (k:=k) (by omega) (by omega) w.Rev m [] k 0 (by omega)
  rw[List.drop_zero]at e0
  have e:=next_l11 hi h hn hf most (t1:=w.Filter.Selector) (s.History.drop k) k w.Rev m [] rfl (by omega) (by simp) (by simp;omega) m2
  have e2:=nxt_at h hi w.Filter (if most<1 then 1 else most) (s.History.length-k) k w.Rev [] (by omega) g2
  have e3:=nxt_len hi w.Filter (if most<1 then 1 else most) (s.History.length-k) k w.Rev [] (by omega)
  rw[e0,e]
  unfold nextS
  rw[ek,ea]
  generalize nxt w.Filter (if most<1 then 1 else most) (s.History.drop k) (pre s k) w.Rev []=r at e2 e3⊢
  obtain⟨a,o,b⟩:=r
  unfold fin
  simp only[List.length_nil]at e2 e3
  cases b with
  |true=>rfl
  |false=>
   simp only[Bool.false_eq_true,if_false,Option.bind_some]
   by_cases g4:a<s.Rev
   ·rw[if_pos g4,if_pos g4,apI_t (by simp;omega)];rfl
   ·rw[if_neg g4,if_neg g4]
    rfl
 ·rw[if_pos g,if_neg g]
open Go Go.Fw
set_option maxRecDepth 100000
set_option linter.unusedVariables false
set_option linter.unusedSimpArgs false
theorem nextS_len{n:Nat}{s:TStore}(hi:Inv n s)(hn:n≤400)(f:Filter){rev:Int}(most:Int)(h1:s.Floor≤rev)(h2:rev≤s.Rev):(nextS s f rev most).2.length≤1000:=by
 have hr:=hi.rv;have hfl:=hi.fl;have hl:=hi.hl;have hfr:=hi.fr
 have e3:=nxt_len hi f (if most<1 then 1 else most) (s.History.length-(rev-s.Floor).toNat) (rev-s.Floor).toNat rev [] (by omega)
 unfold nextS
 show(fin s (nxt f (if most<1 then 1 else most) (s.History.drop (rev-s.Floor).toNat) (pre s (rev-s.Floor).toNat) rev [])).2.length≤1000
 generalize nxt f (if most<1 then 1 else most) (s.History.drop (rev-s.Floor).toNat) (pre s (rev-s.Floor).toNat) rev []=r at e3⊢
 simp only[List.length_nil]at e3
 unfold fin
 split
 ·show r.2.1.length≤1000;omega
 split
 ·simp only[List.length_append,List.length_cons,List.length_nil];omega
 ·show r.2.1.length≤1000;omega
theorem filt_ok{f:Filter}{k:Nat}(hw:wFilter f≤k)(hk:k≤1048576):selOk f.Selector:=by
 have ha:=fun r (hr:r∈f.Selector)=>wL_mem (w:=wRequirement) hr
 have hl:=wL_len (w:=wRequirement) (fun a=>by unfold wRequirement;omega) f.Selector
 unfold wFilter at hw
 refine⟨by omega,fun r hr=>?_⟩
 have a1:=ha r hr
 have a2:=wL_len (w:=wS) (fun a=>by unfold wS;omega) r.Values
 unfold wRequirement at a1 hw
 omega
open Go Go.Fw
set_option maxRecDepth 100000
set_option linter.unusedVariables false
set_option linter.unusedSimpArgs false
open Go Go.Fw
set_option maxRecDepth 100000
set_option linter.unusedVariables false
set_option linter.unusedSimpArgs false
def evs(f:Filter):List Change→List Object→List Event
 |[],_=>[]
 |c::cs,l=>(if evT f l c=0 then []else [⟨evT f l c,c.Rev,c.Object⟩])++evs f cs (repS l c)
def lastR(a:Int):List Event→Int
 |[]=>a
 |e::es=>lastR e.Rev es
theorem nxt_big(f:Filter)(most:Int):∀(cs:List Change) (l:List Object) (at_:Int) (out:List Event),((out.length+cs.length:Nat):Int)<most→nxt f most cs l at_ out=(lastR at_ (evs f cs l),out++evs f cs l,false)
 |[],l,at_,out,h=>by rw[nxt,evs,List.append_nil];rfl
 |c::cs,l,at_,out,h=>by
  simp only[List.length_cons]at h
  rw[nxt,evs]
  by_cases g:evT f l c=0
  ·rw[if_pos g,if_pos g,nxt_big f most cs (repS l c) at_ out (by omega)];rfl
  ·rw[if_neg g,if_neg g,if_neg (by omega),nxt_big f most cs (repS l c) _ _ (by simp;omega)]
   simp[lastR]
theorem evs_mem{n:Nat}{s:TStore}(hi:Inv n s)(h:Inv2 s)(f:Filter):∀(cs:List Change) (i:Nat),s.History.drop i=cs→∀e,e∈evs f cs (pre s i)↔∃(j:Nat) (c:Change),i≤j∧s.History[j]? =some c∧evT f (pre s j) c≠0∧e=⟨evT f (pre s j) c,s.Floor+1+j,c.Object⟩
 |[],i,hd,e=>by
  have:s.History.length≤i:=by simpa using hd
  rw[evs]
  constructor
  ·intro hh;cases hh
  ·rintro⟨j,c,h1,h2,_⟩
   have:=(List.getElem?_eq_some_iff.1 h2).1
   omega
 |c::cs,i,hd,e=>by
  have hc:=drop_hd hd
  have hrev:=(h.h i c hc).rev
  rw[evs,List.mem_append,←pre_succ hc,evs_mem hi h f cs (i+1) (drop_tl hd)]
  constructor
  ·rintro(h1|⟨j,d,h1,h2,h3,h4⟩)
   ·by_cases g:evT f (pre s i) c=0
    ·rw[if_pos g]at h1;cases h1
    ·rw[if_neg g,List.mem_singleton]at h1
     exact⟨i,c,Nat.le_refl _,hc,g,by rw[h1,hrev]⟩
   ·exact⟨j,d,by omega,h2,h3,h4⟩
  ·rintro⟨j,d,h1,h2,h3,h4⟩
   by_cases hj:j=i
   ·subst hj
    rw[hc]at h2
    cases h2
    left
    rw[if_neg h3,List.mem_singleton,h4,hrev]
   ·exact .inr ⟨j,d,by omega,h2,h3,h4⟩
def Inc(l:List Event):Prop:=l.Pairwise fun a b=>a.Rev<b.Rev
theorem evs_inc{n:Nat}{s:TStore}(hi:Inv n s)(h:Inv2 s)(f:Filter):∀(cs:List Change) (i:Nat),s.History.drop i=cs→Inc (evs f cs (pre s i))
 |[],i,hd=>List.Pairwise.nil
 |c::cs,i,hd=>by
  have hc:=drop_hd hd
  have hrev:=(h.h i c hc).rev
  have ih:=evs_inc hi h f cs (i+1) (drop_tl hd)
  have hm:=evs_mem hi h f cs (i+1) (drop_tl hd)
  rw[pre_succ hc]at ih hm
  rw[evs]
  refine List.pairwise_append.2 ⟨?_,ih,?_⟩
  ·split
   ·exact List.Pairwise.nil
   ·exact List.pairwise_singleton ..
  ·intro a ha b hb
   split at ha
   ·cases ha
   ·rw[List.mem_singleton]at ha
    rw[←pre_succ hc]at hb
    obtain⟨j,d,h1,h2,h3,h4⟩:=(evs_mem hi h f cs (i+1) (drop_tl hd) b).1 hb
    rw[ha,h4]
    show c.Rev<s.Floor+1+j
    omega
theorem evs_rev{n:Nat}{s:TStore}(hi:Inv n s)(h:Inv2 s){f:Filter}{i:Nat}{e:Event}(he:e∈evs f (s.History.drop i) (pre s i)):s.Floor+i<e.Rev∧e.Rev≤s.Rev∧e.Type_≠4:=by
 have hl:=hi.hl
 obtain⟨j,d,h1,h2,h3,h4⟩:=(evs_mem hi h f _ i rfl e).1 he
 have hj:=(List.getElem?_eq_some_iff.1 h2).1
 have:=evT_le f (pre s j) d
 rw[h4]
 refine⟨by show s.Floor+i<s.Floor+1+j;omega,by show s.Floor+1+j≤s.Rev;omega,by show evT f (pre s j) d≠4;omega⟩
def bmk(s:TStore)(a:Int):List Event:=if a<s.Rev then [⟨4,s.Rev,ZO⟩]else []
theorem lastR_le{b:Int}:∀(l:List Event) (a:Int),a≤b→(∀e∈l,e.Rev≤b)→lastR a l≤b
 |[],a,h,_=>h
 |e::l,a,h,hl=>lastR_le l e.Rev (hl e (List.mem_cons_self ..)) fun x hx=>hl x (List.mem_cons_of_mem _ hx)
theorem next_big{n:Nat}{s:TStore}(hi:Inv n s)(h:Inv2 s)(f:Filter){rev:Int}(h1:s.Floor≤rev)(h2:rev≤s.Rev){most:Int}(hm:(n:Int)<most):nextS s f rev most=(s.Rev,evs f (s.History.drop (rev-s.Floor).toNat) (pre s (rev-s.Floor).toNat)++bmk s (lastR rev (evs f (s.History.drop (rev-s.Floor).toNat) (pre s (rev-s.Floor).toNat)))):=by
 have hr:=hi.rv;have hfl:=hi.fl;have hl:=hi.hl
 have hle:=lastR_le (b:=s.Rev) (evs f (s.History.drop (rev-s.Floor).toNat) (pre s (rev-s.Floor).toNat)) rev h2 fun e he=>(evs_rev hi h he).2.1
 unfold nextS
 rw[if_neg (by omega)]
 show fin s (nxt f most (s.History.drop (rev-s.Floor).toNat) (pre s (rev-s.Floor).toNat) rev [])=_
 rw[nxt_big _ _ _ _ _ _ (by simp;omega)]
 unfold fin bmk
 simp only[Bool.false_eq_true,if_false,List.nil_append]
 split
 ·rfl
 ·rw[List.append_nil,show lastR rev (evs f (s.History.drop (rev-s.Floor).toNat) (pre s (rev-s.Floor).toNat))=s.Rev by omega]
theorem bmk_inc{n:Nat}{s:TStore}(hi:Inv n s)(h:Inv2 s)(f:Filter)(i:Nat)(a:Int):Inc (evs f (s.History.drop i) (pre s i)++bmk s (lastR a (evs f (s.History.drop i) (pre s i)))):=by
 have h1:=evs_inc hi h f _ i rfl
 have h2:∀l:List Event,Inc l→∀x∈l,∀a,x.Rev≤lastR a l:=by
  intro l
  induction l with
  |nil=>intro _ x hx;cases hx
  |cons y l ih=>
   intro hl x hx a
   have hl2:=List.pairwise_cons.1 hl
   rcases List.mem_cons.1 hx with rfl|hx
   ·cases l with
    |nil=>exact Int.le_refl _
    |cons z l=>
     have:=hl2.1 z (List.mem_cons_self ..)
     have:=ih hl2.2 z (List.mem_cons_self ..) x.Rev
     show x.Rev≤lastR x.Rev (z::l)
     omega
   ·exact ih hl2.2 x hx y.Rev
 unfold bmk
 split
 ·refine List.pairwise_append.2 ⟨h1,List.pairwise_singleton ..,fun x hx b hb=>?_⟩
  rw[List.mem_singleton.1 hb]
  have:=h2 _ h1 x hx a
  show x.Rev<s.Rev
  omega
 ·rw[List.append_nil];exact h1
open Go Go.Fw
set_option maxRecDepth 100000
set_option linter.unusedVariables false
set_option linter.unusedSimpArgs false
theorem mat_app1(l:List Label):∀(a b:List Requirement) (i j:Nat),F42_l1 l (a++b) i=some (.inr ())→F42_l1 l a j=some (.inr ())
 |[],b,i,j,_=>by rw[F42_l1]
 |x::a,b,i,j,h=>by
  rw[List.cons_append,F42_l1]at h
  rw[F42_l1]
  cases hv:F78 x l with
  |none=>rw[hv]at h;cases h
  |some v=>
   rw[hv]at h
   cases v with
   |false=>cases h
   |true=>
    simp only[Option.bind_some,show nb true=false from rfl,Bool.false_eq_true,if_false]at h⊢
    exact mat_app1 l a b (i+1) (j+1) h
theorem mat_app{a b:List Requirement}{l:List Label}(hl:a.length≤4000000)(h:matB (a++b) l=true):matB a l=true:=by
 unfold matB at h⊢
 cases hv:F42 (a++b) l with
 |none=>rw[hv]at h;cases h
 |some v=>
  rw[hv]at h
  have hv2:v=true:=h
  subst hv2
  rw[F42]at hv⊢
  rw[ck_t (by omega),Option.bind_some]
  unfold ck at hv
  split at hv
  ·rw[Option.bind_some]at hv
   cases hr:F42_l1 l (a++b) 0 with
   |none=>rw[hr]at hv;cases hv
   |some r=>
    rw[hr]at hv
    cases r with
    |inl q=>
     have:q=true:=by simpa using hv
     subst this
     have bad:∀(c:List Requirement) (i:Nat),F42_l1 l c i≠some (.inl true):=by
      intro c
      induction c with
      |nil=>intro i hh;rw[F42_l1]at hh;cases hh
      |cons x c ih=>
       intro i hh
       rw[F42_l1]at hh
       cases hx:F78 x l with
       |none=>rw[hx]at hh;cases hh
       |some v=>
        rw[hx]at hh
        cases v with
        |false=>cases hh
        |true=>
         simp only[Option.bind_some,show nb true=false from rfl,Bool.false_eq_true,if_false]at hh
         exact ih _ hh
     exact(bad _ _ hr).elim
    |inr q=>rw[mat_app1 l a b 0 0 hr];rfl
  ·cases hv
theorem sel_app{k ns:ByteArray}{a b:List Requirement}{o:Object}(hl:a.length≤4000000)(h:selS ⟨k,ns,a++b⟩ o=true):selS ⟨k,ns,a⟩ o=true:=by
 unfold selS at h⊢
 simp only[Bool.and_eq_true]at h⊢
 exact⟨h.1,h.2.1,mat_app hl h.2.2⟩
theorem evT_app{k ns:ByteArray}{a b:List Requirement}{l:List Object}{c:Change}(hl:a.length≤4000000)(h:evT ⟨k,ns,a++b⟩ l c≠0):evT ⟨k,ns,a⟩ l c≠0:=by
 have hw:wasS ⟨k,ns,a++b⟩ l (keyO c.Object)=true→wasS ⟨k,ns,a⟩ l (keyO c.Object)=true:=by
  unfold wasS
  cases getS l (keyO c.Object)with
  |none=>exact id
  |some y=>exact sel_app hl
 unfold evT at h⊢
 by_cases g:c.Kind=1∧selS ⟨k,ns,a⟩ c.Object=true
 ·rw[if_pos g];split<;>omega
 ·rw[if_neg (fun hh=>g ⟨hh.1,sel_app hl hh.2⟩)]at h
  rw[if_neg g]
  split at h
  ·rename_i h2;rw[if_pos (hw h2)];omega
  ·exact(h rfl).elim
theorem adv_t{A B:Type}{t19 t20:A×B×List Event×Int}{i j:Nat}{e w:Event}(F:Nat→Int→Option Int)(hF:∀k o,F (k+1) o=((if o<(t19.2.2.1.length:Int)then(rdI t19.2.2.1 o).bind fun y32=>(rdI t20.2.2.1 (i:Int)).bind fun y33=>some (decide (y32.Rev<y33.Rev))else some false)).bind fun o30=>(if o30=true then F k (IntKind.i64.wrap (o+1))else some o))(he:t20.2.2.1[i]? =some e)(hw:t19.2.2.1[j]? =some w)(hr:w.Rev=e.Rev)(hinc:Inc t19.2.2.1)(hj:j≤4000000):∀(d o k:Nat),o+d=j→d<k→F k (o:Int)=some (j:Int)
 |0,o,k+1,h1,_=>by
  have ho:o=j:=by omega
  subst ho
  rw[hF,if_pos (by have:=(List.getElem?_eq_some_iff.1 hw).1;omega),rdI_val hw,Option.bind_some,rdI_val he,Option.bind_some,decide_eq_false (by omega)]
  rfl
 |d+1,o,k+1,h1,h2=>by
  obtain⟨hjl,hjw⟩:=List.getElem?_eq_some_iff.1 hw
  have hol:o<t19.2.2.1.length:=by omega
  have hlt:=List.pairwise_iff_getElem.1 hinc o j hol hjl (by omega)
  rw[hjw]at hlt
  rw[hF,if_pos (by omega),rdI_at hol,Option.bind_some,rdI_val he,Option.bind_some,decide_eq_true (by omega),Option.bind_some,if_pos rfl,wrapN (by omega)]
  exact adv_t F hF he hw hr hinc hj d (o+1) k (by omega) (by omega)
theorem parts_l{t19 t20:List Requirement×Int×List Event×Int}(incW:Inc t19.2.2.1)(incT:Inc t20.2.2.1)(hl:t19.2.2.1.length≤4000000)(hm:∀e∈t20.2.2.1,e.Type_≠4→∃w∈t19.2.2.1,w.Rev=e.Rev∧w.Type_≠4):∀(xs:List Event) (i a:Nat),t20.2.2.1.drop i=xs→(∀e∈xs,e.Type_≠4→∀j w,t19.2.2.1[j]? =some w→w.Rev=e.Rev→a≤j)→F7_l24 t19 t20 xs i (a:Int)=some (.inr ())
 |[],i,a,_,_=>by rw[F7_l24]
 |e::xs,i,a,hd,ha=>by
  have he:=drop_hd hd
  have htl:=drop_tl hd
  rw[F7_l24,rdI_val he]
  simp only[Option.bind_some]
  by_cases g:e.Type_=4
  ·rw[if_pos g]
   simp only[Option.bind_some]
   exact parts_l incW incT hl hm xs (i+1) a htl fun x hx=>ha x (List.mem_cons_of_mem _ hx)
  ·rw[if_neg g]
   obtain⟨w,hwm,hwr,hwt⟩:=hm e (List.mem_of_getElem? he) g
   obtain⟨j,hjl,hjw⟩:=List.getElem_of_mem hwm
   have hw:t19.2.2.1[j]? =some w:=by rw[List.getElem?_eq_getElem hjl,hjw]
   have haj:=ha e (List.mem_cons_self ..) g j w hw hwr
   have hadv:=adv_t (F:=F7_l29 i t19 t20) (fun k o=>by rw[F7_l29]) he hw hwr incW (by omega) (j-a) a 1099511627776 (by omega) (by omega)
   rw[hadv]
   simp only[Option.bind_some]
   rw[if_neg (by omega),rdI_val hw]
   simp only[Option.bind_some]
   rw[if_neg (by simpa using hwr),decide_eq_false hwt]
   simp only[Option.bind_some,Bool.false_eq_true,if_false]
   refine parts_l incW incT hl hm xs (i+1) j htl fun x hx hx4 j2 w2 hw2 hr2=>?_
   have hlt:e.Rev<x.Rev:=by
    have hp:Inc (e::xs):=by rw[←hd];exact incT.sublist (List.drop_sublist ..)
    exact(List.pairwise_cons.1 hp).1 x hx
   obtain⟨h2l,h2w⟩:=List.getElem?_eq_some_iff.1 hw2
   rcases Nat.lt_or_ge j2 j with h|h
   ·have:=List.pairwise_iff_getElem.1 incW j2 j h2l hjl h
    rw[h2w,hjw]at this
    omega
   ·exact h
theorem WatchParts_pure:WatchParts.Pure:=by
 intro l f more h1 h2 h3 hw
 obtain⟨hl,hlen⟩:=ops_ow (l:=l) (by omega)
 obtain⟨b,hb,hb2⟩:=light_t hl hlen
 obtain⟨nb1,hnb⟩:=narrow_ex f
 have hsel:selOk f.Selector:=filt_ok (k:=1048576) (by omega) (by omega)
 rw[F7,hb,Option.bind_some,hnb,wawake_t]
 cases b with
 |false=>rfl
 |true=>
 cases nb1 with
 |false=>rfl
 |true=>
 have hll:=hb2 rfl
 simp only[show nb true=false from rfl,Bool.false_eq_true,if_false,Option.bind_some]
 by_cases g:10<(more.length:Int)
 ·rw[decide_eq_true g];rfl
 rw[decide_eq_false g]
 simp only[Bool.false_eq_true,if_false]
 have hs1:f.Selector.length≤1048576:=by
  have:=wL_len (w:=wRequirement) (fun a=>by unfold wRequirement;omega) f.Selector
  unfold wFilter at hw
  omega
 rw[apI_t (by simp;omega),Option.bind_some,List.nil_append,apI_t (by omega),Option.bind_some,L15_t,L15_t]
 obtain⟨nb2,hnb2⟩:=narrow_ex ⟨f.Kind,f.Namespace,f.Selector++more⟩
 rw[hnb2]
 cases hv1:validS (f.Selector++more)with
 |false=>rfl
 |true=>
 cases hv2:validS f.Selector with
 |false=>rfl
 |true=>
 cases nb2 with
 |false=>rfl
 |true=>
 simp only[show nb true=false from rfl,Bool.false_eq_true,if_false,Option.bind_some]
 have hi:=play_inv (l:=l) inv0 hl
 have hi2:=play_inv2 (l:=l) inv0 inv20 (by omega) hl
 rw[play_t (by omega) hl]
 simp only[Option.bind_some]
 generalize playS S0 l=s at hi hi2
 have hr:=hi.rv;have hfl:=hi.fl;have hfr:=hi.fr;have hhl:=hi.hl
 have hsel2:selOk (f.Selector++more):=by
  refine⟨by simp;omega,fun r hr=>?_⟩
  rcases List.mem_append.1 hr with hr|hr
  ·exact hsel.2 r hr
  ·have a1:=wL_mem (w:=wRequirement) hr
   have a2:=wL_len (w:=wS) (fun a=>by unfold wS;omega) r.Values
   unfold wRequirement at a1 hw
   omega
 have f0:fltS s f s.Floor=0:=by
  unfold fltS
  rw[hv2,if_neg (by simp),if_neg (by omega),if_neg (by omega)]
 have f1:fltS s ⟨f.Kind,f.Namespace,f.Selector++more⟩ s.Floor=0:=by
  unfold fltS
  rw[show(⟨f.Kind,f.Namespace,f.Selector++more⟩:Filter).Selector=f.Selector++more from rfl,hv1,if_neg (by simp),if_neg (by omega),if_neg (by omega)]
 show(F14 s ⟨f,s.Floor⟩ 100).bind _=_
 rw[next_t hi hi2 (by omega) (w:=⟨f,s.Floor⟩) hsel,Option.bind_some]
 show(F14 s ⟨⟨f.Kind,f.Namespace,f.Selector++more⟩,s.Floor⟩ 100).bind _=_
 rw[next_t hi hi2 (by omega) (w:=⟨⟨f.Kind,f.Namespace,f.Selector++more⟩,s.Floor⟩) hsel2,Option.bind_some]
 simp only[f0,f1,if_true,not_true_eq_false,if_false,Option.bind_some,decide_false,Bool.false_eq_true]
 have hb1:=next_big hi hi2 f (rev:=s.Floor) (by omega) (by omega) (most:=100) (by omega)
 have hb2:=next_big hi hi2 ⟨f.Kind,f.Namespace,f.Selector++more⟩ (rev:=s.Floor) (by omega) (by omega) (most:=100) (by omega)
 have hl1:=nextS_len hi (by omega) f (rev:=s.Floor) 100 (by omega) (by omega)
 have hl2:=nextS_len hi (by omega) ⟨f.Kind,f.Namespace,f.Selector++more⟩ (rev:=s.Floor) 100 (by omega) (by omega)
 rw[Int.sub_self,show(0:Int).toNat=0 from rfl]at hb1 hb2
 have i1:Inc (nextS s f s.Floor 100).2:=by rw[hb1];exact bmk_inc hi hi2 f 0 _
 have i2:Inc (nextS s ⟨f.Kind,f.Namespace,f.Selector++more⟩ s.Floor 100).2:=by rw[hb2];exact bmk_inc hi hi2 _ 0 _
 rw[ck_t (by omega),Option.bind_some]
 have key:=parts_l (t19:=(f.Selector,(nextS s f s.Floor 100).1,(nextS s f s.Floor 100).2,0)) (t20:=(f.Selector++more,(nextS s ⟨f.Kind,f.Namespace,f.Selector++more⟩ s.Floor 100).1,(nextS s ⟨f.Kind,f.Namespace,f.Selector++more⟩ s.Floor 100).2,0)) i1 i2 (by show(nextS s f s.Floor 100).2.length≤_;omega) ?_ (nextS s ⟨f.Kind,f.Namespace,f.Selector++more⟩ s.Floor 100).2 0 0 (List.drop_zero ..) (fun _ _ _ j _ _ _=>Nat.zero_le j)
 ·rw[show((0:Nat):Int)=0 from rfl]at key
  rw[key]
  rfl
 ·intro e he h4
  rw[hb2]at he
  rcases List.mem_append.1 he with he|he
  ·obtain⟨j,c,j1,j2,j3,j4⟩:=(evs_mem hi hi2 _ _ 0 rfl e).1 he
   have j5:=evT_app (by omega) j3
   have hle:=evT_le f (pre s j) c
   refine⟨⟨evT f (pre s j) c,s.Floor+1+j,c.Object⟩,?_,by rw[j4],?_⟩
   ·show _∈(nextS s f s.Floor 100).2
    rw[hb1]
    exact List.mem_append_left _ ((evs_mem hi hi2 _ _ 0 rfl _).2 ⟨j,c,j1,j2,j5,rfl⟩)
   ·show evT f (pre s j) c≠4
    omega
  ·unfold bmk at he
   split at he
   ·rw[List.mem_singleton]at he
    rw[he]at h4
    exact(h4 rfl).elim
   ·cases he
open Go Go.Fw
set_option maxRecDepth 100000
set_option linter.unusedVariables false
set_option linter.unusedSimpArgs false
open Go Go.Fw
set_option maxRecDepth 100000
set_option linter.unusedVariables false
set_option linter.unusedSimpArgs false
open Go Go.Fw
set_option maxRecDepth 100000
set_option linter.unusedVariables false
set_option linter.unusedSimpArgs false
open Go Go.Fw
set_option maxRecDepth 100000
set_option linter.unusedVariables false
set_option linter.unusedSimpArgs false
open Go Go.Fw
set_option maxRecDepth 100000
set_option linter.unusedVariables false
set_option linter.unusedSimpArgs false
end Go.Proofs.YtondgcmdhkhkkaaGreat
