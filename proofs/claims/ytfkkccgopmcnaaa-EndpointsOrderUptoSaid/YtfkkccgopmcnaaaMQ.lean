/- The plain law. -/
import Derived.Test.YtfkkccgopmcnaaaMP
import Derived.Test.YtfkkccgopmcnaaaFP
import Derived.KernelRfl
set_option linter.unusedVariables false
set_option linter.unusedSimpArgs false
namespace Go.Proofs.Ytfkkccgopmcnaaa
open Go Go.Fw
set_option maxRecDepth 100000
set_option linter.unusedVariables false
set_option linter.unusedSimpArgs false
section
variable {α:Type}
end
theorem scmp_neg(a b:ByteArray):scmp a b<0↔lt a b:=by
 unfold scmp
 by_cases h:lt a b
 ·simp[h]
 ·rw[if_neg h]
  by_cases h2:a=b
  ·rw[if_pos h2];simp[h]
  ·rw[if_neg h2];simp[h]
theorem lt_dec(a b:ByteArray):lt a b∨a=b∨lt b a:=by
 by_cases h:a=b
 ·exact .inr (.inl h)
 ·rcases lt_total h with h|h
  ·exact .inl h
  ·exact .inr (.inr h)
theorem exb{α β:Type}{e:Option α}{f:α→Option β}(h:∃a,e=some a)(hf:∀a,e=some a→∃r,f a=some r):∃r,e.bind f=some r:=by
 obtain⟨a,ha⟩:=h;obtain⟨r,hr⟩:=hf a ha;exact⟨r,by rw[ha];exact hr⟩
theorem exif{α:Type}{p:Prop}[Decidable p]{a b:Option α}(h1:p→∃r,a=some r)(h2:¬p→∃r,b=some r):∃r,(if p then a else b)=some r:=by
 by_cases h:p
 ·rw[if_pos h];exact h1 h
 ·rw[if_neg h];exact h2 h
theorem exmap{α β:Type}{e:Option α}{f:α→β}(h:∃a,e=some a):∃r,e.map f=some r:=by
 obtain⟨a,ha⟩:=h;exact⟨f a,by rw[ha];rfl⟩
theorem exck{p:Prop}[Decidable p](h:p):∃r,ck p=some r:=⟨(),ck_t h⟩
theorem byI_ex{b:ByteArray}{i:Int}(h:0≤i)(h2:i<b.size):∃y,byI b i=some y:=by
 obtain⟨n,rfl⟩:∃n:Nat,i=n:=⟨i.toNat,by omega⟩
 have hs:n<b.size:=by omega
 exact⟨(b[n].toNat:Int),by unfold byI;rw[if_pos (by omega)];simp[hs]⟩
theorem rdI_ex{α:Type}{l:List α}{i:Int}(h:0≤i)(h2:i<l.length):∃y,rdI l i=some y:=by
 obtain⟨n,rfl⟩:∃n:Nat,i=n:=⟨i.toNat,by omega⟩
 exact⟨_,rdI_at (by omega)⟩
theorem apI_ex{α:Type}{xs ys:List α}(h:xs.length+ys.length≤4294967290):∃y,apI xs ys=some y:=⟨_,apI_t h⟩
theorem rdI_val{α:Type}{l:List α}{i:Nat}{y:α}(h:l[i]? =some y):rdI l (i:Int)=some y:=by rw[rdI_nat];exact h
theorem drop_hd{α:Type}{l:List α}{i:Nat}{x:α}{xs:List α}(e:l.drop i=x::xs):l[i]? =some x:=by rw[←List.head?_drop,e];rfl
theorem drop_tl{α:Type}{l:List α}{i:Nat}{x:α}{xs:List α}(e:l.drop i=x::xs):l.drop (i+1)=xs:=by
 rw[←List.drop_drop,e];rfl
theorem cl_t{α:Type}{l:List α}(h:l.length≤4294967290):cloneI l=some l:=if_pos h
theorem catI_t{a b:ByteArray}(h:a.size+b.size≤9223372036854775807):catI a b=some (a++b):=if_pos h
theorem bsize(a b:ByteArray):(a++b).size=a.size+b.size:=ByteArray.size_append
theorem wL_mem{α:Type}{w:α→Nat}{x:α}:∀{l:List α},x∈l→w x+1≤wL w l
 |[],h=>by cases h
 |y::l,h=>by
  unfold wL
  simp only[List.map_cons,List.sum_cons]
  rcases List.mem_cons.1 h with rfl|h
  ·omega
  ·have:=wL_mem (w:=w) h;unfold wL at this;omega
open Go Go.Fw
set_option maxRecDepth 100000
set_option linter.unusedVariables false
set_option linter.unusedSimpArgs false
def keyB(m:Meta):ByteArray:=(((m.Kind++(⟨#[47]⟩:ByteArray))++m.Namespace)++(⟨#[47]⟩:ByteArray))++m.Name
theorem sl1:(⟨#[47]⟩:ByteArray).size=1:=rfl
theorem KeyOf_t{m:Meta}(h:m.Kind.size+m.Namespace.size+m.Name.size≤4000000):F26 m=some (keyB m):=by
 rw[F26,F43,catI_t (by rw[sl1];omega),Option.bind_some,catI_t (by rw[bsize,sl1];omega),Option.bind_some,catI_t (by rw[bsize,bsize,sl1];omega),Option.bind_some,catI_t (by rw[bsize,bsize,bsize,sl1];omega)]
 rfl
theorem rKeyOf_t{m:Meta}(h:m.Kind.size+m.Namespace.size+m.Name.size≤4000000):F19 m=some (keyB m):=KeyOf_t h
theorem lget_l1(k:ByteArray):∀(l:List Label) (i:Nat),∃r,F73_l1 k l i=some r
 |[],i=>⟨_,by rw[F73_l1]⟩
 |x::l,i=>by
  rw[F73_l1]
  have ih:=lget_l1 k l (i+1)
  repeat'(first|exact⟨_,rfl⟩|exact ih|exact exck (by omega)|exact byI_ex (by omega) (by omega)|exact rdI_ex (by omega) (by omega)|exact apI_ex (by omega)|with_reducible refine exif (fun _=>?_) (fun _=>?_)|with_reducible refine exb ?_ (fun _ _=>?_)|with_reducible refine exmap ?_|split)
theorem lget_ex{l:List Label}(k:ByteArray)(hl:l.length≤4000000):∃r,F73 l k=some r:=by
 rw[F73]
 have g:=lget_l1 k l 0
 repeat'(first|exact⟨_,rfl⟩|exact g|exact exck (by omega)|exact byI_ex (by omega) (by omega)|exact rdI_ex (by omega) (by omega)|exact apI_ex (by omega)|with_reducible refine exif (fun _=>?_) (fun _=>?_)|with_reducible refine exb ?_ (fun _ _=>?_)|with_reducible refine exmap ?_|split)
theorem idx_l1(k:ByteArray):∀(l:List ByteArray) (i:Nat),∃r,F91_l1 k l i=some r
 |[],i=>⟨_,by rw[F91_l1]⟩
 |x::l,i=>by
  rw[F91_l1]
  have ih:=idx_l1 k l (i+1)
  repeat'(first|exact⟨_,rfl⟩|exact ih|exact exck (by omega)|exact byI_ex (by omega) (by omega)|exact rdI_ex (by omega) (by omega)|exact apI_ex (by omega)|with_reducible refine exif (fun _=>?_) (fun _=>?_)|with_reducible refine exb ?_ (fun _ _=>?_)|with_reducible refine exmap ?_|split)
theorem cont_ex{l:List ByteArray}(k:ByteArray)(hl:l.length≤4000000):∃r,F74 l k=some r:=by
 rw[F74,F91]
 have g:=idx_l1 k l 0
 repeat'(first|exact⟨_,rfl⟩|exact g|exact exck (by omega)|exact byI_ex (by omega) (by omega)|exact rdI_ex (by omega) (by omega)|exact apI_ex (by omega)|with_reducible refine exif (fun _=>?_) (fun _=>?_)|with_reducible refine exb ?_ (fun _ _=>?_)|with_reducible refine exmap ?_|split)
theorem holds_ex{r:Requirement}{l:List Label}(h1:r.Values.length≤4000000)(hl:l.length≤4000000):∃b,F54 r l=some b:=by
 rw[F54]
 have g:=lget_ex r.Key hl
 have g2:=fun k=>cont_ex (l:=r.Values) k h1
 repeat'(first|exact⟨_,rfl⟩|exact g|exact g2 _|exact exck (by omega)|exact byI_ex (by omega) (by omega)|exact rdI_ex (by omega) (by omega)|exact apI_ex (by omega)|with_reducible refine exif (fun _=>?_) (fun _=>?_)|with_reducible refine exb ?_ (fun _ _=>?_)|with_reducible refine exmap ?_|split)
theorem mat_l1{l:List Label}(hl:l.length≤4000000):∀(sel:List Requirement) (i:Nat),(∀r∈sel,r.Values.length≤4000000)→∃b,F42_l1 l sel i=some b
 |[],i,_=>⟨_,by rw[F42_l1]⟩
 |x::sel,i,h=>by
  rw[F42_l1]
  have ih:=mat_l1 hl sel (i+1) fun r hr=>h r (List.mem_cons_of_mem _ hr)
  have g:=holds_ex (h x (List.mem_cons_self ..)) hl
  repeat'(first|exact⟨_,rfl⟩|exact ih|exact g|exact exck (by omega)|exact byI_ex (by omega) (by omega)|exact rdI_ex (by omega) (by omega)|exact apI_ex (by omega)|with_reducible refine exif (fun _=>?_) (fun _=>?_)|with_reducible refine exb ?_ (fun _ _=>?_)|with_reducible refine exmap ?_|split)
def selOk(sel:List Requirement):Prop:=sel.length≤4000000∧∀r∈sel,r.Values.length≤4000000
def matB(sel:List Requirement)(l:List Label):Bool:=(F42 sel l).getD false
theorem mat_t{sel:List Requirement}{l:List Label}(h:selOk sel)(hl:l.length≤4000000):F42 sel l=some (matB sel l):=by
 have:∃b,F42 sel l=some b:=by
  rw[F42]
  have g:=mat_l1 hl sel 0 h.2
  have:=h.1
  repeat'(first|exact⟨_,rfl⟩|exact g|exact exck (by omega)|exact byI_ex (by omega) (by omega)|exact rdI_ex (by omega) (by omega)|exact apI_ex (by omega)|with_reducible refine exif (fun _=>?_) (fun _=>?_)|with_reducible refine exb ?_ (fun _ _=>?_)|with_reducible refine exmap ?_|split)
 obtain⟨b,hb⟩:=this
 unfold matB;rw[hb];rfl
theorem rlget_l1(k:ByteArray):∀(l:List Label) (i:Nat),F49_l1 k l i=F73_l1 k l i
 |[],i=>by rw[F49_l1,F73_l1]
 |x::l,i=>by rw[F49_l1,F73_l1,rlget_l1 k l]
theorem rlget(l:List Label)(k:ByteArray):F49 l k=F73 l k:=by
 rw[F49,F73]
 simp only[rlget_l1]<;>rfl
theorem among_l1(k:ByteArray):∀(l:List ByteArray) (i:Nat),(k∈l→F50_l1 k l i=some (.inl true)∧∃j:Nat,i≤j∧j<i+l.length∧F91_l1 k l i=some (.inl (j:Int)))∧(k∉l→F50_l1 k l i=some (.inr ())∧F91_l1 k l i=some (.inr ()))
 |[],i=>⟨fun h=>(by cases h),fun _=>⟨by rw[F50_l1],by rw[F91_l1]⟩⟩
 |x::l,i=>by
  rw[F50_l1,F91_l1]
  obtain⟨a,b⟩:=among_l1 k l (i+1)
  by_cases hx:x=k
  ·subst hx
   simp only[if_true]
   exact⟨fun _=>⟨rfl,i,by omega,by simp,rfl⟩,fun h=>(h (List.mem_cons_self ..)).elim⟩
  ·have hk:¬k=x:=fun e=>hx e.symm
   simp only[hx,hk,if_false]
   refine⟨fun h=>?_,fun h=>?_⟩
   ·have h2:k∈l:=(List.mem_cons.1 h).resolve_left hk
    obtain⟨c,j,j1,j2,d⟩:=a h2
    exact⟨c,j,by omega,by simp only[List.length_cons];omega,d⟩
   ·have h2:k∉l:=fun hh=>h (List.mem_cons_of_mem _ hh)
    exact b h2
theorem among_eq(l:List ByteArray)(k:ByteArray):F50 l k=F74 l k:=by
 rw[F50,F74,F91]
 obtain⟨a,b⟩:=among_l1 k l 0
 by_cases hk:k∈l
 ·obtain⟨c,j,j1,j2,d⟩:=a hk
  rw[c,d]
  unfold ck
  split
  ·simp
  ·rfl
 ·obtain⟨c,d⟩:=b hk
  rw[c,d]
  unfold ck
  split
  ·simp
  ·rfl
theorem rholds_eq(r:Requirement)(l:List Label):F38 r l=F54 r l:=by
 rw[F38,F54,rlget]
 congr 1;funext t
 simp only[among_eq]
 by_cases h1:r.Op=1
 ·simp only[if_pos h1]
 by_cases h2:r.Op=2
 ·simp only[if_neg h1,if_pos h2]
 by_cases h3:r.Op=3
 ·have h4:¬r.Op=4:=by omega
  simp only[if_neg h1,if_neg h2,if_pos h3,if_neg h4]
  cases t.2<;>rfl
 simp only[if_neg h1,if_neg h2,if_neg h3]
 split<;>rfl
theorem rmat_l1(l:List Label):∀(sel:List Requirement) (i:Nat),F18_l1 l sel i=F42_l1 l sel i
 |[],i=>by rw[F18_l1,F42_l1]
 |x::sel,i=>by rw[F18_l1,F42_l1,rholds_eq,rmat_l1 l sel]
theorem rmat_eq(sel:List Requirement)(l:List Label):F18 sel l=F42 sel l:=by
 rw[F18,F42]
 simp only[rmat_l1]<;>rfl
theorem sm_l7:∀(l:List Label) (i:Nat),∃r,F21_l7 l i=some r
 |[],i=>⟨_,by rw[F21_l7]⟩
 |x::l,i=>by
  rw[F21_l7]
  have ih:=sm_l7 l (i+1)
  repeat'(first|exact⟨_,rfl⟩|exact ih|exact exck (by omega)|exact byI_ex (by omega) (by omega)|exact rdI_ex (by omega) (by omega)|exact apI_ex (by omega)|with_reducible refine exif (fun _=>?_) (fun _=>?_)|with_reducible refine exb ?_ (fun _ _=>?_)|with_reducible refine exmap ?_|split)
theorem sm_l11:∀(l:List Owner) (i:Nat),∃r,F21_l11 l i=some r
 |[],i=>⟨_,by rw[F21_l11]⟩
 |x::l,i=>by
  rw[F21_l11]
  have ih:=sm_l11 l (i+1)
  repeat'(first|exact⟨_,rfl⟩|exact ih|exact exck (by omega)|exact byI_ex (by omega) (by omega)|exact rdI_ex (by omega) (by omega)|exact apI_ex (by omega)|with_reducible refine exif (fun _=>?_) (fun _=>?_)|with_reducible refine exb ?_ (fun _ _=>?_)|with_reducible refine exmap ?_|split)
theorem sm_l15:∀(l:List ByteArray) (i:Nat),∃r,F21_l15 l i=some r
 |[],i=>⟨_,by rw[F21_l15]⟩
 |x::l,i=>by
  rw[F21_l15]
  have ih:=sm_l15 l (i+1)
  repeat'(first|exact⟨_,rfl⟩|exact ih|exact exck (by omega)|exact byI_ex (by omega) (by omega)|exact rdI_ex (by omega) (by omega)|exact apI_ex (by omega)|with_reducible refine exif (fun _=>?_) (fun _=>?_)|with_reducible refine exb ?_ (fun _ _=>?_)|with_reducible refine exmap ?_|split)
theorem sm_l24:∀(l:List ByteArray) (i:Nat),∃r,F21_l24 l i=some r
 |[],i=>⟨_,by rw[F21_l24]⟩
 |x::l,i=>by
  rw[F21_l24]
  have ih:=sm_l24 l (i+1)
  repeat'(first|exact⟨_,rfl⟩|exact ih|exact exck (by omega)|exact byI_ex (by omega) (by omega)|exact rdI_ex (by omega) (by omega)|exact apI_ex (by omega)|with_reducible refine exif (fun _=>?_) (fun _=>?_)|with_reducible refine exb ?_ (fun _ _=>?_)|with_reducible refine exmap ?_|split)
theorem sm_l19:∀(l:List Manager) (i:Nat),(∀m∈l,m.Fields.length≤4000000)→∃r,F21_l19 l i=some r
 |[],i,_=>⟨_,by rw[F21_l19]⟩
 |x::l,i,h=>by
  rw[F21_l19]
  have ih:=sm_l19 l (i+1) fun m hm=>h m (List.mem_cons_of_mem _ hm)
  have h1:=h x (List.mem_cons_self ..)
  have g:=sm_l24 x.Fields 0
  repeat'(first|exact⟨_,rfl⟩|exact ih|exact g|exact exck (by omega)|exact byI_ex (by omega) (by omega)|exact rdI_ex (by omega) (by omega)|exact apI_ex (by omega)|with_reducible refine exif (fun _=>?_) (fun _=>?_)|with_reducible refine exb ?_ (fun _ _=>?_)|with_reducible refine exmap ?_|split)
structure MW(m:Meta):Prop where
 key:m.Kind.size+m.Namespace.size+m.Name.size≤4000000
 labels:m.Labels.length≤4000000
 owners:m.Owners.length≤4000000
 fins:m.Finalizers.length≤4000000
 mans:m.Managers.length≤4000000
 man:∀x∈m.Managers,x.Fields.length≤4000000
theorem mW{m:Meta}(h:wMeta m≤4000000):MW m:=by
 unfold wMeta at h
 have a1:=wL_len (w:=wLabel) (fun a=>by unfold wLabel;omega) m.Labels
 have a2:=wL_len (w:=wOwner) (fun a=>by unfold wOwner;omega) m.Owners
 have a3:=wL_len (w:=wS) (fun a=>by unfold wS;omega) m.Finalizers
 have a4:=wL_len (w:=wManager) (fun a=>by unfold wManager;omega) m.Managers
 refine⟨?_,by omega,by omega,by omega,by omega,fun x hx=>?_⟩
 ·unfold wS at h;omega
 ·have b1:=wL_mem (w:=wManager) hx
  unfold wManager at b1
  have b2:=wL_len (w:=wS) (fun a=>by unfold wS;omega) x.Fields
  unfold wManager at h
  omega
theorem smeta_ex{m:Meta}(h:MW m):∃r,F21 m=some r:=by
 rw[F21]
 have h1:=h.labels;have h2:=h.owners;have h3:=h.fins;have h4:=h.mans
 have g1:=sm_l7 m.Labels 0
 have g2:=sm_l11 m.Owners 0
 have g3:=sm_l15 m.Finalizers 0
 have g4:=sm_l19 m.Managers 0 h.man
 repeat'(first|exact⟨_,rfl⟩|exact g1|exact g2|exact g3|exact g4|exact exck (by omega)|exact byI_ex (by omega) (by omega)|exact rdI_ex (by omega) (by omega)|exact apI_ex (by omega)|with_reducible refine exif (fun _=>?_) (fun _=>?_)|with_reducible refine exb ?_ (fun _ _=>?_)|with_reducible refine exmap ?_|split)
theorem rs_l2:∀(l:List Requirement) (i:Nat),∃r,F20_l2 l i=some r
 |[],i=>⟨_,by rw[F20_l2]⟩
 |x::l,i=>by
  rw[F20_l2]
  have ih:=rs_l2 l (i+1)
  repeat'(first|exact⟨_,rfl⟩|exact ih|exact exck (by omega)|exact byI_ex (by omega) (by omega)|exact rdI_ex (by omega) (by omega)|exact apI_ex (by omega)|with_reducible refine exif (fun _=>?_) (fun _=>?_)|with_reducible refine exb ?_ (fun _ _=>?_)|with_reducible refine exmap ?_|split)
theorem small_ex{s:Service}(h:MW s.Meta)(hs:s.Selector.length≤4000000):∃r,F7 s=some r:=by
 rw[F7,F20]
 have g1:=rs_l2 s.Selector 0
 have g2:=smeta_ex h
 repeat'(first|exact⟨_,rfl⟩|exact g1|exact g2|exact exck (by omega)|exact byI_ex (by omega) (by omega)|exact rdI_ex (by omega) (by omega)|exact apI_ex (by omega)|with_reducible refine exif (fun _=>?_) (fun _=>?_)|with_reducible refine exb ?_ (fun _ _=>?_)|with_reducible refine exmap ?_|split)
def Okv:Nat→TValue→Prop
 |0,_=>False
 |d+1,v=>v.List_.length≤4000000∧v.Fields.length≤4000000∧(∀y∈v.List_,Okv d y)∧∀f∈v.Fields,Okv d f.V
theorem left_l1(rc:TValue→Int→Option Int)(v:TValue)(hl:v.List_.length≤4000000)(h:∀y∈v.List_,∀n,∃r,rc y n=some r):∀(m k i:Nat) (a:Int),v.List_.length≤i+m→i≤4000000→m<k→∃r,F53_l1 rc v k a (i:Int)=some r
 |0,k+1,i,a,h1,_,_=>by rw[F53_l1,if_neg (by omega)];exact⟨_,rfl⟩
 |m+1,k+1,i,a,h1,h2,h3=>by
  rw[F53_l1]
  by_cases hi:(i:Int)<(v.List_.length:Int)
  ·rw[if_pos hi,wrapN (by omega),rdI_at (by omega),Option.bind_some]
   obtain⟨w,hw⟩:=h v.List_[i] (List.getElem_mem _) a
   have ih:=fun n=>left_l1 rc v hl h m k (i+1) n (by omega) (by omega) (by omega)
   rw[Option.bind_some,hw,Option.bind_some]
   split
   ·exact ih _
   ·exact⟨_,rfl⟩
  ·rw[if_neg hi];exact⟨_,rfl⟩
theorem left_l7(rc:TValue→Int→Option Int)(v:TValue)(hl:v.Fields.length≤4000000)(h:∀y∈v.Fields,∀n,∃r,rc y.V n=some r):∀(m k i:Nat) (a:Int),v.Fields.length≤i+m→i≤4000000→m<k→∃r,F53_l7 rc v k a (i:Int)=some r
 |0,k+1,i,a,h1,_,_=>by rw[F53_l7,if_neg (by omega)];exact⟨_,rfl⟩
 |m+1,k+1,i,a,h1,h2,h3=>by
  rw[F53_l7]
  by_cases hi:(i:Int)<(v.Fields.length:Int)
  ·rw[if_pos hi,wrapN (by omega),rdI_at (by omega),Option.bind_some]
   obtain⟨w,hw⟩:=h v.Fields[i] (List.getElem_mem _) (IntKind.i64.wrap (a-(v.Fields[i].Name.size:Int)))
   have ih:=fun n=>left_l7 rc v hl h m k (i+1) n (by omega) (by omega) (by omega)
   rw[Option.bind_some,hw,Option.bind_some]
   split
   ·exact ih _
   ·exact⟨_,rfl⟩
  ·rw[if_neg hi];exact⟨_,rfl⟩
theorem left_ex:∀(d k:Nat) (v:TValue) (n:Int),Okv d v→d≤k→∃r,F53k k v n=some r
 |d+1,k+1,v,n,⟨h1,h2,h3,h4⟩,hk=>by
  rw[F53k,F53]
  refine exb (left_l1 _ v h1 (fun y hy n=>left_ex d k y n (h3 y hy) (by omega)) v.List_.length 1099511627776 0 _ (by omega) (by omega) (by omega)) fun a _=>?_
  refine exb (left_l7 _ v h2 (fun y hy n=>left_ex d k y.V n (h4 y hy) (by omega)) v.Fields.length 1099511627776 0 _ (by omega) (by omega) (by omega)) fun a _=>⟨_,rfl⟩
theorem few_ex{v:TValue}{d:Nat}(n:Int)(h:Okv d v)(hd:d≤100):∃r,F41 v n=some r:=by
 rw[F41]
 have:=left_ex d 1099511627776 v n h (by omega)
 repeat'(first|exact⟨_,rfl⟩|exact this|exact exck (by omega)|exact byI_ex (by omega) (by omega)|exact rdI_ex (by omega) (by omega)|exact apI_ex (by omega)|with_reducible refine exif (fun _=>?_) (fun _=>?_)|with_reducible refine exb ?_ (fun _ _=>?_)|with_reducible refine exmap ?_|split)
open Go Go.Fw
set_option maxRecDepth 100000
set_option linter.unusedVariables false
set_option linter.unusedSimpArgs false
theorem Okv.up:∀{d:Nat} {v:TValue},Okv d v→Okv (d+1) v
 |d+1,v,⟨h1,h2,h3,h4⟩=>⟨h1,h2,fun y hy=>Okv.up (h3 y hy),fun f hf=>Okv.up (h4 f hf)⟩
theorem okv0(d:Nat)(k n:Int)(s:ByteArray):Okv (d+1) ⟨k,n,s,[],[]⟩:=⟨by simp,by simp,fun y hy=>(by cases hy),fun f hf=>(by cases hf)⟩
theorem okvL{d:Nat}{l:List TValue}(k n:Int)(s:ByteArray)(h:l.length≤4000000)(h2:∀y∈l,Okv d y):Okv (d+1) ⟨k,n,s,l,[]⟩:=⟨h,by simp,h2,fun f hf=>by cases hf⟩
theorem okvF{d:Nat}{l:List TField}(k n:Int)(s:ByteArray)(h:l.length≤4000000)(h2:∀y∈l,Okv d y.V):Okv (d+1) ⟨k,n,s,[],l⟩:=⟨by simp,h,fun f hf=>(by cases hf),h2⟩
theorem lstep{f:List TValue→Option (List TValue)}{a:List TValue}{z:TValue}{n d:Nat}(ih:∀a:List TValue,a.length+n≤4000000→(∀y∈a,Okv d y)→∃r,f a=some r∧r.length≤a.length+n∧∀y∈r,Okv d y)(hl:a.length+(n+1)≤4000000)(ha:∀y∈a,Okv d y)(hz:Okv d z):∃r,f (a++[z])=some r∧r.length≤a.length+(n+1)∧∀y∈r,Okv d y:=by
 obtain⟨r,r1,r2,r3⟩:=ih (a++[z]) (by simp only[List.length_append,List.length_cons,List.length_nil];omega) fun y hy=>by
  rcases List.mem_append.1 hy with hy|hy
  ·exact ha y hy
  ·rw[List.mem_singleton.1 hy];exact hz
 exact⟨r,r1,by simp only[List.length_append,List.length_cons,List.length_nil]at r2;omega,r3⟩
theorem truth_ex(b:Bool):∃r,F72 b=some r:=by
 rw[F72];split<;>exact⟨_,rfl⟩
theorem res_t(x:Resources):F87 x=some ():=rfl
theorem FromStrings_l1:∀(l:List ByteArray) (i:Nat) (a:List TValue),a.length+l.length≤4000000→(∀y∈a,Okv 1 y)→∃r,F90_l1 l i a=some r∧r.length≤a.length+l.length∧∀y∈r,Okv 1 y
 |[],i,a,hl,ha=>⟨a,by rw[F90_l1],by simp,ha⟩
 |x::l,i,a,hl,ha=>by
  simp only[List.length_cons]at hl⊢
  rw[F90_l1]
  simp only[F61,F62,F64,F65,F89,res_t,Option.bind_some]
  rw[apI_t (by simp only[List.length_cons,List.length_nil];omega),Option.bind_some]
  refine lstep (f:=F90_l1 l (i+1)) (fun a h1 h2=>FromStrings_l1 l (i+1) a h1 h2) hl ha ?_
  exact okv0 _ _ _ _
theorem FromStrings_ex(l:List ByteArray)(h:l.length≤4000000):∃r,F90 l=some r∧r.length≤4000000∧∀y∈r,Okv 1 y:=by
 obtain⟨r,r1,r2,r3⟩:=FromStrings_l1 l 0 [] (by simp;omega) (fun y hy=>by cases hy)
 rw[F90,ck_t (by omega),Option.bind_some,r1]
 exact⟨r,rfl,by simp at r2;omega,r3⟩
def rqOk(r:Requirement):Prop:=r.Values.length≤4000000
theorem FromSelector_l1:∀(l:List Requirement) (i:Nat) (a:List TValue),a.length+l.length≤4000000→(∀x∈l,rqOk x)→(∀y∈a,Okv 3 y)→∃r,F66_l1 l i a=some r∧r.length≤a.length+l.length∧∀y∈r,Okv 3 y
 |[],i,a,hl,_,ha=>⟨a,by rw[F66_l1],by simp,ha⟩
 |x::l,i,a,hl,hx,ha=>by
  simp only[List.length_cons]at hl⊢
  have hc:=hx x (List.mem_cons_self ..)
  obtain⟨t0,ht0,hn0,hv0⟩:=FromStrings_ex x.Values hc
  rw[F66_l1]
  simp only[F61,F62,F64,F65,F89,res_t,Option.bind_some,ht0]
  rw[apI_t (by simp only[List.length_cons,List.length_nil];omega),Option.bind_some]
  refine lstep (f:=F66_l1 l (i+1)) (fun a h1 h2=>FromSelector_l1 l (i+1) a h1 (fun y hy=>hx y (List.mem_cons_of_mem _ hy)) h2) hl ha ?_
  refine okvF _ _ _ (by simp[lit]) fun f hf=>?_
  simp only[lit,List.mem_cons,List.not_mem_nil,or_false]at hf
  rcases hf with rfl|rfl|rfl
  ·exact okv0 _ _ _ _
  ·exact okv0 _ _ _ _
  ·exact okvL _ _ _ hn0 hv0
theorem FromSelector_ex(l:List Requirement)(h:l.length≤4000000)(hx:∀x∈l,rqOk x):∃r,F66 l=some r∧r.length≤4000000∧∀y∈r,Okv 3 y:=by
 obtain⟨r,r1,r2,r3⟩:=FromSelector_l1 l 0 [] (by simp;omega) hx (fun y hy=>by cases hy)
 rw[F66,ck_t (by omega),Option.bind_some,r1]
 exact⟨r,rfl,by simp at r2;omega,r3⟩
def slOk(l:List Requirement):Prop:=l.length≤4000000∧∀r∈l,rqOk r
def ntOk(x:NodeTerm):Prop:=slOk x.Selector
theorem fromNodeTerms_l1:∀(l:List NodeTerm) (i:Nat) (a:List TValue),a.length+l.length≤4000000→(∀x∈l,ntOk x)→(∀y∈a,Okv 5 y)→∃r,F67_l1 l i a=some r∧r.length≤a.length+l.length∧∀y∈r,Okv 5 y
 |[],i,a,hl,_,ha=>⟨a,by rw[F67_l1],by simp,ha⟩
 |x::l,i,a,hl,hx,ha=>by
  simp only[List.length_cons]at hl⊢
  have hc:=hx x (List.mem_cons_self ..)
  obtain⟨b0,hb0⟩:=truth_ex x.Required
  obtain⟨t0,ht0,hn0,hv0⟩:=FromSelector_ex x.Selector hc.1 hc.2
  rw[F67_l1]
  simp only[F61,F62,F64,F65,F89,res_t,Option.bind_some,hb0,ht0]
  rw[apI_t (by simp only[List.length_cons,List.length_nil];omega),Option.bind_some]
  refine lstep (f:=F67_l1 l (i+1)) (fun a h1 h2=>fromNodeTerms_l1 l (i+1) a h1 (fun y hy=>hx y (List.mem_cons_of_mem _ hy)) h2) hl ha ?_
  refine okvF _ _ _ (by simp[lit]) fun f hf=>?_
  simp only[lit,List.mem_cons,List.not_mem_nil,or_false]at hf
  rcases hf with rfl|rfl|rfl
  ·exact okv0 _ _ _ _
  ·exact okvL _ _ _ hn0 hv0
  ·exact okv0 _ _ _ _
theorem fromNodeTerms_ex(l:List NodeTerm)(h:l.length≤4000000)(hx:∀x∈l,ntOk x):∃r,F67 l=some r∧r.length≤4000000∧∀y∈r,Okv 5 y:=by
 obtain⟨r,r1,r2,r3⟩:=fromNodeTerms_l1 l 0 [] (by simp;omega) hx (fun y hy=>by cases hy)
 rw[F67,ck_t (by omega),Option.bind_some,r1]
 exact⟨r,rfl,by simp at r2;omega,r3⟩
def ptOk(x:PodTerm):Prop:=slOk x.Selector
theorem fromPodTerms_l1:∀(l:List PodTerm) (i:Nat) (a:List TValue),a.length+l.length≤4000000→(∀x∈l,ptOk x)→(∀y∈a,Okv 5 y)→∃r,F68_l1 l i a=some r∧r.length≤a.length+l.length∧∀y∈r,Okv 5 y
 |[],i,a,hl,_,ha=>⟨a,by rw[F68_l1],by simp,ha⟩
 |x::l,i,a,hl,hx,ha=>by
  simp only[List.length_cons]at hl⊢
  have hc:=hx x (List.mem_cons_self ..)
  obtain⟨b0,hb0⟩:=truth_ex x.Anti
  obtain⟨b1,hb1⟩:=truth_ex x.Required
  obtain⟨t0,ht0,hn0,hv0⟩:=FromSelector_ex x.Selector hc.1 hc.2
  rw[F68_l1]
  simp only[F61,F62,F64,F65,F89,res_t,Option.bind_some,hb0,hb1,ht0]
  rw[apI_t (by simp only[List.length_cons,List.length_nil];omega),Option.bind_some]
  refine lstep (f:=F68_l1 l (i+1)) (fun a h1 h2=>fromPodTerms_l1 l (i+1) a h1 (fun y hy=>hx y (List.mem_cons_of_mem _ hy)) h2) hl ha ?_
  refine okvF _ _ _ (by simp[lit]) fun f hf=>?_
  simp only[lit,List.mem_cons,List.not_mem_nil,or_false]at hf
  rcases hf with rfl|rfl|rfl|rfl|rfl
  ·exact okv0 _ _ _ _
  ·exact okv0 _ _ _ _
  ·exact okvL _ _ _ hn0 hv0
  ·exact okv0 _ _ _ _
  ·exact okv0 _ _ _ _
theorem fromPodTerms_ex(l:List PodTerm)(h:l.length≤4000000)(hx:∀x∈l,ptOk x):∃r,F68 l=some r∧r.length≤4000000∧∀y∈r,Okv 5 y:=by
 obtain⟨r,r1,r2,r3⟩:=fromPodTerms_l1 l 0 [] (by simp;omega) hx (fun y hy=>by cases hy)
 rw[F68,ck_t (by omega),Option.bind_some,r1]
 exact⟨r,rfl,by simp at r2;omega,r3⟩
def srOk(x:SpreadRule):Prop:=slOk x.Selector
theorem fromSpread_l1:∀(l:List SpreadRule) (i:Nat) (a:List TValue),a.length+l.length≤4000000→(∀x∈l,srOk x)→(∀y∈a,Okv 5 y)→∃r,F69_l1 l i a=some r∧r.length≤a.length+l.length∧∀y∈r,Okv 5 y
 |[],i,a,hl,_,ha=>⟨a,by rw[F69_l1],by simp,ha⟩
 |x::l,i,a,hl,hx,ha=>by
  simp only[List.length_cons]at hl⊢
  have hc:=hx x (List.mem_cons_self ..)
  obtain⟨b0,hb0⟩:=truth_ex x.Required
  obtain⟨t0,ht0,hn0,hv0⟩:=FromSelector_ex x.Selector hc.1 hc.2
  rw[F69_l1]
  simp only[F61,F62,F64,F65,F89,res_t,Option.bind_some,hb0,ht0]
  rw[apI_t (by simp only[List.length_cons,List.length_nil];omega),Option.bind_some]
  refine lstep (f:=F69_l1 l (i+1)) (fun a h1 h2=>fromSpread_l1 l (i+1) a h1 (fun y hy=>hx y (List.mem_cons_of_mem _ hy)) h2) hl ha ?_
  refine okvF _ _ _ (by simp[lit]) fun f hf=>?_
  simp only[lit,List.mem_cons,List.not_mem_nil,or_false]at hf
  rcases hf with rfl|rfl|rfl|rfl
  ·exact okv0 _ _ _ _
  ·exact okv0 _ _ _ _
  ·exact okvL _ _ _ hn0 hv0
  ·exact okv0 _ _ _ _
theorem fromSpread_ex(l:List SpreadRule)(h:l.length≤4000000)(hx:∀x∈l,srOk x):∃r,F69 l=some r∧r.length≤4000000∧∀y∈r,Okv 5 y:=by
 obtain⟨r,r1,r2,r3⟩:=fromSpread_l1 l 0 [] (by simp;omega) hx (fun y hy=>by cases hy)
 rw[F69,ck_t (by omega),Option.bind_some,r1]
 exact⟨r,rfl,by simp at r2;omega,r3⟩
theorem fromTolerations_l1:∀(l:List Toleration) (i:Nat) (a:List TValue),a.length+l.length≤4000000→(∀y∈a,Okv 2 y)→∃r,F70_l1 l i a=some r∧r.length≤a.length+l.length∧∀y∈r,Okv 2 y
 |[],i,a,hl,ha=>⟨a,by rw[F70_l1],by simp,ha⟩
 |x::l,i,a,hl,ha=>by
  simp only[List.length_cons]at hl⊢
  obtain⟨b0,hb0⟩:=truth_ex x.Exists
  rw[F70_l1]
  simp only[F61,F62,F64,F65,F89,res_t,Option.bind_some,hb0]
  rw[apI_t (by simp only[List.length_cons,List.length_nil];omega),Option.bind_some]
  refine lstep (f:=F70_l1 l (i+1)) (fun a h1 h2=>fromTolerations_l1 l (i+1) a h1 h2) hl ha ?_
  refine okvF _ _ _ (by simp[lit]) fun f hf=>?_
  simp only[lit,List.mem_cons,List.not_mem_nil,or_false]at hf
  rcases hf with rfl|rfl|rfl|rfl|rfl
  ·exact okv0 _ _ _ _
  ·exact okv0 _ _ _ _
  ·exact okv0 _ _ _ _
  ·exact okv0 _ _ _ _
  ·exact okv0 _ _ _ _
theorem fromTolerations_ex(l:List Toleration)(h:l.length≤4000000):∃r,F70 l=some r∧r.length≤4000000∧∀y∈r,Okv 2 y:=by
 obtain⟨r,r1,r2,r3⟩:=fromTolerations_l1 l 0 [] (by simp;omega) (fun y hy=>by cases hy)
 rw[F70,ck_t (by omega),Option.bind_some,r1]
 exact⟨r,rfl,by simp at r2;omega,r3⟩
theorem fromStatuses_l1:∀(l:List ContainerStatus) (i:Nat) (a:List TValue),a.length+l.length≤4000000→(∀y∈a,Okv 2 y)→∃r,F71_l1 l i a=some r∧r.length≤a.length+l.length∧∀y∈r,Okv 2 y
 |[],i,a,hl,ha=>⟨a,by rw[F71_l1],by simp,ha⟩
 |x::l,i,a,hl,ha=>by
  simp only[List.length_cons]at hl⊢
  obtain⟨b0,hb0⟩:=truth_ex x.Ready
  obtain⟨b1,hb1⟩:=truth_ex x.Started
  rw[F71_l1]
  simp only[F61,F62,F64,F65,F89,res_t,Option.bind_some,hb0,hb1]
  rw[apI_t (by simp only[List.length_cons,List.length_nil];omega),Option.bind_some]
  refine lstep (f:=F71_l1 l (i+1)) (fun a h1 h2=>fromStatuses_l1 l (i+1) a h1 h2) hl ha ?_
  refine okvF _ _ _ (by simp[lit]) fun f hf=>?_
  simp only[lit,List.mem_cons,List.not_mem_nil,or_false]at hf
  rcases hf with rfl|rfl|rfl|rfl|rfl|rfl|rfl
  ·exact okv0 _ _ _ _
  ·exact okv0 _ _ _ _
  ·exact okv0 _ _ _ _
  ·exact okv0 _ _ _ _
  ·exact okv0 _ _ _ _
  ·exact okv0 _ _ _ _
  ·exact okv0 _ _ _ _
theorem fromStatuses_ex(l:List ContainerStatus)(h:l.length≤4000000):∃r,F71 l=some r∧r.length≤4000000∧∀y∈r,Okv 2 y:=by
 obtain⟨r,r1,r2,r3⟩:=fromStatuses_l1 l 0 [] (by simp;omega) (fun y hy=>by cases hy)
 rw[F71,ck_t (by omega),Option.bind_some,r1]
 exact⟨r,rfl,by simp at r2;omega,r3⟩
theorem fromProbes_l1:∀(l:List Probe) (i:Nat) (a:List TValue),a.length+l.length≤4000000→(∀y∈a,Okv 2 y)→∃r,F88_l1 l i a=some r∧r.length≤a.length+l.length∧∀y∈r,Okv 2 y
 |[],i,a,hl,ha=>⟨a,by rw[F88_l1],by simp,ha⟩
 |x::l,i,a,hl,ha=>by
  simp only[List.length_cons]at hl⊢
  rw[F88_l1]
  simp only[F61,F62,F64,F65,F89,res_t,Option.bind_some]
  rw[apI_t (by simp only[List.length_cons,List.length_nil];omega),Option.bind_some]
  refine lstep (f:=F88_l1 l (i+1)) (fun a h1 h2=>fromProbes_l1 l (i+1) a h1 h2) hl ha ?_
  refine okvF _ _ _ (by simp[lit]) fun f hf=>?_
  simp only[lit,List.mem_cons,List.not_mem_nil,or_false]at hf
  rcases hf with rfl|rfl|rfl|rfl
  ·exact okv0 _ _ _ _
  ·exact okv0 _ _ _ _
  ·exact okv0 _ _ _ _
  ·exact okv0 _ _ _ _
theorem fromProbes_ex(l:List Probe)(h:l.length≤4000000):∃r,F88 l=some r∧r.length≤4000000∧∀y∈r,Okv 2 y:=by
 obtain⟨r,r1,r2,r3⟩:=fromProbes_l1 l 0 [] (by simp;omega) (fun y hy=>by cases hy)
 rw[F88,ck_t (by omega),Option.bind_some,r1]
 exact⟨r,rfl,by simp at r2;omega,r3⟩
theorem okRes(d:Nat)(x:Resources):Okv (d+2) (⟨5,0,(⟨#[]⟩:ByteArray),[],lit [(⟨(⟨#[99,112,117]⟩:ByteArray),⟨2,x.CPU,(⟨#[]⟩:ByteArray),[],[]⟩⟩:TField),(⟨(⟨#[100,105,115,107]⟩:ByteArray),⟨2,x.Disk,(⟨#[]⟩:ByteArray),[],[]⟩⟩:TField),(⟨(⟨#[109,101,109,111,114,121]⟩:ByteArray),⟨2,x.Memory,(⟨#[]⟩:ByteArray),[],[]⟩⟩:TField)]⟩:TValue):=by
 refine okvF _ _ _ (by simp[lit]) fun f hf=>?_
 simp only[lit,List.mem_cons,List.not_mem_nil,or_false]at hf
 rcases hf with rfl|rfl|rfl<;>exact okv0 _ _ _ _
theorem okv_le{d e:Nat}{v:TValue}(h:Okv d v)(hd:d≤e):Okv e v:=by
 obtain⟨k,rfl⟩:∃k,e=d+k:=⟨e-d,by omega⟩
 clear hd
 induction k with
 |zero=>exact h
 |succ k ih=>exact Okv.up ih
def coOk(x:Container):Prop:=x.Live.length≤4000000∧x.Ready.length≤4000000∧x.Startup.length≤4000000
theorem fromContainers_l1:∀(l:List Container) (i:Nat) (a:List TValue),a.length+l.length≤4000000→(∀x∈l,coOk x)→(∀y∈a,Okv 4 y)→∃r,F63_l1 l i a=some r∧r.length≤a.length+l.length∧∀y∈r,Okv 4 y
 |[],i,a,hl,_,ha=>⟨a,by rw[F63_l1],by simp,ha⟩
 |x::l,i,a,hl,hx,ha=>by
  simp only[List.length_cons]at hl⊢
  have hc:=hx x (List.mem_cons_self ..)
  obtain⟨t0,ht0,hn0,hv0⟩:=fromProbes_ex x.Live hc.1
  obtain⟨t1,ht1,hn1,hv1⟩:=fromProbes_ex x.Ready hc.2.1
  obtain⟨t2,ht2,hn2,hv2⟩:=fromProbes_ex x.Startup hc.2.2
  rw[F63_l1]
  simp only[F61,F62,F64,F65,F89,res_t,Option.bind_some,ht0,ht1,ht2]
  rw[apI_t (by simp only[List.length_cons,List.length_nil];omega),Option.bind_some]
  refine lstep (f:=F63_l1 l (i+1)) (fun a h1 h2=>fromContainers_l1 l (i+1) a h1 (fun y hy=>hx y (List.mem_cons_of_mem _ hy)) h2) hl ha ?_
  refine okvF _ _ _ (by simp[lit]) fun f hf=>?_
  simp only[lit,List.mem_cons,List.not_mem_nil,or_false]at hf
  rcases hf with rfl|rfl|rfl|rfl|rfl|rfl|rfl
  ·exact okv0 _ _ _ _
  ·exact okRes _ _
  ·exact okvL _ _ _ hn0 hv0
  ·exact okv0 _ _ _ _
  ·exact okvL _ _ _ hn1 hv1
  ·exact okRes _ _
  ·exact okvL _ _ _ hn2 hv2
theorem fromContainers_ex(l:List Container)(h:l.length≤4000000)(hx:∀x∈l,coOk x):∃r,F63 l=some r∧r.length≤4000000∧∀y∈r,Okv 4 y:=by
 obtain⟨r,r1,r2,r3⟩:=fromContainers_l1 l 0 [] (by simp;omega) hx (fun y hy=>by cases hy)
 rw[F63,ck_t (by omega),Option.bind_some,r1]
 exact⟨r,rfl,by simp at r2;omega,r3⟩
structure PW(p:Pod):Prop where
 m:MW p.Meta
 co:p.Spec.Containers.length≤4000000∧∀x∈p.Spec.Containers,coOk x
 ns:slOk p.Spec.NodeSelector
 nt:p.Spec.NodeTerms.length≤4000000∧∀x∈p.Spec.NodeTerms,ntOk x
 pt:p.Spec.PodTerms.length≤4000000∧∀x∈p.Spec.PodTerms,ptOk x
 sr:p.Spec.Spread.length≤4000000∧∀x∈p.Spec.Spread,srOk x
 to:p.Spec.Tolerations.length≤4000000
 st:p.Status.Containers.length≤4000000
theorem slW{l:List Requirement}(h:wL wRequirement l≤4000000):slOk l:=by
 have a1:=wL_len (w:=wRequirement) (fun a=>by unfold wRequirement;omega) l
 refine⟨by omega,fun r hr=>?_⟩
 have b1:=wL_mem (w:=wRequirement) hr
 have b2:=wL_len (w:=wS) (fun a=>by unfold wS;omega) r.Values
 unfold wRequirement at b1 h
 unfold rqOk
 omega
theorem pW{p:Pod}(h:wPod p≤4000000):PW p:=by
 unfold wPod wPodSpec wPodStatus at h
 have a1:=wL_len (w:=wContainer) (fun a=>by unfold wContainer;omega) p.Spec.Containers
 have a2:=wL_len (w:=wNodeTerm) (fun a=>by unfold wNodeTerm;omega) p.Spec.NodeTerms
 have a3:=wL_len (w:=wPodTerm) (fun a=>by unfold wPodTerm;omega) p.Spec.PodTerms
 have a4:=wL_len (w:=wSpreadRule) (fun a=>by unfold wSpreadRule;omega) p.Spec.Spread
 have a5:=wL_len (w:=wToleration) (fun a=>by unfold wToleration;omega) p.Spec.Tolerations
 have a6:=wL_len (w:=wContainerStatus) (fun a=>by unfold wContainerStatus;omega) p.Status.Containers
 refine⟨mW (by omega),⟨by omega,fun x hx=>?_⟩,slW (by omega),⟨by omega,fun x hx=>?_⟩,⟨by omega,fun x hx=>?_⟩,⟨by omega,fun x hx=>?_⟩,by omega,by omega⟩
 ·have b:=wL_mem (w:=wContainer) hx
  have c1:=wL_len (w:=wProbe) (fun a=>by unfold wProbe;omega) x.Live
  have c2:=wL_len (w:=wProbe) (fun a=>by unfold wProbe;omega) x.Ready
  have c3:=wL_len (w:=wProbe) (fun a=>by unfold wProbe;omega) x.Startup
  unfold wContainer at b
  unfold wContainer at h
  exact⟨by omega,by omega,by omega⟩
 ·have b:=wL_mem (w:=wNodeTerm) hx
  unfold wNodeTerm at b
  unfold wNodeTerm at h
  exact slW (by omega)
 ·have b:=wL_mem (w:=wPodTerm) hx
  unfold wPodTerm at b
  unfold wPodTerm at h
  exact slW (by omega)
 ·have b:=wL_mem (w:=wSpreadRule) hx
  unfold wSpreadRule at b
  unfold wSpreadRule at h
  exact slW (by omega)
theorem spec_ex{p:Pod}(h:PW p):∃t,F51 p.Spec=some t∧Okv 7 ⟨5,0,(⟨#[]⟩:ByteArray),[],t⟩:=by
 obtain⟨t1,h1,n1,v1⟩:=fromContainers_ex _ h.co.1 h.co.2
 obtain⟨t7,h7,n7,v7⟩:=FromSelector_ex _ h.ns.1 h.ns.2
 obtain⟨t9,h9,n9,v9⟩:=fromNodeTerms_ex _ h.nt.1 h.nt.2
 obtain⟨t11,h11,n11,v11⟩:=fromPodTerms_ex _ h.pt.1 h.pt.2
 obtain⟨t17,h17,n17,v17⟩:=fromSpread_ex _ h.sr.1 h.sr.2
 obtain⟨t19,h19,n19,v19⟩:=fromTolerations_ex _ h.to
 rw[F51]
 simp only[F61,F62,F64,F65,Option.bind_some,h1,h7,h9,h11,h17,h19]
 refine⟨_,rfl,okvF _ _ _ (by simp[lit]) fun f hf=>?_⟩
 simp only[lit,List.mem_cons,List.not_mem_nil,or_false]at hf
 rcases hf with rfl|rfl|rfl|rfl|rfl|rfl|rfl|rfl|rfl|rfl
 ·exact okvL _ _ _ n1 fun y hy=>okv_le (v1 y hy) (by omega)
 ·exact okv0 _ _ _ _
 ·exact okv0 _ _ _ _
 ·exact okvL _ _ _ n7 fun y hy=>okv_le (v7 y hy) (by omega)
 ·exact okvL _ _ _ n9 fun y hy=>okv_le (v9 y hy) (by omega)
 ·exact okvL _ _ _ n11 fun y hy=>okv_le (v11 y hy) (by omega)
 ·exact okv0 _ _ _ _
 ·exact okv0 _ _ _ _
 ·exact okvL _ _ _ n17 fun y hy=>okv_le (v17 y hy) (by omega)
 ·exact okvL _ _ _ n19 fun y hy=>okv_le (v19 y hy) (by omega)
theorem status_ex{p:Pod}(h:PW p):∃t,F52 p.Status=some t∧Okv 7 ⟨5,0,(⟨#[]⟩:ByteArray),[],t⟩:=by
 obtain⟨t3,h3,n3,v3⟩:=fromStatuses_ex _ h.st
 obtain⟨b,hb⟩:=truth_ex p.Status.Ready
 rw[F52]
 simp only[F61,F62,F64,F65,Option.bind_some,h3,hb]
 refine⟨_,rfl,okvF _ _ _ (by simp[lit]) fun f hf=>?_⟩
 simp only[lit,List.mem_cons,List.not_mem_nil,or_false]at hf
 rcases hf with rfl|rfl|rfl|rfl|rfl|rfl|rfl|rfl|rfl
 ·exact okv0 _ _ _ _
 ·exact okvL _ _ _ n3 fun y hy=>okv_le (v3 y hy) (by omega)
 ·exact okv0 _ _ _ _
 ·exact okv0 _ _ _ _
 ·exact okv0 _ _ _ _
 ·exact okv0 _ _ _ _
 ·exact okv0 _ _ _ _
 ·exact okv0 _ _ _ _
 ·exact okv0 _ _ _ _
theorem spod_ex{p:Pod}(h:PW p):∃r,F22 p=some r:=by
 obtain⟨t,h1,v1⟩:=spec_ex h
 obtain⟨u,h2,v2⟩:=status_ex h
 obtain⟨b,hb⟩:=smeta_ex h.m
 obtain⟨c,hc⟩:=few_ex 20000 v1 (by omega)
 obtain⟨d,hd⟩:=few_ex 20000 v2 (by omega)
 rw[F22,F40,h1,Option.bind_some,h2]
 simp only[Option.bind_some,hb,hc,hd]
 cases b<;>cases c<;>exact⟨_,rfl⟩
theorem pods_l2:∀(l:List Pod) (i:Nat),(∀p∈l,PW p)→∃r,F8_l2 l i=some r
 |[],i,_=>⟨_,by rw[F8_l2]⟩
 |x::l,i,h=>by
  rw[F8_l2]
  obtain⟨b,hb⟩:=spod_ex (h x (List.mem_cons_self ..))
  have ih:=pods_l2 l (i+1) fun p hp=>h p (List.mem_cons_of_mem _ hp)
  rw[hb,Option.bind_some]
  repeat'(first|exact⟨_,rfl⟩|exact ih|exact exck (by omega)|exact byI_ex (by omega) (by omega)|exact rdI_ex (by omega) (by omega)|exact apI_ex (by omega)|with_reducible refine exif (fun _=>?_) (fun _=>?_)|with_reducible refine exb ?_ (fun _ _=>?_)|with_reducible refine exmap ?_|split)
theorem pods_ex{l:List Pod}(h:∀p∈l,PW p):∃b,F8 l=some b∧(b=true→l.length≤20):=by
 rw[F8]
 by_cases g:20<(l.length:Int)
 ·rw[if_pos g];exact⟨false,rfl,by simp⟩
 ·rw[if_neg g,ck_t (by omega),Option.bind_some]
  obtain⟨r,hr⟩:=pods_l2 l 0 h
  rw[hr]
  cases r<;>exact⟨_,rfl,fun _=>by omega⟩
open Go Go.Fw
set_option maxRecDepth 100000
set_option linter.unusedVariables false
set_option linter.unusedSimpArgs false
theorem lives_t:F9=some true:=by
 set_option maxRecDepth 1000000 in
 kernel_rfl
def mkE(p:Pod):Endpoint:=⟨keyB p.Meta,p.Spec.Node,p.Status.Address,p.Status.Ready&& !p.Meta.Deleting,p.Meta.Deleting⟩
def pselB(s:Service)(p:Pod):Bool:=decide (p.Meta.Namespace=s.Meta.Namespace)&&(decide (0<p.Status.Address)&&((decide (p.Status.Phase=0)||decide (p.Status.Phase=1))&&matB s.Selector p.Meta.Labels))
def insE(e:Endpoint):List Endpoint→List Endpoint
 |[]=>[e]
 |y::l=>if lt e.Pod y.Pod then e::y::l else y::insE e l
def srt(es:List Endpoint):List Endpoint:=es.foldl (fun l e=>insE e l) []
theorem insE_mem(e z:Endpoint):∀l,z∈insE e l↔z=e∨z∈l
 |[]=>by simp[insE]
 |y::l=>by
  rw[insE];split
  ·simp
  ·simp only[List.mem_cons,insE_mem e z l]
   constructor
   ·rintro(h|h|h)
    ·exact .inr (.inl h)
    ·exact .inl h
    ·exact .inr (.inr h)
   ·rintro(h|h|h)
    ·exact .inr (.inl h)
    ·exact .inl h
    ·exact .inr (.inr h)
theorem insE_perm(e:Endpoint):∀l,(insE e l).Perm (e::l)
 |[]=>List.Perm.refl _
 |y::l=>by
  rw[insE];split
  ·exact List.Perm.refl _
  ·exact((insE_perm e l).cons y).trans (List.Perm.swap e y l)
def Nd(l:List Endpoint):Prop:=l.Pairwise fun a b=>¬lt b.Pod a.Pod
theorem le_trans'{a b c:ByteArray}(h1:¬lt b a)(h2:¬lt c b):¬lt c a:=by
 intro h
 rcases lt_dec a b with h3|h3|h3
 ·exact h2 (lt_trans h h3)
 ·subst h3;exact h2 h
 ·exact h1 h3
theorem insE_nd(e:Endpoint):∀{l},Nd l→Nd (insE e l)
 |[],_=>List.pairwise_singleton ..
 |y::l,h=>by
  have h2:=List.pairwise_cons.1 h
  rw[insE]
  by_cases g:lt e.Pod y.Pod
  ·rw[if_pos g]
   refine List.pairwise_cons.2 ⟨fun z hz=>?_,h⟩
   rcases List.mem_cons.1 hz with rfl|hz
   ·exact fun h3=>lt_irrefl _ (lt_trans g h3)
   ·exact le_trans' (b:=y.Pod) (fun h3=>lt_irrefl _ (lt_trans g h3)) (h2.1 z hz)
  ·rw[if_neg g]
   refine List.pairwise_cons.2 ⟨fun z hz=>?_,insE_nd e h2.2⟩
   rcases(insE_mem e z l).1 hz with rfl|hz
   ·exact g
   ·exact h2.1 z hz
theorem fold_nd:∀(es:List Endpoint) {l},Nd l→Nd (es.foldl (fun l e=>insE e l) l)
 |[],_,h=>h
 |e::es,_,h=>fold_nd es (insE_nd e h)
theorem fold_permE:∀(es:List Endpoint) (l:List Endpoint),(es.foldl (fun l e=>insE e l) l).Perm (l++es)
 |[],l=>by rw[List.append_nil];exact List.Perm.refl _
 |e::es,l=>by
  rw[List.foldl_cons]
  refine(fold_permE es (insE e l)).trans (((insE_perm e l).append_right es).trans ?_)
  rw[List.cons_append]
  exact List.perm_middle.symm
theorem srt_perm(es:List Endpoint):(srt es).Perm es:=fold_permE es []
theorem srt_nd(es:List Endpoint):Nd (srt es):=fold_nd es List.Pairwise.nil
theorem srt_len(es:List Endpoint):(srt es).length=es.length:=(srt_perm es).length_eq
theorem srt_snoc(es:List Endpoint)(e:Endpoint):srt (es++[e])=insE e (srt es):=by unfold srt;rw[List.foldl_append];rfl
theorem insE_all(e:Endpoint):∀l:List Endpoint,(∀z∈l,¬lt e.Pod z.Pod)→insE e l=l++[e]
 |[],_=>rfl
 |y::l,h=>by rw[insE,if_neg (h y (List.mem_cons_self ..)),insE_all e l fun z hz=>h z (List.mem_cons_of_mem _ hz)];rfl
theorem insE_snoc(e y:Endpoint)(h:lt e.Pod y.Pod):∀l:List Endpoint,insE e (l++[y])=insE e l++[y]
 |[]=>by
  show(if lt e.Pod y.Pod then e::[y]else _)=_
  rw[if_pos h];rfl
 |z::l=>by
  rw[List.cons_append,insE,insE]
  by_cases g:lt e.Pod z.Pod
  ·rw[if_pos g,if_pos g];rfl
  ·rw[if_neg g,if_neg g,insE_snoc e y h l];rfl
def down(e:Endpoint):List Endpoint→List Endpoint→List Endpoint
 |[],r=>e::r
 |y::ps,r=>if lt e.Pod y.Pod then down e ps (y::r)else(y::ps).reverse++e::r
theorem down_ins(e:Endpoint):∀(ps r:List Endpoint),Nd ps.reverse→down e ps r=insE e ps.reverse++r
 |[],r,_=>rfl
 |y::ps,r,h=>by
  rw[List.reverse_cons]at h
  have h2:=List.pairwise_append.1 h
  rw[down,List.reverse_cons]
  by_cases g:lt e.Pod y.Pod
  ·rw[if_pos g,down_ins e ps (y::r) h2.1,insE_snoc e y g,List.append_assoc];rfl
  ·rw[if_neg g,insE_all e _ fun z hz=>?_]
   ·simp
   ·rcases List.mem_append.1 hz with hz|hz
    ·exact le_trans' (h2.2.2 z hz y (List.mem_singleton.2 rfl)) g
    ·rw[List.mem_singleton.1 hz];exact g
theorem cmpE(x y:Endpoint):F28 x y=some (scmp x.Pod y.Pod):=rfl
theorem ins_l3(e:Endpoint):∀(ps r:List Endpoint) (k:Nat),ps.length<k→ps.length≤1000→F55_l3 0 k (ps.reverse++e::r) (ps.length:Int)=some (down e ps r)
 |[],r,k+1,_,_=>by
  rw[F55_l3,if_neg (by simp)];rfl
 |y::ps,r,k+1,hk,hb=>by
  simp only[List.length_cons]at hk hb
  have hl:(y::ps).reverse++e::r=ps.reverse++y::e::r:=by simp
  have g1:(ps.reverse++y::e::r)[ps.length+1]? =some e:=by
   rw[List.getElem?_append_right (by simp)];simp
  have g2:(ps.reverse++y::e::r)[ps.length]? =some y:=by
   rw[List.getElem?_append_right (by simp)];simp
  have ew:IntKind.i64.wrap (((ps.length+1:Nat):Int)-1)=(ps.length:Int):=by rw[wrapI (by omega) (by omega)];omega
  rw[F55_l3,hl,List.length_cons,if_pos (by omega),rdI_val g1,Option.bind_some,ew,rdI_val g2,Option.bind_some,cmpE,Option.bind_some,Option.bind_some,down]
  by_cases g:lt e.Pod y.Pod
  ·rw[decide_eq_true ((scmp_neg _ _).2 g),if_pos rfl,if_pos g]
   simp only[Option.bind_some,Int.toNat_natCast]
   have e1:(ps.reverse++y::e::r).set (ps.length+1) y=ps.reverse++y::y::r:=by
    rw[List.set_append_right _ _ (by simp)];simp
   rw[e1]
   have g3:(ps.reverse++y::y::r)[ps.length]? =some y:=by
    rw[List.getElem?_append_right (by simp)];simp
   rw[rdI_val g3,Option.bind_some]
   have e2:(ps.reverse++y::y::r).set ps.length e=ps.reverse++e::y::r:=by
    rw[List.set_append_right _ _ (by simp)];simp
   rw[e2]
   exact ins_l3 e ps (y::r) k (by omega) (by omega)
  ·rw[decide_eq_false (fun h=>g ((scmp_neg _ _).1 h)),if_neg (by simp),if_neg g,←hl]
theorem ins_l1(es:List Endpoint)(hb:es.length≤1000):∀(m i k:Nat),es.length=i+m→m<k→F55_l1 0 (es.length:Int) k (srt (es.take i)++es.drop i) (i:Int)=some (srt es)
 |0,i,k+1,h,_=>by
  rw[F55_l1,if_neg (by omega),List.drop_of_length_le (by omega),List.take_of_length_le (by omega),List.append_nil]
 |m+1,i,k+1,h,hk=>by
  have hi:i<es.length:=by omega
  have hsl:(srt (es.take i)).length=i:=by rw[srt_len,List.length_take];omega
  have e3:=ins_l3 es[i] (srt (es.take i)).reverse (es.drop (i+1)) 1099511627776 (by rw[List.length_reverse,hsl];omega) (by rw[List.length_reverse,hsl];omega)
  rw[List.reverse_reverse,List.length_reverse,hsl,←List.drop_eq_getElem_cons hi]at e3
  rw[F55_l1,if_pos (by omega),e3,Option.bind_some,wrapN (by omega),down_ins _ _ _ (by rw[List.reverse_reverse];exact srt_nd _),List.reverse_reverse,←srt_snoc]
  have et:es.take i++[es[i]]=es.take (i+1):=by rw[List.take_add_one,List.getElem?_eq_getElem hi];rfl
  rw[et]
  exact ins_l1 es hb m (i+1) k (by omega) (by omega)
theorem insS_t{es:List Endpoint}(hb:es.length≤1000):F55 es 0 (es.length:Int)=some (srt es):=by
 have h1:F55_l1 0 (es.length:Int) 1099511627776 es 1=some (srt es):=by
  cases es with
  |nil=>rfl
  |cons e es=>
   have:=ins_l1 (e::es) hb es.length 1 1099511627776 (by simp;omega) (by simp only[List.length_cons]at hb;omega)
   exact this
 rw[F55,F55i,show IntKind.i64.wrap (0+1)=1 from rfl,h1]
 simp only[Option.bind_some]
 rw[if_pos (srt_len es)]
theorem insS_0{es:List Endpoint}(hb:es.length≤20):F55 es 20 (es.length:Int)=some es:=by
 rw[F55,F55i,show IntKind.i64.wrap (20+1)=21 from rfl,show(1099511627776:Nat)=1099511627775+1 from rfl,F55_l1,if_neg (by omega)]
 simp
theorem stable_t{es:List Endpoint}(hb:es.length≤20):F44 es (es.length:Int)=some (srt es):=by
 have l5:∀l,F44_l5 (es.length:Int) 1099511627776 l 20=some l:=fun l=>by
  rw[show(1099511627776:Nat)=1099511627775+1 from rfl,F44_l5,if_neg (by omega)]
 have hi:F44i es (es.length:Int)=some (srt es):=by
  rw[F44i,show(1099511627776:Nat)=1099511627774+1+1 from rfl,F44_l1]
  by_cases g:20≤(es.length:Int)
  ·have g20:(es.length:Int)=20:=by omega
   have h1:F55 es 0 20=some (srt es):=by
    have:=insS_t (es:=es) (by omega)
    rw[g20]at this;exact this
   have h2:=insS_0 (es:=srt es) (by rw[srt_len];omega)
   rw[srt_len]at h2
   rw[if_pos g,h1,Option.bind_some,show IntKind.i64.wrap (20+20)=40 from rfl,F44_l1,if_neg (by omega)]
   simp only[Option.bind_some]
   rw[h2,Option.bind_some]
   have:=l5 (srt es)
   rw[show(1099511627776:Nat)=1099511627774+1+1 from rfl]at this
   rw[this];rfl
  ·rw[if_neg g]
   simp only[Option.bind_some]
   rw[insS_t (by omega),Option.bind_some]
   have:=l5 (srt es)
   rw[show(1099511627776:Nat)=1099511627774+1+1 from rfl]at this
   rw[this];rfl
 rw[F44,hi,Option.bind_some,if_pos (srt_len es)]
theorem sortE_t{es:List Endpoint}(hb:es.length≤20):F27 es=some (srt es):=by
 rw[F27,F27i,stable_t hb]
 simp only[Option.bind_some]
 rw[if_pos (srt_len es)]
open Go Go.Fw
set_option maxRecDepth 100000
set_option linter.unusedVariables false
set_option linter.unusedSimpArgs false
theorem psel_if(s:Service)(p:Pod)(b:Bool):(if p.Meta.Namespace=s.Meta.Namespace then(if 0<p.Status.Address then(if p.Status.Phase=0 then(some b).bind fun t5=>some t5 else(if p.Status.Phase=1 then(some b).bind fun t7=>some t7 else some false))else some false)else some false)=some (decide (p.Meta.Namespace=s.Meta.Namespace)&&(decide (0<p.Status.Address)&&((decide (p.Status.Phase=0)||decide (p.Status.Phase=1))&&b))):=by
 by_cases a1:p.Meta.Namespace=s.Meta.Namespace<;>by_cases a2:0<p.Status.Address<;>by_cases a3:p.Status.Phase=0<;>by_cases a4:p.Status.Phase=1<;>simp[a1,a2,a3,a4]
theorem psel_t{s:Service}{p:Pod}(h:selOk s.Selector)(hp:p.Meta.Labels.length≤4000000):F25 s p=some (pselB s p):=by
 rw[F25,mat_t h hp,psel_if];rfl
def its(s:Service)(l:List Pod):List Endpoint:=(l.filter (pselB s)).map mkE
theorem its_len(s:Service)(l:List Pod):(its s l).length≤l.length:=by unfold its;rw[List.length_map];exact List.length_filter_le ..
theorem its_cons(s:Service)(p:Pod)(l:List Pod):its s (p::l)=(if pselB s p=true then [mkE p]else [])++its s l:=by
 unfold its
 by_cases h:pselB s p=true
 ·rw[List.filter_cons_of_pos h,if_pos h];rfl
 ·rw[List.filter_cons_of_neg h,if_neg h];rfl
theorem of_l2{s:Service}(h:selOk s.Selector):∀(l:List Pod) (i:Nat) (a:List Endpoint),(∀p∈l,PW p)→a.length+l.length≤4000000→F10_l2 s l i a=some (a++its s l)
 |[],i,a,_,_=>by rw[F10_l2];simp[its]
 |p::l,i,a,hp,hl=>by
  have h1:=(hp p (List.mem_cons_self ..)).m
  simp only[List.length_cons]at hl
  rw[F10_l2,psel_t h h1.labels,Option.bind_some,its_cons]
  cases hs:pselB s p with
  |false=>
   simp only[Bool.false_eq_true,if_false,Option.bind_some,List.nil_append]
   exact of_l2 h l (i+1) a (fun x hx=>hp x (List.mem_cons_of_mem _ hx)) (by omega)
  |true=>
   have e:(if p.Status.Ready=true then(apI a [(⟨keyB p.Meta,p.Spec.Node,p.Status.Address,nb p.Meta.Deleting,p.Meta.Deleting⟩:Endpoint)]).bind fun a9=>some a9 else(apI a [(⟨keyB p.Meta,p.Spec.Node,p.Status.Address,false,p.Meta.Deleting⟩:Endpoint)]).bind fun a10=>some a10)=some (a++[mkE p]):=by
    unfold mkE
    cases p.Status.Ready
    ·rw[if_neg (by simp),apI_t (by simp;omega)];rfl
    ·rw[if_pos rfl,apI_t (by simp;omega),nb_not];rfl
   simp only[if_true]
   rw[KeyOf_t h1.key]
   simp only[Option.bind_some]
   rw[e]
   simp only[Option.bind_some]
   rw[of_l2 h l (i+1) _ (fun x hx=>hp x (List.mem_cons_of_mem _ hx)) (by simp;omega),List.append_assoc]
theorem of_t{s:Service}(h:selOk s.Selector)(hpo:s.Ports.length≤4000000){l:List Pod}(hp:∀p∈l,PW p)(hl:l.length≤20):F10 s l=some (s.Ports,srt (its s l)):=by
 have:=its_len s l
 rw[F10,cl_t (by omega),Option.bind_some,ck_t (by omega),Option.bind_some,of_l2 h l 0 [] hp (by simp;omega),Option.bind_some,List.nil_append,sortE_t (by omega)]
 rfl
theorem same_l2(l:List Endpoint):∀(xs:List Endpoint) (i:Nat),l.drop i=xs→F13_l2 l xs i=some (.inr ())
 |[],i,_=>by rw[F13_l2]
 |x::xs,i,e=>by
  have hx:=drop_hd e
  rw[F13_l2,rdI_val hx,Option.bind_some,if_neg (by simp[nb_not])]
  exact same_l2 l xs (i+1) (drop_tl e)
theorem same_t{l:List Endpoint}(hl:l.length≤4000000):F13 l l=some true:=by
 rw[F13,if_neg (by simp),ck_t (by omega),Option.bind_some,same_l2 l l 0 (List.drop_zero ..)]
 rfl
theorem svc_ok{s:Service}(h:wService s≤1048576):MW s.Meta∧selOk s.Selector∧s.Ports.length≤4000000:=by
 unfold wService at h
 have a1:=wL_len (w:=wServicePort) (fun a=>by unfold wServicePort;omega) s.Ports
 obtain⟨h1,h2⟩:=slW (l:=s.Selector) (by omega)
 exact⟨mW (by omega),⟨h1,h2⟩,by omega⟩
theorem pods_ok{l:List Pod}(h:wL wPod l≤1048576):∀p∈l,PW p:=fun p hp=>pW (by have:=wL_mem (w:=wPod) hp;omega)
open Go Go.Fw
set_option maxRecDepth 100000
set_option linter.unusedVariables false
set_option linter.unusedSimpArgs false
def Kd(l:List Pod):Prop:=l.Pairwise fun a b=>keyB a.Meta≠keyB b.Meta
theorem di_l3(l:List Pod)(hp:∀p∈l,PW p)(x:Pod)(hx:PW x)(i:Nat)(hi:i≤l.length)(hl:l.length≤4000000):∀(n j k:Nat),j+n=i→n<k→F17_l3 i l x k (j:Int)=some (if∃y∈(l.take i).drop j,keyB x.Meta=keyB y.Meta then .inl (.inl false)else .inr ())
 |0,j,k+1,h,_=>by
  have:(l.take i).drop j=[]:=List.drop_of_length_le (by rw[List.length_take];omega)
  rw[F17_l3,if_neg (by omega),this];simp
 |n+1,j,k+1,h,hk=>by
  have hj:j<(l.take i).length:=by rw[List.length_take];omega
  rw[F17_l3,if_pos (by omega),rKeyOf_t hx.m.key,Option.bind_some,rdI_at (by omega),Option.bind_some,rKeyOf_t (hp _ (List.getElem_mem _)).m.key,Option.bind_some,wrapN (by omega),di_l3 l hp x hx i hi hl n (j+1) k (by omega) (by omega),List.drop_eq_getElem_cons hj,List.getElem_take]
  by_cases hu:keyB x.Meta=keyB (l[j]'(by omega)).Meta<;>simp[hu]
theorem di_l1(l:List Pod)(hp:∀p∈l,PW p)(hl:l.length≤4000000):∀(xs:List Pod) (i:Nat),l.drop i=xs→Kd (l.take i)→F17_l1 l xs i=some (.inl false)∨F17_l1 l xs i=some (.inr ())∧Kd l
 |[],i,e,hk=>by
  right
  have:l.length≤i:=by simpa using e
  rw[List.take_of_length_le this]at hk
  exact⟨by rw[F17_l1],hk⟩
 |x::xs,i,e,hk=>by
  have hx:=drop_hd e
  have hi:=(List.getElem?_eq_some_iff.1 hx).1
  have h3:=di_l3 l hp x (hp x (List.mem_of_getElem? hx)) i (by omega) hl i 0 1099511627776 (by omega) (by omega)
  rw[show((0:Nat):Int)=0 from rfl,List.drop_zero]at h3
  rw[F17_l1,h3,Option.bind_some]
  by_cases g:∃y∈l.take i,keyB x.Meta=keyB y.Meta
  ·rw[if_pos g];exact .inl rfl
  ·rw[if_neg g]
   refine di_l1 l hp hl xs (i+1) (drop_tl e) ?_
   rw[List.take_add_one,hx]
   refine List.pairwise_append.2 ⟨hk,List.pairwise_singleton ..,fun a ha b hb=>?_⟩
   rw[Option.toList_some,List.mem_singleton]at hb
   subst hb
   exact fun h=>g ⟨a,ha,h.symm⟩
theorem dist_t{l:List Pod}(hp:∀p∈l,PW p)(hl:l.length≤4000000):∃b,F17 l=some b∧(b=true→Kd l):=by
 rw[F17,ck_t (by omega),Option.bind_some]
 rcases di_l1 l hp hl l 0 (List.drop_zero ..) List.Pairwise.nil with h|⟨h,hs⟩
 ·rw[h];exact⟨false,rfl,by simp⟩
 ·rw[h];exact⟨true,rfl,fun _=>hs⟩
def Up(l:List Endpoint):Prop:=l.Pairwise fun a b=>lt a.Pod b.Pod
theorem its_kd(s:Service){l:List Pod}(h:Kd l):(its s l).Pairwise fun a b=>a.Pod≠b.Pod:=by
 unfold its
 exact List.pairwise_map.2 (List.Pairwise.filter _ h)
theorem srt_up{es:List Endpoint}(h:es.Pairwise fun a b=>a.Pod≠b.Pod):Up (srt es):=by
 have h1:(srt es).Pairwise fun a b=>a.Pod≠b.Pod:=((srt_perm es).pairwise_iff (fun h e=>h e.symm)).2 h
 have h2:=srt_nd es
 refine List.Pairwise.imp ?_ (List.pairwise_and_iff.2 ⟨h1,h2⟩)
 intro a b ⟨g1,g2⟩
 rcases lt_dec a.Pod b.Pod with h3|h3|h3
 ·exact h3
 ·exact(g1 h3).elim
 ·exact(g2 h3).elim
open Go Go.Fw
set_option maxRecDepth 1000000
set_option maxRecDepth 100000
theorem bless_lt:∀x y:List UInt8,Op.bytesLess x y=decide (x<y)
 |[],[]=>by simp[Op.bytesLess]
 |[],b::y=>by simp[Op.bytesLess]
 |a::x,[]=>by simp[Op.bytesLess]
 |a::x,b::y=>by
  rw[Op.bytesLess,bless_lt x y,Bool.eq_iff_iff]
  simp only[Bool.or_eq_true,decide_eq_true_eq,Bool.and_eq_true,beq_iff_eq,List.cons_lt_cons_iff]
theorem toList_bl(b:ByteArray):b.toList=bl b:=by
 rw[show bl b=b.data.toList from rfl];exact Go.ByteArray.toList_eq b
theorem lt_bl(a b:ByteArray):lt a b↔bl a<bl b:=by
 unfold lt;rw[toList_bl,toList_bl,bless_lt];simp
theorem sortL_perm(xs:List ByteArray):(sortL xs).Perm xs:=by
 have h:=(List.mergeSort_perm (xs.map bl) (fun x y=>decide (x≤y))).map lb
 rw[List.map_map]at h
 have e:xs.map (lb∘bl)=xs:=by
  have:(lb∘bl)=id:=funext lb_bl
  rw[this,List.map_id]
 rw[e]at h;rw[sortL_eq];exact h
theorem sortL_mem(z:ByteArray)(xs:List ByteArray):z∈sortL xs↔z∈xs:=(sortL_perm xs).mem_iff
theorem sortL_pw(xs:List ByteArray):(sortL xs).Pairwise fun a b=>¬lt b a:=by
 have h:=List.pairwise_mergeSort (le:=fun x y:List UInt8=>decide (x≤y)) (fun a b c h1 h2=>by simp only[decide_eq_true_eq]at*;exact List.le_trans h1 h2) (fun a b=>by simp only[Bool.or_eq_true,decide_eq_true_eq];exact List.le_total a b) (xs.map bl)
 rw[sortL_eq,List.pairwise_map]
 refine h.imp fun{a b} hab=>?_
 rw[lt_bl,bl_lb,bl_lb]
 simp only[decide_eq_true_eq]at hab
 exact List.not_lt.2 hab
theorem pw_uniq:∀{a b:List ByteArray},a.Pairwise lt→b.Pairwise lt→(∀z,z∈a↔z∈b)→a=b
 |[],[],_,_,_=>rfl
 |[],y::b,_,_,h=>by have:=(h y).2 (List.mem_cons_self ..);cases this
 |x::a,[],_,_,h=>by have:=(h x).1 (List.mem_cons_self ..);cases this
 |x::a,y::b,ha,hb,h=>by
  have ha2:=List.pairwise_cons.1 ha
  have hb2:=List.pairwise_cons.1 hb
  have hxy:x=y:=by
   rcases List.mem_cons.1 ((h x).1 (List.mem_cons_self ..))with e|hx
   ·exact e
   ·rcases List.mem_cons.1 ((h y).2 (List.mem_cons_self ..))with e|hy
    ·exact e.symm
    ·exact(lt_asymm (hb2.1 x hx) (ha2.1 y hy)).elim
  subst hxy
  congr 1
  refine pw_uniq ha2.2 hb2.2 fun z=>⟨fun hz=>?_,fun hz=>?_⟩
  ·rcases List.mem_cons.1 ((h z).1 (List.mem_cons_of_mem _ hz))with e|hz2
   ·exact(lt_irrefl x (e▸ha2.1 z hz)).elim
   ·exact hz2
  ·rcases List.mem_cons.1 ((h z).2 (List.mem_cons_of_mem _ hz))with e|hz2
   ·exact(lt_irrefl x (e▸hb2.1 z hz)).elim
   ·exact hz2
theorem getM_putM{α:Type}(k k':ByteArray)(v:α):∀m:List (ByteArray×α),getM k (putM k' v m)=if k'=k then some v else getM k m
 |[]=>by simp[putM,getM]
 |e::r=>by
  unfold putM
  by_cases h:e.1=k'
  ·rw[if_pos h]
   by_cases h2:k'=k
   ·rw[if_pos h2,getM,if_pos h2]
   ·rw[if_neg h2,getM,if_neg h2,getM,if_neg (by rw[h];exact h2)]
  ·rw[if_neg h,getM,getM_putM k k' v r,getM]
   by_cases h2:e.1=k
   ·rw[if_pos h2,if_pos h2,if_neg (by rw[←h2];exact fun h'=>h h'.symm)]
   ·rw[if_neg h2,if_neg h2]
theorem putM_new{α:Type}(k:ByteArray)(v:α):∀m:List (ByteArray×α),(getM k m).isSome=false→putM k v m=m++[(k,v)]
 |[],_=>rfl
 |e::r,h=>by
  unfold getM at h
  unfold putM
  by_cases h2:e.1=k
  ·rw[if_pos h2]at h;simp at h
  ·rw[if_neg h2]at h
   rw[if_neg h2,putM_new k v r h];rfl
theorem getM_mem{α:Type}(k:ByteArray):∀m:List (ByteArray×α),(getM k m).isSome=true↔k∈m.map Prod.fst
 |[]=>by simp[getM]
 |e::r=>by
  unfold getM
  by_cases h:e.1=k
  ·simp[h]
  ·rw[if_neg h,getM_mem k r];simp[Ne.symm h]
def fst1(l:List Endpoint)(k:ByteArray):Option Endpoint:=l.find? fun x=>decide (x.Pod=k)
def has(l:List Endpoint)(k:ByteArray):Bool:=(fst1 l k).isSome
def idxF:List Endpoint→List (ByteArray×Endpoint)→List (ByteArray×Endpoint)
 |[],m=>m
 |x::l,m=>idxF l (if(getM x.Pod m).isSome=true then m else putM x.Pod x m)
theorem F33_l1_t:∀(l:List Endpoint) (i:Nat) (m:List (ByteArray×Endpoint)),F33_l1 l i m=some (idxF l m)
 |[],i,m=>by rw[F33_l1,idxF]
 |x::l,i,m=>by
  rw[F33_l1,idxF,nb_not]
  cases h:(getM x.Pod m).isSome
  ·simp[F33_l1_t l]
  ·simp[F33_l1_t l]
theorem idxF_get(k:ByteArray):∀(l:List Endpoint) (m:List (ByteArray×Endpoint)),getM k (idxF l m)=match getM k m with|some e=>some e|none=>fst1 l k
 |[],m=>by rw[idxF];cases getM k m<;>rfl
 |x::l,m=>by
  rw[idxF,idxF_get k l]
  by_cases h:x.Pod=k
  ·subst h
   cases hg:getM x.Pod m with
   |some e=>simp[hg]
   |none=>simp[getM_putM,fst1]
  ·have:fst1 (x::l) k=fst1 l k:=by simp[fst1,h]
   rw[this]
   cases hg:(getM x.Pod m).isSome
   ·simp[getM_putM,h]
   ·simp
theorem idxF_nodup:∀(l:List Endpoint) (m:List (ByteArray×Endpoint)),(m.map Prod.fst).Nodup→((idxF l m).map Prod.fst).Nodup
 |[],m,h=>by rw[idxF];exact h
 |x::l,m,h=>by
  rw[idxF]
  refine idxF_nodup l _ ?_
  cases hg:(getM x.Pod m).isSome
  ·simp only[Bool.false_eq_true,if_false]
   rw[putM_new _ _ _ hg,List.map_append]
   refine List.nodup_append.2 ⟨h,by simp,fun a ha b hb=>?_⟩
   simp only[List.map_cons,List.map_nil,List.mem_singleton]at hb
   subst hb
   intro e
   subst e
   rw[(getM_mem _ m).2 ha]at hg;cases hg
  ·simp only[if_true];exact h
theorem idxF_keys(k:ByteArray)(l:List Endpoint):k∈(idxF l []).map Prod.fst↔has l k=true:=by
 rw[←getM_mem,idxF_get];rfl
theorem idxF_len:∀(l:List Endpoint) (m:List (ByteArray×Endpoint)),(idxF l m).length≤m.length+l.length
 |[],m=>by rw[idxF];simp
 |x::l,m=>by
  rw[idxF]
  have:=idxF_len l (if(getM x.Pod m).isSome=true then m else putM x.Pod x m)
  cases hg:(getM x.Pod m).isSome
  ·rw[hg]at this
   simp only[Bool.false_eq_true,if_false]at this⊢
   rw[putM_new _ _ _ hg]at this⊢
   simp at this⊢;omega
  ·rw[hg]at this
   simp only[if_true]at this⊢
   simp;omega
theorem F33_t(s:EndpointSet)(h:s.Items.length≤4294967290):F33 s=some (idxF s.Items []):=by
 unfold F33
 rw[ck_t ⟨by omega,h⟩,Option.bind_some,F33_l1_t];rfl
def insU(s:ByteArray):List ByteArray→List ByteArray
 |[]=>[s]
 |y::r=>if lt y s then y::insU s r else if y=s then y::r else s::y::r
theorem insU_mem(s z:ByteArray):∀l,z∈insU s l↔z=s∨z∈l
 |[]=>by simp[insU]
 |y::r=>by
  unfold insU
  split
  ·rw[List.mem_cons,insU_mem s z r,List.mem_cons]
   constructor
   ·rintro(h|h|h)<;>simp[h]
   ·rintro(h|h|h)<;>simp[h]
  split
  ·rename_i h;subst h;simp
  ·simp
theorem insU_pw(s:ByteArray):∀{l:List ByteArray},l.Pairwise lt→(insU s l).Pairwise lt
 |[],_=>by simp[insU]
 |y::r,h=>by
  have h2:=List.pairwise_cons.1 h
  unfold insU
  split
  ·rename_i hl
   refine List.pairwise_cons.2 ⟨fun z hz=>?_,insU_pw s h2.2⟩
   rcases(insU_mem s z r).1 hz with rfl|hz
   ·exact hl
   ·exact h2.1 z hz
  split
  ·exact h
  ·rename_i h1 h3
   have hs:=lt_of_not h1 h3
   refine List.pairwise_cons.2 ⟨fun z hz=>?_,h⟩
   rcases List.mem_cons.1 hz with rfl|hz
   ·exact hs
   ·exact lt_trans hs (h2.1 z hz)
def refF(p:ByteArray→Bool):List Endpoint→List ByteArray→List ByteArray
 |[],a=>a
 |x::l,a=>refF p l (if p x.Pod=true then insU x.Pod a else a)
theorem has_cons(x:Endpoint)(l:List Endpoint)(z:ByteArray):has (x::l) z=(decide (x.Pod=z)||has l z):=by
 unfold has fst1
 rw[List.find?_cons]
 by_cases h:x.Pod=z<;>simp[h]
theorem refF_mem(p:ByteArray→Bool)(z:ByteArray):∀(l:List Endpoint) (a:List ByteArray),z∈refF p l a↔z∈a∨(p z=true∧has l z=true)
 |[],a=>by simp[refF,has,fst1]
 |x::l,a=>by
  rw[refF,refF_mem p z l,has_cons]
  by_cases h:x.Pod=z
  ·subst h
   cases hp:p x.Pod<;>simp[insU_mem,hp]
  ·cases hp:p x.Pod<;>simp[insU_mem,h,Ne.symm h]
theorem refF_pw(p:ByteArray→Bool):∀(l:List Endpoint) {a:List ByteArray},a.Pairwise lt→(refF p l a).Pairwise lt
 |[],a,h=>h
 |x::l,a,h=>by
  rw[refF]
  refine refF_pw p l ?_
  split
  ·exact insU_pw _ h
  ·exact h
def Sdf(p:ByteArray→Bool)(l:List Endpoint):List ByteArray:=refF p l []
theorem S_mem(p:ByteArray→Bool)(l:List Endpoint)(z:ByteArray):z∈Sdf p l↔p z=true∧has l z=true:=by simp[Sdf,refF_mem]
theorem S_pw(p:ByteArray→Bool)(l:List Endpoint):(Sdf p l).Pairwise lt:=refF_pw p l List.Pairwise.nil
theorem sort_nd{ks:List ByteArray}(h:ks.Nodup):(sortL ks).Pairwise lt:=by
 have h1:=sortL_pw ks
 have h2:(sortL ks).Nodup:=(sortL_perm ks).nodup_iff.2 h
 exact(h1.and h2).imp fun{a b} hab=>lt_of_not hab.1 (Ne.symm hab.2)
theorem sorted_S(p:ByteArray→Bool)(l:List Endpoint):(sortL ((idxF l []).map Prod.fst)).filter p=Sdf p l:=by
 refine pw_uniq ((sort_nd (idxF_nodup l [] (by simp))).filter _) (S_pw p l) fun z=>?_
 rw[List.mem_filter,sortL_mem,idxF_keys,S_mem,and_comm]
def eqE(x y:Endpoint):Bool:=decide (x.Pod=y.Pod)&&(decide (x.Node=y.Node)&&(decide (x.Address=y.Address)&&((x.Ready==y.Ready)&&(x.Terminating==y.Terminating))))
def ez:Endpoint:=⟨⟨#[]⟩,⟨#[]⟩,0,false,false⟩
def pA(a:List Endpoint)(k:ByteArray):Bool:= !has a k
def pC(a b:List Endpoint)(k:ByteArray):Bool:=has a k&& !eqE ((fst1 a k).getD ez) ((fst1 b k).getD ez)
theorem F14_l5_t(a b:List Endpoint)(ks:List ByteArray):∀(n i:Nat) (o c:List ByteArray),ks.length=i+n→o.length+n≤100000→c.length+n≤100000→F14_l5 (idxF a []) (idxF b []) ks (ks.drop i) i o c=some (o++(ks.drop i).filter (pA a),c++(ks.drop i).filter (pC a b))
 |0,i,o,c,h,_,_=>by rw[List.drop_of_length_le (by omega),F14_l5];simp
 |n+1,i,o,c,h,ho,hc=>by
  have hlt:i<ks.length:=by omega
  have IH:=F14_l5_t a b ks n (i+1)
  rw[List.drop_eq_getElem_cons hlt,F14_l5,rdI_at hlt]
  have g1:getM ks[i] (idxF a [])=fst1 a ks[i]:=by rw[idxF_get];rfl
  have g2:getM ks[i] (idxF b [])=fst1 b ks[i]:=by rw[idxF_get];rfl
  simp only[Option.bind_some,g1,g2,nb_not,List.filter_cons]
  show(((if(!has a ks[i])=true then _ else _):Option _).bind _)=_
  cases hh:has a ks[i]
  ·have e1:pA a ks[i]=true:=by simp[pA,hh]
   have e2:pC a b ks[i]=false:=by simp[pC,hh]
   simp only[Bool.not_false,if_true,e1,e2,Bool.false_eq_true,if_false]
   rw[apI_t (by simp;omega),Option.bind_some,Option.bind_some,IH _ _ (by omega) (by simp;omega) (by dsimp only;omega)]
   simp
  ·have e1:pA a ks[i]=false:=by simp[pA,hh]
   have e2:pC a b ks[i]= !eqE ((fst1 a ks[i]).getD ez) ((fst1 b ks[i]).getD ez):=by simp[pC,hh]
   simp only[Bool.not_true,Bool.false_eq_true,if_false,e1,e2]
   show(((if(!eqE ((fst1 a ks[i]).getD ez) ((fst1 b ks[i]).getD ez))=true then _ else _):Option _).bind _)=_
   cases eqE ((fst1 a ks[i]).getD ez) ((fst1 b ks[i]).getD ez)
   ·simp only[Bool.not_false,if_true]
    rw[apI_t (by simp;omega),Option.bind_some,Option.bind_some,IH _ _ (by omega) (by dsimp only;omega) (by simp;omega)]
    simp
   ·simp only[Bool.not_true,Bool.false_eq_true,if_false,Option.bind_some]
    rw[IH _ _ (by omega) (by omega) (by omega)]
theorem F14_l16_t(b:List Endpoint)(ks:List ByteArray):∀(n i:Nat) (o:List ByteArray),ks.length=i+n→o.length+n≤100000→F14_l16 ks (idxF b []) (ks.drop i) i o=some (o++(ks.drop i).filter (pA b))
 |0,i,o,h,_=>by rw[List.drop_of_length_le (by omega),F14_l16];simp
 |n+1,i,o,h,ho=>by
  have hlt:i<ks.length:=by omega
  have IH:=F14_l16_t b ks n (i+1)
  rw[List.drop_eq_getElem_cons hlt,F14_l16,rdI_at hlt]
  have g2:getM ks[i] (idxF b [])=fst1 b ks[i]:=by rw[idxF_get];rfl
  simp only[Option.bind_some,g2,nb_not,List.filter_cons]
  show(((if(!has b ks[i])=true then _ else _):Option _).bind _)=_
  cases hh:has b ks[i]
  ·have e1:pA b ks[i]=true:=by simp[pA,hh]
   simp only[Bool.not_false,if_true,e1]
   rw[apI_t (by simp;omega),Option.bind_some,Option.bind_some,IH _ (by omega) (by simp;omega)]
   simp
  ·have e1:pA b ks[i]=false:=by simp[pA,hh]
   simp only[Bool.not_true,Bool.false_eq_true,if_false,e1,Option.bind_some]
   rw[IH _ (by omega) (by omega)]
def smallE(l:List Endpoint):Prop:=l.length≤1000∧∀x∈l,x.Pod.size≤4294967290
theorem keys_t{l:List Endpoint}(h:smallE l):keysI ((idxF l []).map Prod.fst)=some (sortL ((idxF l []).map Prod.fst)):=by
 unfold keysI
 refine if_pos ⟨?_,fun k hk=>?_⟩
 ·have:=idxF_len l [];have:=h.1;simp at*;omega
 ·rw[idxF_keys]at hk
  unfold has fst1 at hk
  cases hf:l.find? (fun x=>decide (x.Pod=k))with
  |none=>rw[hf]at hk;cases hk
  |some e=>
   have:=List.find?_some hf
   simp only[decide_eq_true_eq]at this
   rw[←this];exact h.2 e (List.mem_of_find?_eq_some hf)
def res(a b:List Endpoint):List ByteArray×List ByteArray×List ByteArray:=(Sdf (pA a) b,Sdf (pA b) a,Sdf (pC a b) b)
theorem F14_t(x y:EndpointSet)(hx:smallE x.Items)(hy:smallE y.Items):F14 x y=some (res x.Items y.Items):=by
 unfold F14
 have lx:=idxF_len x.Items []
 have ly:=idxF_len y.Items []
 have h1:=hx.1
 have h2:=hy.1
 simp only[List.length_nil,Nat.zero_add]at lx ly
 have kx:(sortL ((idxF x.Items []).map Prod.fst)).length≤1000:=by rw[sortL_len,List.length_map];omega
 have ky:(sortL ((idxF y.Items []).map Prod.fst)).length≤1000:=by rw[sortL_len,List.length_map];omega
 rw[F33_t x (by omega),Option.bind_some,F33_t y (by omega),Option.bind_some]
 simp only[F35,Option.bind_some]
 rw[keys_t hy,Option.bind_some,ck_t ⟨by omega,by omega⟩,Option.bind_some]
 have e5:=F14_l5_t x.Items y.Items (sortL ((idxF y.Items []).map Prod.fst)) _ 0 [] [] (Nat.zero_add _).symm (by simp;omega) (by simp;omega)
 rw[List.drop_zero]at e5
 rw[e5,Option.bind_some,keys_t hx,Option.bind_some,ck_t ⟨by omega,by omega⟩,Option.bind_some]
 have e6:=F14_l16_t y.Items (sortL ((idxF x.Items []).map Prod.fst)) _ 0 [] (Nat.zero_add _).symm (by simp;omega)
 rw[List.drop_zero]at e6
 rw[e6,Option.bind_some]
 simp only[List.nil_append,sorted_S];rfl
open Go Go.Fw
set_option maxRecDepth 100000
set_option linter.unusedVariables false
set_option linter.unusedSimpArgs false
theorem up_ext:∀{a b:List Endpoint},Up a→Up b→(∀x,x∈a↔x∈b)→a=b
 |[],[],_,_,_=>rfl
 |[],y::b,_,_,h=>by have:=(h y).2 (List.mem_cons_self ..);cases this
 |x::a,[],_,_,h=>by have:=(h x).1 (List.mem_cons_self ..);cases this
 |x::a,y::b,ha,hb,h=>by
  have ha2:=List.pairwise_cons.1 ha
  have hb2:=List.pairwise_cons.1 hb
  have e:x=y:=by
   rcases List.mem_cons.1 ((h x).1 (List.mem_cons_self ..))with e|h1
   ·exact e
   ·rcases List.mem_cons.1 ((h y).2 (List.mem_cons_self ..))with e|h2
    ·exact e.symm
    ·exact(lt_irrefl _ (lt_trans (ha2.1 y h2) (hb2.1 x h1))).elim
  subst e
  rw[up_ext ha2.2 hb2.2 fun z=>?_]
  constructor
  ·intro hz
   rcases List.mem_cons.1 ((h z).1 (List.mem_cons_of_mem _ hz))with e|h1
   ·subst e;exact(lt_irrefl _ (ha2.1 _ hz)).elim
   ·exact h1
  ·intro hz
   rcases List.mem_cons.1 ((h z).2 (List.mem_cons_of_mem _ hz))with e|h1
   ·subst e;exact(lt_irrefl _ (hb2.1 _ hz)).elim
   ·exact h1
theorem its_app(s:Service)(a b:List Pod):its s (a++b)=its s a++its s b:=by
 unfold its;rw[List.filter_append,List.map_append]
theorem srt_eq{es fs:List Endpoint}(h:es.Pairwise fun a b=>a.Pod≠b.Pod)(hp:fs.Perm es):srt fs=srt es:=by
 have h2:fs.Pairwise fun a b=>a.Pod≠b.Pod:=(hp.pairwise_iff (fun h e=>h e.symm)).2 h
 refine up_ext (srt_up h2) (srt_up h) fun x=>?_
 rw[(srt_perm fs).mem_iff,(srt_perm es).mem_iff,hp.mem_iff]
theorem key_size{p:Pod}(h:PW p):(keyB p.Meta).size≤4294967290:=by
 have:=h.m.key
 unfold keyB
 rw[bsize,bsize,bsize,bsize,sl1]
 omega
theorem srt_small{s:Service}{l:List Pod}(hp:∀p∈l,PW p)(hl:l.length≤20):smallE (srt (its s l)):=by
 have h1:=its_len s l
 have h2:=srt_len (its s l)
 refine⟨by omega,fun x hx=>?_⟩
 have hx2:=(srt_perm (its s l)).mem_iff.1 hx
 unfold its at hx2
 obtain⟨p,hpm,rfl⟩:=List.mem_map.1 hx2
 exact key_size (hp p (List.mem_filter.1 hpm).1)
theorem all_rem{E:List Endpoint}(h:Up E):(Sdf (pA []) E).length=E.length:=by
 have e:Sdf (pA []) E=E.map (·.Pod):=by
  refine pw_uniq (S_pw _ _) (List.pairwise_map.2 h) fun z=>?_
  rw[S_mem]
  have h1:pA [] z=true:=rfl
  rw[h1]
  simp only[true_and]
  unfold has fst1
  rw[List.find?_isSome]
  simp
 rw[e,List.length_map]
theorem EndpointsOrder_pure:EndpointsOrder.Pure:=by
 intro s pods at_ h1 h2 h3 hw
 obtain⟨hm,hsel,hpo⟩:=svc_ok (s:=s) (by omega)
 have hp:=pods_ok (l:=pods) (by omega)
 obtain⟨a,ha⟩:=small_ex hm hsel.1
 obtain⟨b,hb,hb2⟩:=pods_ex hp
 have hlen:=wL_len (w:=wPod) (fun a=>by unfold wPod;omega) pods
 obtain⟨d,hd,hd2⟩:=dist_t hp (by omega)
 rw[F6,ha,Option.bind_some,hb,hd,lives_t]
 cases a
 case false=>rfl
 cases b
 case false=>rfl
 cases d
 case false=>rfl
 have hl:=hb2 rfl
 have hkd:=its_kd s (hd2 rfl)
 have hil:=its_len s pods
 have hsl:=srt_len (its s pods)
 have hup:=srt_up hkd
 simp only[show nb true=false from rfl,Bool.false_eq_true,if_false,Option.bind_some]
 rw[of_t hsel hpo hp hl,Option.bind_some]
 have e10:(if 0<(pods.length:Int)then(ck ((pods.length:Int)≠0)).bind fun u12=>(((slI pods (((IntKind.i64.wrap at_).tmod (pods.length:Int))) (pods.length:Int)).bind fun s14=>(apI ([]:List Pod) s14).bind fun a15=>(slI pods 0 (((IntKind.i64.wrap at_).tmod (pods.length:Int)))).bind fun s16=>(apI a15 s16).bind fun a17=>some a17).bind fun o13=>(F10 s o13).bind fun t18=>(F13 t18.2 (srt (its s pods))).bind fun t19=>(if(nb t19)=true then(some false).map Sum.inl else(((rdI pods (((IntKind.i64.wrap at_).tmod (pods.length:Int)))).bind fun y22=>(F18 s.Selector y22.Meta.Labels).bind fun t23=>(if(nb t23)=true then(slI pods 0 (((IntKind.i64.wrap at_).tmod (pods.length:Int)))).bind fun s25=>(apI ([]:List Pod) s25).bind fun a26=>(slI pods (IntKind.i64.wrap (((IntKind.i64.wrap at_).tmod (pods.length:Int))+1)) (pods.length:Int)).bind fun s27=>(apI a26 s27).bind fun a28=>(F10 s a28).bind fun t29=>(F13 t29.2 (srt (its s pods))).bind fun t30=>some (nb t30)else some false)).bind fun o21=>(if o21=true then(some false).map Sum.inl else some (Sum.inr ())))))else some (Sum.inr ()):Option (Bool ⊕ Unit))=some (.inr ()):=by
  by_cases g:0<(pods.length:Int)
  ·obtain⟨k,hk,hkl⟩:∃k:Nat,(IntKind.i64.wrap at_).tmod (pods.length:Int)=(k:Int)∧k<pods.length:=by
    obtain⟨m,hm⟩:∃m:Nat,at_=m:=⟨at_.toNat,by have:=h3.1;omega⟩
    have:=h3.2
    refine⟨m%pods.length,?_,Nat.mod_lt _ (by omega)⟩
    rw[wrapI (by omega) (by omega),hm]
    rfl
   have hy:pods[k]? =some pods[k]:=List.getElem?_eq_getElem hkl
   rw[if_pos g,hk,ck_t (by omega),Option.bind_some,slI_t (by omega) (Nat.le_refl _),Option.bind_some,List.take_of_length_le (l:=pods.drop k) (by simp),apI_t (by simp;omega),Option.bind_some,show(0:Int)=((0:Nat):Int)from rfl,slI_t (Nat.zero_le _) (by omega),Option.bind_some,List.nil_append,List.drop_zero,Nat.sub_zero,apI_t (by simp;omega)]
   simp only[Option.bind_some]
   have hpt:∀p∈pods.drop k++pods.take k,PW p:=fun p hpm=>by
    rcases List.mem_append.1 hpm with h|h
    ·exact hp p (List.mem_of_mem_drop h)
    ·exact hp p (List.mem_of_mem_take h)
   have hperm:(its s (pods.drop k++pods.take k)).Perm (its s pods):=by
    have:(pods.drop k++pods.take k).Perm pods:=by
     refine(List.perm_append_comm).trans ?_
     rw[List.take_append_drop]
    unfold its
    exact(this.filter _).map _
   rw[of_t hsel hpo hpt (by simp;omega)]
   simp only[Option.bind_some]
   rw[srt_eq hkd hperm,same_t (by omega)]
   simp only[Option.bind_some,show nb true=false from rfl,Bool.false_eq_true,if_false]
   have hpk:=(hp _ (List.mem_of_getElem? hy)).m
   rw[rdI_val hy,Option.bind_some,rmat_eq,mat_t hsel hpk.labels]
   simp only[Option.bind_some]
   cases hmt:matB s.Selector pods[k].Meta.Labels with
   |true=>rfl
   |false=>
    rw[if_pos (by simp[nb_not]),apI_t (by simp;omega),Option.bind_some,List.nil_append,wrapN (by omega),slI_t (by omega) (Nat.le_refl _),Option.bind_some,List.take_of_length_le (l:=pods.drop (k+1)) (by simp),apI_t (by simp;omega)]
    simp only[Option.bind_some]
    have hpt2:∀p∈pods.take k++pods.drop (k+1),PW p:=fun p hpm=>by
     rcases List.mem_append.1 hpm with h|h
     ·exact hp p (List.mem_of_mem_take h)
     ·exact hp p (List.mem_of_mem_drop h)
    have hits:its s (pods.take k++pods.drop (k+1))=its s pods:=by
     have hsp:pods=pods.take k++pods[k]::pods.drop (k+1):=by
      rw[←List.drop_eq_getElem_cons hkl,List.take_append_drop]
     have hps:pselB s pods[k]=false:=by unfold pselB;rw[hmt];simp
     conv=>rhs;rw[hsp]
     rw[its_app,its_app,its_cons,if_neg (by simp[hps])]
     rfl
    rw[of_t hsel hpo hpt2 (by simp;omega)]
    simp only[Option.bind_some]
    rw[hits,same_t (by omega)]
    rfl
  ·rw[if_neg g]
 have e0:F10 s []=some (s.Ports,[]):=of_t hsel hpo (fun _ h=>by cases h) (by simp)
 have ed:=F14_t (⟨⟨⟨#[69,110,100,112,111,105,110,116,83,101,116]⟩,s.Meta.Namespace,s.Meta.Name,0,0,0,0,false,0,[],[],[],[]⟩,s.Ports,srt (its s pods)⟩:EndpointSet) (⟨⟨⟨#[69,110,100,112,111,105,110,116,83,101,116]⟩,s.Meta.Namespace,s.Meta.Name,0,0,0,0,false,0,[],[],[],[]⟩,s.Ports,[]⟩:EndpointSet) (srt_small hp hl) ⟨by simp,fun x hx=>by cases hx⟩
 show(Option.bind _ _)=_
 rw[e10,Option.bind_some]
 show Option.bind (F10 s []) _=_
 rw[e0,Option.bind_some]
 rw[ed,Option.bind_some]
 show(if((Sdf (pA (srt (its s pods))) []).length:Int)=0 then(if((Sdf (pA []) (srt (its s pods))).length:Int)=((srt (its s pods)).length:Int)then(if((Sdf (pC (srt (its s pods)) []) []).length:Int)=0 then _ else _)else _)else _:Option Bool).bind _=_
 have z1:((Sdf (pA (srt (its s pods))) []).length:Int)=0:=rfl
 have z2:((Sdf (pC (srt (its s pods)) []) []).length:Int)=0:=rfl
 rw[all_rem hup,if_pos z1,if_pos rfl,if_pos z2]
 rfl
end Go.Proofs.Ytfkkccgopmcnaaa
