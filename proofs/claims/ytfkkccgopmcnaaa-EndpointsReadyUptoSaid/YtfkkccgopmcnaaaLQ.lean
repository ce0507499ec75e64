/- The plain law. -/
import Derived.Test.YtfkkccgopmcnaaaLP
import Derived.Test.YtfkkccgopmcnaaaFP
import Derived.KernelRfl
set_option linter.unusedVariables false
set_option linter.unusedSimpArgs false
namespace Go.Proofs.Ytfkkccgopmcnaaa
open Go Go.Fw
set_option maxRecDepth 100000
set_option linter.unusedVariables false
set_option linter.unusedSimpArgs false
section
variable {α:Type}
end
theorem scmp_neg(a b:ByteArray):scmp a b<0↔lt a b:=by
 unfold scmp
 by_cases h:lt a b
 ·simp[h]
 ·rw[if_neg h]
  by_cases h2:a=b
  ·rw[if_pos h2];simp[h]
  ·rw[if_neg h2];simp[h]
theorem lt_dec(a b:ByteArray):lt a b∨a=b∨lt b a:=by
 by_cases h:a=b
 ·exact .inr (.inl h)
 ·rcases lt_total h with h|h
  ·exact .inl h
  ·exact .inr (.inr h)
theorem exb{α β:Type}{e:Option α}{f:α→Option β}(h:∃a,e=some a)(hf:∀a,e=some a→∃r,f a=some r):∃r,e.bind f=some r:=by
 obtain⟨a,ha⟩:=h;obtain⟨r,hr⟩:=hf a ha;exact⟨r,by rw[ha];exact hr⟩
theorem exif{α:Type}{p:Prop}[Decidable p]{a b:Option α}(h1:p→∃r,a=some r)(h2:¬p→∃r,b=some r):∃r,(if p then a else b)=some r:=by
 by_cases h:p
 ·rw[if_pos h];exact h1 h
 ·rw[if_neg h];exact h2 h
theorem exmap{α β:Type}{e:Option α}{f:α→β}(h:∃a,e=some a):∃r,e.map f=some r:=by
 obtain⟨a,ha⟩:=h;exact⟨f a,by rw[ha];rfl⟩
theorem exck{p:Prop}[Decidable p](h:p):∃r,ck p=some r:=⟨(),ck_t h⟩
theorem byI_ex{b:ByteArray}{i:Int}(h:0≤i)(h2:i<b.size):∃y,byI b i=some y:=by
 obtain⟨n,rfl⟩:∃n:Nat,i=n:=⟨i.toNat,by omega⟩
 have hs:n<b.size:=by omega
 exact⟨(b[n].toNat:Int),by unfold byI;rw[if_pos (by omega)];simp[hs]⟩
theorem rdI_ex{α:Type}{l:List α}{i:Int}(h:0≤i)(h2:i<l.length):∃y,rdI l i=some y:=by
 obtain⟨n,rfl⟩:∃n:Nat,i=n:=⟨i.toNat,by omega⟩
 exact⟨_,rdI_at (by omega)⟩
theorem apI_ex{α:Type}{xs ys:List α}(h:xs.length+ys.length≤4294967290):∃y,apI xs ys=some y:=⟨_,apI_t h⟩
theorem rdI_val{α:Type}{l:List α}{i:Nat}{y:α}(h:l[i]? =some y):rdI l (i:Int)=some y:=by rw[rdI_nat];exact h
theorem drop_hd{α:Type}{l:List α}{i:Nat}{x:α}{xs:List α}(e:l.drop i=x::xs):l[i]? =some x:=by rw[←List.head?_drop,e];rfl
theorem drop_tl{α:Type}{l:List α}{i:Nat}{x:α}{xs:List α}(e:l.drop i=x::xs):l.drop (i+1)=xs:=by
 rw[←List.drop_drop,e];rfl
theorem cl_t{α:Type}{l:List α}(h:l.length≤4294967290):cloneI l=some l:=if_pos h
theorem catI_t{a b:ByteArray}(h:a.size+b.size≤9223372036854775807):catI a b=some (a++b):=if_pos h
theorem bsize(a b:ByteArray):(a++b).size=a.size+b.size:=ByteArray.size_append
theorem wr_p{i:Nat}(h:0<(i:Int))(h2:i≤4294967296):IntKind.i64.wrap ((i:Int)-1)=((i-1:Nat):Int):=by rw[wrapI (by omega) (by omega)];omega
theorem wL_mem{α:Type}{w:α→Nat}{x:α}:∀{l:List α},x∈l→w x+1≤wL w l
 |[],h=>by cases h
 |y::l,h=>by
  unfold wL
  simp only[List.map_cons,List.sum_cons]
  rcases List.mem_cons.1 h with rfl|h
  ·omega
  ·have:=wL_mem (w:=w) h;unfold wL at this;omega
open Go Go.Fw
set_option maxRecDepth 100000
set_option linter.unusedVariables false
set_option linter.unusedSimpArgs false
def keyB(m:Meta):ByteArray:=(((m.Kind++(⟨#[47]⟩:ByteArray))++m.Namespace)++(⟨#[47]⟩:ByteArray))++m.Name
theorem sl1:(⟨#[47]⟩:ByteArray).size=1:=rfl
theorem KeyOf_t{m:Meta}(h:m.Kind.size+m.Namespace.size+m.Name.size≤4000000):F26 m=some (keyB m):=by
 rw[F26,F43,catI_t (by rw[sl1];omega),Option.bind_some,catI_t (by rw[bsize,sl1];omega),Option.bind_some,catI_t (by rw[bsize,bsize,sl1];omega),Option.bind_some,catI_t (by rw[bsize,bsize,bsize,sl1];omega)]
 rfl
theorem rKeyOf_t{m:Meta}(h:m.Kind.size+m.Namespace.size+m.Name.size≤4000000):F19 m=some (keyB m):=KeyOf_t h
theorem lget_l1(k:ByteArray):∀(l:List Label) (i:Nat),∃r,F73_l1 k l i=some r
 |[],i=>⟨_,by rw[F73_l1]⟩
 |x::l,i=>by
  rw[F73_l1]
  have ih:=lget_l1 k l (i+1)
  repeat'(first|exact⟨_,rfl⟩|exact ih|exact exck (by omega)|exact byI_ex (by omega) (by omega)|exact rdI_ex (by omega) (by omega)|exact apI_ex (by omega)|with_reducible refine exif (fun _=>?_) (fun _=>?_)|with_reducible refine exb ?_ (fun _ _=>?_)|with_reducible refine exmap ?_|split)
theorem lget_ex{l:List Label}(k:ByteArray)(hl:l.length≤4000000):∃r,F73 l k=some r:=by
 rw[F73]
 have g:=lget_l1 k l 0
 repeat'(first|exact⟨_,rfl⟩|exact g|exact exck (by omega)|exact byI_ex (by omega) (by omega)|exact rdI_ex (by omega) (by omega)|exact apI_ex (by omega)|with_reducible refine exif (fun _=>?_) (fun _=>?_)|with_reducible refine exb ?_ (fun _ _=>?_)|with_reducible refine exmap ?_|split)
theorem idx_l1(k:ByteArray):∀(l:List ByteArray) (i:Nat),∃r,F91_l1 k l i=some r
 |[],i=>⟨_,by rw[F91_l1]⟩
 |x::l,i=>by
  rw[F91_l1]
  have ih:=idx_l1 k l (i+1)
  repeat'(first|exact⟨_,rfl⟩|exact ih|exact exck (by omega)|exact byI_ex (by omega) (by omega)|exact rdI_ex (by omega) (by omega)|exact apI_ex (by omega)|with_reducible refine exif (fun _=>?_) (fun _=>?_)|with_reducible refine exb ?_ (fun _ _=>?_)|with_reducible refine exmap ?_|split)
theorem cont_ex{l:List ByteArray}(k:ByteArray)(hl:l.length≤4000000):∃r,F74 l k=some r:=by
 rw[F74,F91]
 have g:=idx_l1 k l 0
 repeat'(first|exact⟨_,rfl⟩|exact g|exact exck (by omega)|exact byI_ex (by omega) (by omega)|exact rdI_ex (by omega) (by omega)|exact apI_ex (by omega)|with_reducible refine exif (fun _=>?_) (fun _=>?_)|with_reducible refine exb ?_ (fun _ _=>?_)|with_reducible refine exmap ?_|split)
theorem holds_ex{r:Requirement}{l:List Label}(h1:r.Values.length≤4000000)(hl:l.length≤4000000):∃b,F54 r l=some b:=by
 rw[F54]
 have g:=lget_ex r.Key hl
 have g2:=fun k=>cont_ex (l:=r.Values) k h1
 repeat'(first|exact⟨_,rfl⟩|exact g|exact g2 _|exact exck (by omega)|exact byI_ex (by omega) (by omega)|exact rdI_ex (by omega) (by omega)|exact apI_ex (by omega)|with_reducible refine exif (fun _=>?_) (fun _=>?_)|with_reducible refine exb ?_ (fun _ _=>?_)|with_reducible refine exmap ?_|split)
theorem mat_l1{l:List Label}(hl:l.length≤4000000):∀(sel:List Requirement) (i:Nat),(∀r∈sel,r.Values.length≤4000000)→∃b,F42_l1 l sel i=some b
 |[],i,_=>⟨_,by rw[F42_l1]⟩
 |x::sel,i,h=>by
  rw[F42_l1]
  have ih:=mat_l1 hl sel (i+1) fun r hr=>h r (List.mem_cons_of_mem _ hr)
  have g:=holds_ex (h x (List.mem_cons_self ..)) hl
  repeat'(first|exact⟨_,rfl⟩|exact ih|exact g|exact exck (by omega)|exact byI_ex (by omega) (by omega)|exact rdI_ex (by omega) (by omega)|exact apI_ex (by omega)|with_reducible refine exif (fun _=>?_) (fun _=>?_)|with_reducible refine exb ?_ (fun _ _=>?_)|with_reducible refine exmap ?_|split)
def selOk(sel:List Requirement):Prop:=sel.length≤4000000∧∀r∈sel,r.Values.length≤4000000
def matB(sel:List Requirement)(l:List Label):Bool:=(F42 sel l).getD false
theorem mat_t{sel:List Requirement}{l:List Label}(h:selOk sel)(hl:l.length≤4000000):F42 sel l=some (matB sel l):=by
 have:∃b,F42 sel l=some b:=by
  rw[F42]
  have g:=mat_l1 hl sel 0 h.2
  have:=h.1
  repeat'(first|exact⟨_,rfl⟩|exact g|exact exck (by omega)|exact byI_ex (by omega) (by omega)|exact rdI_ex (by omega) (by omega)|exact apI_ex (by omega)|with_reducible refine exif (fun _=>?_) (fun _=>?_)|with_reducible refine exb ?_ (fun _ _=>?_)|with_reducible refine exmap ?_|split)
 obtain⟨b,hb⟩:=this
 unfold matB;rw[hb];rfl
theorem rlget_l1(k:ByteArray):∀(l:List Label) (i:Nat),F49_l1 k l i=F73_l1 k l i
 |[],i=>by rw[F49_l1,F73_l1]
 |x::l,i=>by rw[F49_l1,F73_l1,rlget_l1 k l]
theorem rlget(l:List Label)(k:ByteArray):F49 l k=F73 l k:=by
 rw[F49,F73]
 simp only[rlget_l1]<;>rfl
theorem among_l1(k:ByteArray):∀(l:List ByteArray) (i:Nat),(k∈l→F50_l1 k l i=some (.inl true)∧∃j:Nat,i≤j∧j<i+l.length∧F91_l1 k l i=some (.inl (j:Int)))∧(k∉l→F50_l1 k l i=some (.inr ())∧F91_l1 k l i=some (.inr ()))
 |[],i=>⟨fun h=>(by cases h),fun _=>⟨by rw[F50_l1],by rw[F91_l1]⟩⟩
 |x::l,i=>by
  rw[F50_l1,F91_l1]
  obtain⟨a,b⟩:=among_l1 k l (i+1)
  by_cases hx:x=k
  ·subst hx
   simp only[if_true]
   exact⟨fun _=>⟨rfl,i,by omega,by simp,rfl⟩,fun h=>(h (List.mem_cons_self ..)).elim⟩
  ·have hk:¬k=x:=fun e=>hx e.symm
   simp only[hx,hk,if_false]
   refine⟨fun h=>?_,fun h=>?_⟩
   ·have h2:k∈l:=(List.mem_cons.1 h).resolve_left hk
    obtain⟨c,j,j1,j2,d⟩:=a h2
    exact⟨c,j,by omega,by simp only[List.length_cons];omega,d⟩
   ·have h2:k∉l:=fun hh=>h (List.mem_cons_of_mem _ hh)
    exact b h2
theorem among_eq(l:List ByteArray)(k:ByteArray):F50 l k=F74 l k:=by
 rw[F50,F74,F91]
 obtain⟨a,b⟩:=among_l1 k l 0
 by_cases hk:k∈l
 ·obtain⟨c,j,j1,j2,d⟩:=a hk
  rw[c,d]
  unfold ck
  split
  ·simp
  ·rfl
 ·obtain⟨c,d⟩:=b hk
  rw[c,d]
  unfold ck
  split
  ·simp
  ·rfl
theorem rholds_eq(r:Requirement)(l:List Label):F38 r l=F54 r l:=by
 rw[F38,F54,rlget]
 congr 1;funext t
 simp only[among_eq]
 by_cases h1:r.Op=1
 ·simp only[if_pos h1]
 by_cases h2:r.Op=2
 ·simp only[if_neg h1,if_pos h2]
 by_cases h3:r.Op=3
 ·have h4:¬r.Op=4:=by omega
  simp only[if_neg h1,if_neg h2,if_pos h3,if_neg h4]
  cases t.2<;>rfl
 simp only[if_neg h1,if_neg h2,if_neg h3]
 split<;>rfl
theorem rmat_l1(l:List Label):∀(sel:List Requirement) (i:Nat),F18_l1 l sel i=F42_l1 l sel i
 |[],i=>by rw[F18_l1,F42_l1]
 |x::sel,i=>by rw[F18_l1,F42_l1,rholds_eq,rmat_l1 l sel]
theorem rmat_eq(sel:List Requirement)(l:List Label):F18 sel l=F42 sel l:=by
 rw[F18,F42]
 simp only[rmat_l1]<;>rfl
theorem sm_l7:∀(l:List Label) (i:Nat),∃r,F21_l7 l i=some r
 |[],i=>⟨_,by rw[F21_l7]⟩
 |x::l,i=>by
  rw[F21_l7]
  have ih:=sm_l7 l (i+1)
  repeat'(first|exact⟨_,rfl⟩|exact ih|exact exck (by omega)|exact byI_ex (by omega) (by omega)|exact rdI_ex (by omega) (by omega)|exact apI_ex (by omega)|with_reducible refine exif (fun _=>?_) (fun _=>?_)|with_reducible refine exb ?_ (fun _ _=>?_)|with_reducible refine exmap ?_|split)
theorem sm_l11:∀(l:List Owner) (i:Nat),∃r,F21_l11 l i=some r
 |[],i=>⟨_,by rw[F21_l11]⟩
 |x::l,i=>by
  rw[F21_l11]
  have ih:=sm_l11 l (i+1)
  repeat'(first|exact⟨_,rfl⟩|exact ih|exact exck (by omega)|exact byI_ex (by omega) (by omega)|exact rdI_ex (by omega) (by omega)|exact apI_ex (by omega)|with_reducible refine exif (fun _=>?_) (fun _=>?_)|with_reducible refine exb ?_ (fun _ _=>?_)|with_reducible refine exmap ?_|split)
theorem sm_l15:∀(l:List ByteArray) (i:Nat),∃r,F21_l15 l i=some r
 |[],i=>⟨_,by rw[F21_l15]⟩
 |x::l,i=>by
  rw[F21_l15]
  have ih:=sm_l15 l (i+1)
  repeat'(first|exact⟨_,rfl⟩|exact ih|exact exck (by omega)|exact byI_ex (by omega) (by omega)|exact rdI_ex (by omega) (by omega)|exact apI_ex (by omega)|with_reducible refine exif (fun _=>?_) (fun _=>?_)|with_reducible refine exb ?_ (fun _ _=>?_)|with_reducible refine exmap ?_|split)
theorem sm_l24:∀(l:List ByteArray) (i:Nat),∃r,F21_l24 l i=some r
 |[],i=>⟨_,by rw[F21_l24]⟩
 |x::l,i=>by
  rw[F21_l24]
  have ih:=sm_l24 l (i+1)
  repeat'(first|exact⟨_,rfl⟩|exact ih|exact exck (by omega)|exact byI_ex (by omega) (by omega)|exact rdI_ex (by omega) (by omega)|exact apI_ex (by omega)|with_reducible refine exif (fun _=>?_) (fun _=>?_)|with_reducible refine exb ?_ (fun _ _=>?_)|with_reducible refine exmap ?_|split)
theorem sm_l19:∀(l:List Manager) (i:Nat),(∀m∈l,m.Fields.length≤4000000)→∃r,F21_l19 l i=some r
 |[],i,_=>⟨_,by rw[F21_l19]⟩
 |x::l,i,h=>by
  rw[F21_l19]
  have ih:=sm_l19 l (i+1) fun m hm=>h m (List.mem_cons_of_mem _ hm)
  have h1:=h x (List.mem_cons_self ..)
  have g:=sm_l24 x.Fields 0
  repeat'(first|exact⟨_,rfl⟩|exact ih|exact g|exact exck (by omega)|exact byI_ex (by omega) (by omega)|exact rdI_ex (by omega) (by omega)|exact apI_ex (by omega)|with_reducible refine exif (fun _=>?_) (fun _=>?_)|with_reducible refine exb ?_ (fun _ _=>?_)|with_reducible refine exmap ?_|split)
structure MW(m:Meta):Prop where
 key:m.Kind.size+m.Namespace.size+m.Name.size≤4000000
 labels:m.Labels.length≤4000000
 owners:m.Owners.length≤4000000
 fins:m.Finalizers.length≤4000000
 mans:m.Managers.length≤4000000
 man:∀x∈m.Managers,x.Fields.length≤4000000
theorem mW{m:Meta}(h:wMeta m≤4000000):MW m:=by
 unfold wMeta at h
 have a1:=wL_len (w:=wLabel) (fun a=>by unfold wLabel;omega) m.Labels
 have a2:=wL_len (w:=wOwner) (fun a=>by unfold wOwner;omega) m.Owners
 have a3:=wL_len (w:=wS) (fun a=>by unfold wS;omega) m.Finalizers
 have a4:=wL_len (w:=wManager) (fun a=>by unfold wManager;omega) m.Managers
 refine⟨?_,by omega,by omega,by omega,by omega,fun x hx=>?_⟩
 ·unfold wS at h;omega
 ·have b1:=wL_mem (w:=wManager) hx
  unfold wManager at b1
  have b2:=wL_len (w:=wS) (fun a=>by unfold wS;omega) x.Fields
  unfold wManager at h
  omega
theorem smeta_ex{m:Meta}(h:MW m):∃r,F21 m=some r:=by
 rw[F21]
 have h1:=h.labels;have h2:=h.owners;have h3:=h.fins;have h4:=h.mans
 have g1:=sm_l7 m.Labels 0
 have g2:=sm_l11 m.Owners 0
 have g3:=sm_l15 m.Finalizers 0
 have g4:=sm_l19 m.Managers 0 h.man
 repeat'(first|exact⟨_,rfl⟩|exact g1|exact g2|exact g3|exact g4|exact exck (by omega)|exact byI_ex (by omega) (by omega)|exact rdI_ex (by omega) (by omega)|exact apI_ex (by omega)|with_reducible refine exif (fun _=>?_) (fun _=>?_)|with_reducible refine exb ?_ (fun _ _=>?_)|with_reducible refine exmap ?_|split)
theorem rs_l2:∀(l:List Requirement) (i:Nat),∃r,F20_l2 l i=some r
 |[],i=>⟨_,by rw[F20_l2]⟩
 |x::l,i=>by
  rw[F20_l2]
  have ih:=rs_l2 l (i+1)
  repeat'(first|exact⟨_,rfl⟩|exact ih|exact exck (by omega)|exact byI_ex (by omega) (by omega)|exact rdI_ex (by omega) (by omega)|exact apI_ex (by omega)|with_reducible refine exif (fun _=>?_) (fun _=>?_)|with_reducible refine exb ?_ (fun _ _=>?_)|with_reducible refine exmap ?_|split)
theorem small_ex{s:Service}(h:MW s.Meta)(hs:s.Selector.length≤4000000):∃r,F7 s=some r:=by
 rw[F7,F20]
 have g1:=rs_l2 s.Selector 0
 have g2:=smeta_ex h
 repeat'(first|exact⟨_,rfl⟩|exact g1|exact g2|exact exck (by omega)|exact byI_ex (by omega) (by omega)|exact rdI_ex (by omega) (by omega)|exact apI_ex (by omega)|with_reducible refine exif (fun _=>?_) (fun _=>?_)|with_reducible refine exb ?_ (fun _ _=>?_)|with_reducible refine exmap ?_|split)
def Okv:Nat→TValue→Prop
 |0,_=>False
 |d+1,v=>v.List_.length≤4000000∧v.Fields.length≤4000000∧(∀y∈v.List_,Okv d y)∧∀f∈v.Fields,Okv d f.V
theorem left_l1(rc:TValue→Int→Option Int)(v:TValue)(hl:v.List_.length≤4000000)(h:∀y∈v.List_,∀n,∃r,rc y n=some r):∀(m k i:Nat) (a:Int),v.List_.length≤i+m→i≤4000000→m<k→∃r,F53_l1 rc v k a (i:Int)=some r
 |0,k+1,i,a,h1,_,_=>by rw[F53_l1,if_neg (by omega)];exact⟨_,rfl⟩
 |m+1,k+1,i,a,h1,h2,h3=>by
  rw[F53_l1]
  by_cases hi:(i:Int)<(v.List_.length:Int)
  ·rw[if_pos hi,wrapN (by omega),rdI_at (by omega),Option.bind_some]
   obtain⟨w,hw⟩:=h v.List_[i] (List.getElem_mem _) a
   have ih:=fun n=>left_l1 rc v hl h m k (i+1) n (by omega) (by omega) (by omega)
   rw[Option.bind_some,hw,Option.bind_some]
   split
   ·exact ih _
   ·exact⟨_,rfl⟩
  ·rw[if_neg hi];exact⟨_,rfl⟩
theorem left_l7(rc:TValue→Int→Option Int)(v:TValue)(hl:v.Fields.length≤4000000)(h:∀y∈v.Fields,∀n,∃r,rc y.V n=some r):∀(m k i:Nat) (a:Int),v.Fields.length≤i+m→i≤4000000→m<k→∃r,F53_l7 rc v k a (i:Int)=some r
 |0,k+1,i,a,h1,_,_=>by rw[F53_l7,if_neg (by omega)];exact⟨_,rfl⟩
 |m+1,k+1,i,a,h1,h2,h3=>by
  rw[F53_l7]
  by_cases hi:(i:Int)<(v.Fields.length:Int)
  ·rw[if_pos hi,wrapN (by omega),rdI_at (by omega),Option.bind_some]
   obtain⟨w,hw⟩:=h v.Fields[i] (List.getElem_mem _) (IntKind.i64.wrap (a-(v.Fields[i].Name.size:Int)))
   have ih:=fun n=>left_l7 rc v hl h m k (i+1) n (by omega) (by omega) (by omega)
   rw[Option.bind_some,hw,Option.bind_some]
   split
   ·exact ih _
   ·exact⟨_,rfl⟩
  ·rw[if_neg hi];exact⟨_,rfl⟩
theorem left_ex:∀(d k:Nat) (v:TValue) (n:Int),Okv d v→d≤k→∃r,F53k k v n=some r
 |d+1,k+1,v,n,⟨h1,h2,h3,h4⟩,hk=>by
  rw[F53k,F53]
  refine exb (left_l1 _ v h1 (fun y hy n=>left_ex d k y n (h3 y hy) (by omega)) v.List_.length 1099511627776 0 _ (by omega) (by omega) (by omega)) fun a _=>?_
  refine exb (left_l7 _ v h2 (fun y hy n=>left_ex d k y.V n (h4 y hy) (by omega)) v.Fields.length 1099511627776 0 _ (by omega) (by omega) (by omega)) fun a _=>⟨_,rfl⟩
theorem few_ex{v:TValue}{d:Nat}(n:Int)(h:Okv d v)(hd:d≤100):∃r,F41 v n=some r:=by
 rw[F41]
 have:=left_ex d 1099511627776 v n h (by omega)
 repeat'(first|exact⟨_,rfl⟩|exact this|exact exck (by omega)|exact byI_ex (by omega) (by omega)|exact rdI_ex (by omega) (by omega)|exact apI_ex (by omega)|with_reducible refine exif (fun _=>?_) (fun _=>?_)|with_reducible refine exb ?_ (fun _ _=>?_)|with_reducible refine exmap ?_|split)
open Go Go.Fw
set_option maxRecDepth 100000
set_option linter.unusedVariables false
set_option linter.unusedSimpArgs false
theorem Okv.up:∀{d:Nat} {v:TValue},Okv d v→Okv (d+1) v
 |d+1,v,⟨h1,h2,h3,h4⟩=>⟨h1,h2,fun y hy=>Okv.up (h3 y hy),fun f hf=>Okv.up (h4 f hf)⟩
theorem okv0(d:Nat)(k n:Int)(s:ByteArray):Okv (d+1) ⟨k,n,s,[],[]⟩:=⟨by simp,by simp,fun y hy=>(by cases hy),fun f hf=>(by cases hf)⟩
theorem okvL{d:Nat}{l:List TValue}(k n:Int)(s:ByteArray)(h:l.length≤4000000)(h2:∀y∈l,Okv d y):Okv (d+1) ⟨k,n,s,l,[]⟩:=⟨h,by simp,h2,fun f hf=>by cases hf⟩
theorem okvF{d:Nat}{l:List TField}(k n:Int)(s:ByteArray)(h:l.length≤4000000)(h2:∀y∈l,Okv d y.V):Okv (d+1) ⟨k,n,s,[],l⟩:=⟨by simp,h,fun f hf=>(by cases hf),h2⟩
theorem lstep{f:List TValue→Option (List TValue)}{a:List TValue}{z:TValue}{n d:Nat}(ih:∀a:List TValue,a.length+n≤4000000→(∀y∈a,Okv d y)→∃r,f a=some r∧r.length≤a.length+n∧∀y∈r,Okv d y)(hl:a.length+(n+1)≤4000000)(ha:∀y∈a,Okv d y)(hz:Okv d z):∃r,f (a++[z])=some r∧r.length≤a.length+(n+1)∧∀y∈r,Okv d y:=by
 obtain⟨r,r1,r2,r3⟩:=ih (a++[z]) (by simp only[List.length_append,List.length_cons,List.length_nil];omega) fun y hy=>by
  rcases List.mem_append.1 hy with hy|hy
  ·exact ha y hy
  ·rw[List.mem_singleton.1 hy];exact hz
 exact⟨r,r1,by simp only[List.length_append,List.length_cons,List.length_nil]at r2;omega,r3⟩
theorem truth_ex(b:Bool):∃r,F72 b=some r:=by
 rw[F72];split<;>exact⟨_,rfl⟩
theorem res_t(x:Resources):F87 x=some ():=rfl
theorem FromStrings_l1:∀(l:List ByteArray) (i:Nat) (a:List TValue),a.length+l.length≤4000000→(∀y∈a,Okv 1 y)→∃r,F90_l1 l i a=some r∧r.length≤a.length+l.length∧∀y∈r,Okv 1 y
 |[],i,a,hl,ha=>⟨a,by rw[F90_l1],by simp,ha⟩
 |x::l,i,a,hl,ha=>by
  simp only[List.length_cons]at hl⊢
  rw[F90_l1]
  simp only[F61,F62,F64,F65,F89,res_t,Option.bind_some]
  rw[apI_t (by simp only[List.length_cons,List.length_nil];omega),Option.bind_some]
  refine lstep (f:=F90_l1 l (i+1)) (fun a h1 h2=>FromStrings_l1 l (i+1) a h1 h2) hl ha ?_
  exact okv0 _ _ _ _
theorem FromStrings_ex(l:List ByteArray)(h:l.length≤4000000):∃r,F90 l=some r∧r.length≤4000000∧∀y∈r,Okv 1 y:=by
 obtain⟨r,r1,r2,r3⟩:=FromStrings_l1 l 0 [] (by simp;omega) (fun y hy=>by cases hy)
 rw[F90,ck_t (by omega),Option.bind_some,r1]
 exact⟨r,rfl,by simp at r2;omega,r3⟩
def rqOk(r:Requirement):Prop:=r.Values.length≤4000000
theorem FromSelector_l1:∀(l:List Requirement) (i:Nat) (a:List TValue),a.length+l.length≤4000000→(∀x∈l,rqOk x)→(∀y∈a,Okv 3 y)→∃r,F66_l1 l i a=some r∧r.length≤a.length+l.length∧∀y∈r,Okv 3 y
 |[],i,a,hl,_,ha=>⟨a,by rw[F66_l1],by simp,ha⟩
 |x::l,i,a,hl,hx,ha=>by
  simp only[List.length_cons]at hl⊢
  have hc:=hx x (List.mem_cons_self ..)
  obtain⟨t0,ht0,hn0,hv0⟩:=FromStrings_ex x.Values hc
  rw[F66_l1]
  simp only[F61,F62,F64,F65,F89,res_t,Option.bind_some,ht0]
  rw[apI_t (by simp only[List.length_cons,List.length_nil];omega),Option.bind_some]
  refine lstep (f:=F66_l1 l (i+1)) (fun a h1 h2=>FromSelector_l1 l (i+1) a h1 (fun y hy=>hx y (List.mem_cons_of_mem _ hy)) h2) hl ha ?_
  refine okvF _ _ _ (by simp[lit]) fun f hf=>?_
  simp only[lit,List.mem_cons,List.not_mem_nil,or_false]at hf
  rcases hf with rfl|rfl|rfl
  ·exact okv0 _ _ _ _
  ·exact okv0 _ _ _ _
  ·exact okvL _ _ _ hn0 hv0
theorem FromSelector_ex(l:List Requirement)(h:l.length≤4000000)(hx:∀x∈l,rqOk x):∃r,F66 l=some r∧r.length≤4000000∧∀y∈r,Okv 3 y:=by
 obtain⟨r,r1,r2,r3⟩:=FromSelector_l1 l 0 [] (by simp;omega) hx (fun y hy=>by cases hy)
 rw[F66,ck_t (by omega),Option.bind_some,r1]
 exact⟨r,rfl,by simp at r2;omega,r3⟩
def slOk(l:List Requirement):Prop:=l.length≤4000000∧∀r∈l,rqOk r
def ntOk(x:NodeTerm):Prop:=slOk x.Selector
theorem fromNodeTerms_l1:∀(l:List NodeTerm) (i:Nat) (a:List TValue),a.length+l.length≤4000000→(∀x∈l,ntOk x)→(∀y∈a,Okv 5 y)→∃r,F67_l1 l i a=some r∧r.length≤a.length+l.length∧∀y∈r,Okv 5 y
 |[],i,a,hl,_,ha=>⟨a,by rw[F67_l1],by simp,ha⟩
 |x::l,i,a,hl,hx,ha=>by
  simp only[List.length_cons]at hl⊢
  have hc:=hx x (List.mem_cons_self ..)
  obtain⟨b0,hb0⟩:=truth_ex x.Required
  obtain⟨t0,ht0,hn0,hv0⟩:=FromSelector_ex x.Selector hc.1 hc.2
  rw[F67_l1]
  simp only[F61,F62,F64,F65,F89,res_t,Option.bind_some,hb0,ht0]
  rw[apI_t (by simp only[List.length_cons,List.length_nil];omega),Option.bind_some]
  refine lstep (f:=F67_l1 l (i+1)) (fun a h1 h2=>fromNodeTerms_l1 l (i+1) a h1 (fun y hy=>hx y (List.mem_cons_of_mem _ hy)) h2) hl ha ?_
  refine okvF _ _ _ (by simp[lit]) fun f hf=>?_
  simp only[lit,List.mem_cons,List.not_mem_nil,or_false]at hf
  rcases hf with rfl|rfl|rfl
  ·exact okv0 _ _ _ _
  ·exact okvL _ _ _ hn0 hv0
  ·exact okv0 _ _ _ _
theorem fromNodeTerms_ex(l:List NodeTerm)(h:l.length≤4000000)(hx:∀x∈l,ntOk x):∃r,F67 l=some r∧r.length≤4000000∧∀y∈r,Okv 5 y:=by
 obtain⟨r,r1,r2,r3⟩:=fromNodeTerms_l1 l 0 [] (by simp;omega) hx (fun y hy=>by cases hy)
 rw[F67,ck_t (by omega),Option.bind_some,r1]
 exact⟨r,rfl,by simp at r2;omega,r3⟩
def ptOk(x:PodTerm):Prop:=slOk x.Selector
theorem fromPodTerms_l1:∀(l:List PodTerm) (i:Nat) (a:List TValue),a.length+l.length≤4000000→(∀x∈l,ptOk x)→(∀y∈a,Okv 5 y)→∃r,F68_l1 l i a=some r∧r.length≤a.length+l.length∧∀y∈r,Okv 5 y
 |[],i,a,hl,_,ha=>⟨a,by rw[F68_l1],by simp,ha⟩
 |x::l,i,a,hl,hx,ha=>by
  simp only[List.length_cons]at hl⊢
  have hc:=hx x (List.mem_cons_self ..)
  obtain⟨b0,hb0⟩:=truth_ex x.Anti
  obtain⟨b1,hb1⟩:=truth_ex x.Required
  obtain⟨t0,ht0,hn0,hv0⟩:=FromSelector_ex x.Selector hc.1 hc.2
  rw[F68_l1]
  simp only[F61,F62,F64,F65,F89,res_t,Option.bind_some,hb0,hb1,ht0]
  rw[apI_t (by simp only[List.length_cons,List.length_nil];omega),Option.bind_some]
  refine lstep (f:=F68_l1 l (i+1)) (fun a h1 h2=>fromPodTerms_l1 l (i+1) a h1 (fun y hy=>hx y (List.mem_cons_of_mem _ hy)) h2) hl ha ?_
  refine okvF _ _ _ (by simp[lit]) fun f hf=>?_
  simp only[lit,List.mem_cons,List.not_mem_nil,or_false]at hf
  rcases hf with rfl|rfl|rfl|rfl|rfl
  ·exact okv0 _ _ _ _
  ·exact okv0 _ _ _ _
  ·exact okvL _ _ _ hn0 hv0
  ·exact okv0 _ _ _ _
  ·exact okv0 _ _ _ _
theorem fromPodTerms_ex(l:List PodTerm)(h:l.length≤4000000)(hx:∀x∈l,ptOk x):∃r,F68 l=some r∧r.length≤4000000∧∀y∈r,Okv 5 y:=by
 obtain⟨r,r1,r2,r3⟩:=fromPodTerms_l1 l 0 [] (by simp;omega) hx (fun y hy=>by cases hy)
 rw[F68,ck_t (by omega),Option.bind_some,r1]
 exact⟨r,rfl,by simp at r2;omega,r3⟩
def srOk(x:SpreadRule):Prop:=slOk x.Selector
theorem fromSpread_l1:∀(l:List SpreadRule) (i:Nat) (a:List TValue),a.length+l.length≤4000000→(∀x∈l,srOk x)→(∀y∈a,Okv 5 y)→∃r,F69_l1 l i a=some r∧r.length≤a.length+l.length∧∀y∈r,Okv 5 y
 |[],i,a,hl,_,ha=>⟨a,by rw[F69_l1],by simp,ha⟩
 |x::l,i,a,hl,hx,ha=>by
  simp only[List.length_cons]at hl⊢
  have hc:=hx x (List.mem_cons_self ..)
  obtain⟨b0,hb0⟩:=truth_ex x.Required
  obtain⟨t0,ht0,hn0,hv0⟩:=FromSelector_ex x.Selector hc.1 hc.2
  rw[F69_l1]
  simp only[F61,F62,F64,F65,F89,res_t,Option.bind_some,hb0,ht0]
  rw[apI_t (by simp only[List.length_cons,List.length_nil];omega),Option.bind_some]
  refine lstep (f:=F69_l1 l (i+1)) (fun a h1 h2=>fromSpread_l1 l (i+1) a h1 (fun y hy=>hx y (List.mem_cons_of_mem _ hy)) h2) hl ha ?_
  refine okvF _ _ _ (by simp[lit]) fun f hf=>?_
  simp only[lit,List.mem_cons,List.not_mem_nil,or_false]at hf
  rcases hf with rfl|rfl|rfl|rfl
  ·exact okv0 _ _ _ _
  ·exact okv0 _ _ _ _
  ·exact okvL _ _ _ hn0 hv0
  ·exact okv0 _ _ _ _
theorem fromSpread_ex(l:List SpreadRule)(h:l.length≤4000000)(hx:∀x∈l,srOk x):∃r,F69 l=some r∧r.length≤4000000∧∀y∈r,Okv 5 y:=by
 obtain⟨r,r1,r2,r3⟩:=fromSpread_l1 l 0 [] (by simp;omega) hx (fun y hy=>by cases hy)
 rw[F69,ck_t (by omega),Option.bind_some,r1]
 exact⟨r,rfl,by simp at r2;omega,r3⟩
theorem fromTolerations_l1:∀(l:List Toleration) (i:Nat) (a:List TValue),a.length+l.length≤4000000→(∀y∈a,Okv 2 y)→∃r,F70_l1 l i a=some r∧r.length≤a.length+l.length∧∀y∈r,Okv 2 y
 |[],i,a,hl,ha=>⟨a,by rw[F70_l1],by simp,ha⟩
 |x::l,i,a,hl,ha=>by
  simp only[List.length_cons]at hl⊢
  obtain⟨b0,hb0⟩:=truth_ex x.Exists
  rw[F70_l1]
  simp only[F61,F62,F64,F65,F89,res_t,Option.bind_some,hb0]
  rw[apI_t (by simp only[List.length_cons,List.length_nil];omega),Option.bind_some]
  refine lstep (f:=F70_l1 l (i+1)) (fun a h1 h2=>fromTolerations_l1 l (i+1) a h1 h2) hl ha ?_
  refine okvF _ _ _ (by simp[lit]) fun f hf=>?_
  simp only[lit,List.mem_cons,List.not_mem_nil,or_false]at hf
  rcases hf with rfl|rfl|rfl|rfl|rfl
  ·exact okv0 _ _ _ _
  ·exact okv0 _ _ _ _
  ·exact okv0 _ _ _ _
  ·exact okv0 _ _ _ _
  ·exact okv0 _ _ _ _
theorem fromTolerations_ex(l:List Toleration)(h:l.length≤4000000):∃r,F70 l=some r∧r.length≤4000000∧∀y∈r,Okv 2 y:=by
 obtain⟨r,r1,r2,r3⟩:=fromTolerations_l1 l 0 [] (by simp;omega) (fun y hy=>by cases hy)
 rw[F70,ck_t (by omega),Option.bind_some,r1]
 exact⟨r,rfl,by simp at r2;omega,r3⟩
theorem fromStatuses_l1:∀(l:List ContainerStatus) (i:Nat) (a:List TValue),a.length+l.length≤4000000→(∀y∈a,Okv 2 y)→∃r,F71_l1 l i a=some r∧r.length≤a.length+l.length∧∀y∈r,Okv 2 y
 |[],i,a,hl,ha=>⟨a,by rw[F71_l1],by simp,ha⟩
 |x::l,i,a,hl,ha=>by
  simp only[List.length_cons]at hl⊢
  obtain⟨b0,hb0⟩:=truth_ex x.Ready
  obtain⟨b1,hb1⟩:=truth_ex x.Started
  rw[F71_l1]
  simp only[F61,F62,F64,F65,F89,res_t,Option.bind_some,hb0,hb1]
  rw[apI_t (by simp only[List.length_cons,List.length_nil];omega),Option.bind_some]
  refine lstep (f:=F71_l1 l (i+1)) (fun a h1 h2=>fromStatuses_l1 l (i+1) a h1 h2) hl ha ?_
  refine okvF _ _ _ (by simp[lit]) fun f hf=>?_
  simp only[lit,List.mem_cons,List.not_mem_nil,or_false]at hf
  rcases hf with rfl|rfl|rfl|rfl|rfl|rfl|rfl
  ·exact okv0 _ _ _ _
  ·exact okv0 _ _ _ _
  ·exact okv0 _ _ _ _
  ·exact okv0 _ _ _ _
  ·exact okv0 _ _ _ _
  ·exact okv0 _ _ _ _
  ·exact okv0 _ _ _ _
theorem fromStatuses_ex(l:List ContainerStatus)(h:l.length≤4000000):∃r,F71 l=some r∧r.length≤4000000∧∀y∈r,Okv 2 y:=by
 obtain⟨r,r1,r2,r3⟩:=fromStatuses_l1 l 0 [] (by simp;omega) (fun y hy=>by cases hy)
 rw[F71,ck_t (by omega),Option.bind_some,r1]
 exact⟨r,rfl,by simp at r2;omega,r3⟩
theorem fromProbes_l1:∀(l:List Probe) (i:Nat) (a:List TValue),a.length+l.length≤4000000→(∀y∈a,Okv 2 y)→∃r,F88_l1 l i a=some r∧r.length≤a.length+l.length∧∀y∈r,Okv 2 y
 |[],i,a,hl,ha=>⟨a,by rw[F88_l1],by simp,ha⟩
 |x::l,i,a,hl,ha=>by
  simp only[List.length_cons]at hl⊢
  rw[F88_l1]
  simp only[F61,F62,F64,F65,F89,res_t,Option.bind_some]
  rw[apI_t (by simp only[List.length_cons,List.length_nil];omega),Option.bind_some]
  refine lstep (f:=F88_l1 l (i+1)) (fun a h1 h2=>fromProbes_l1 l (i+1) a h1 h2) hl ha ?_
  refine okvF _ _ _ (by simp[lit]) fun f hf=>?_
  simp only[lit,List.mem_cons,List.not_mem_nil,or_false]at hf
  rcases hf with rfl|rfl|rfl|rfl
  ·exact okv0 _ _ _ _
  ·exact okv0 _ _ _ _
  ·exact okv0 _ _ _ _
  ·exact okv0 _ _ _ _
theorem fromProbes_ex(l:List Probe)(h:l.length≤4000000):∃r,F88 l=some r∧r.length≤4000000∧∀y∈r,Okv 2 y:=by
 obtain⟨r,r1,r2,r3⟩:=fromProbes_l1 l 0 [] (by simp;omega) (fun y hy=>by cases hy)
 rw[F88,ck_t (by omega),Option.bind_some,r1]
 exact⟨r,rfl,by simp at r2;omega,r3⟩
theorem okRes(d:Nat)(x:Resources):Okv (d+2) (⟨5,0,(⟨#[]⟩:ByteArray),[],lit [(⟨(⟨#[99,112,117]⟩:ByteArray),⟨2,x.CPU,(⟨#[]⟩:ByteArray),[],[]⟩⟩:TField),(⟨(⟨#[100,105,115,107]⟩:ByteArray),⟨2,x.Disk,(⟨#[]⟩:ByteArray),[],[]⟩⟩:TField),(⟨(⟨#[109,101,109,111,114,121]⟩:ByteArray),⟨2,x.Memory,(⟨#[]⟩:ByteArray),[],[]⟩⟩:TField)]⟩:TValue):=by
 refine okvF _ _ _ (by simp[lit]) fun f hf=>?_
 simp only[lit,List.mem_cons,List.not_mem_nil,or_false]at hf
 rcases hf with rfl|rfl|rfl<;>exact okv0 _ _ _ _
theorem okv_le{d e:Nat}{v:TValue}(h:Okv d v)(hd:d≤e):Okv e v:=by
 obtain⟨k,rfl⟩:∃k,e=d+k:=⟨e-d,by omega⟩
 clear hd
 induction k with
 |zero=>exact h
 |succ k ih=>exact Okv.up ih
def coOk(x:Container):Prop:=x.Live.length≤4000000∧x.Ready.length≤4000000∧x.Startup.length≤4000000
theorem fromContainers_l1:∀(l:List Container) (i:Nat) (a:List TValue),a.length+l.length≤4000000→(∀x∈l,coOk x)→(∀y∈a,Okv 4 y)→∃r,F63_l1 l i a=some r∧r.length≤a.length+l.length∧∀y∈r,Okv 4 y
 |[],i,a,hl,_,ha=>⟨a,by rw[F63_l1],by simp,ha⟩
 |x::l,i,a,hl,hx,ha=>by
  simp only[List.length_cons]at hl⊢
  have hc:=hx x (List.mem_cons_self ..)
  obtain⟨t0,ht0,hn0,hv0⟩:=fromProbes_ex x.Live hc.1
  obtain⟨t1,ht1,hn1,hv1⟩:=fromProbes_ex x.Ready hc.2.1
  obtain⟨t2,ht2,hn2,hv2⟩:=fromProbes_ex x.Startup hc.2.2
  rw[F63_l1]
  simp only[F61,F62,F64,F65,F89,res_t,Option.bind_some,ht0,ht1,ht2]
  rw[apI_t (by simp only[List.length_cons,List.length_nil];omega),Option.bind_some]
  refine lstep (f:=F63_l1 l (i+1)) (fun a h1 h2=>fromContainers_l1 l (i+1) a h1 (fun y hy=>hx y (List.mem_cons_of_mem _ hy)) h2) hl ha ?_
  refine okvF _ _ _ (by simp[lit]) fun f hf=>?_
  simp only[lit,List.mem_cons,List.not_mem_nil,or_false]at hf
  rcases hf with rfl|rfl|rfl|rfl|rfl|rfl|rfl
  ·exact okv0 _ _ _ _
  ·exact okRes _ _
  ·exact okvL _ _ _ hn0 hv0
  ·exact okv0 _ _ _ _
  ·exact okvL _ _ _ hn1 hv1
  ·exact okRes _ _
  ·exact okvL _ _ _ hn2 hv2
theorem fromContainers_ex(l:List Container)(h:l.length≤4000000)(hx:∀x∈l,coOk x):∃r,F63 l=some r∧r.length≤4000000∧∀y∈r,Okv 4 y:=by
 obtain⟨r,r1,r2,r3⟩:=fromContainers_l1 l 0 [] (by simp;omega) hx (fun y hy=>by cases hy)
 rw[F63,ck_t (by omega),Option.bind_some,r1]
 exact⟨r,rfl,by simp at r2;omega,r3⟩
structure PW(p:Pod):Prop where
 m:MW p.Meta
 co:p.Spec.Containers.length≤4000000∧∀x∈p.Spec.Containers,coOk x
 ns:slOk p.Spec.NodeSelector
 nt:p.Spec.NodeTerms.length≤4000000∧∀x∈p.Spec.NodeTerms,ntOk x
 pt:p.Spec.PodTerms.length≤4000000∧∀x∈p.Spec.PodTerms,ptOk x
 sr:p.Spec.Spread.length≤4000000∧∀x∈p.Spec.Spread,srOk x
 to:p.Spec.Tolerations.length≤4000000
 st:p.Status.Containers.length≤4000000
theorem slW{l:List Requirement}(h:wL wRequirement l≤4000000):slOk l:=by
 have a1:=wL_len (w:=wRequirement) (fun a=>by unfold wRequirement;omega) l
 refine⟨by omega,fun r hr=>?_⟩
 have b1:=wL_mem (w:=wRequirement) hr
 have b2:=wL_len (w:=wS) (fun a=>by unfold wS;omega) r.Values
 unfold wRequirement at b1 h
 unfold rqOk
 omega
theorem pW{p:Pod}(h:wPod p≤4000000):PW p:=by
 unfold wPod wPodSpec wPodStatus at h
 have a1:=wL_len (w:=wContainer) (fun a=>by unfold wContainer;omega) p.Spec.Containers
 have a2:=wL_len (w:=wNodeTerm) (fun a=>by unfold wNodeTerm;omega) p.Spec.NodeTerms
 have a3:=wL_len (w:=wPodTerm) (fun a=>by unfold wPodTerm;omega) p.Spec.PodTerms
 have a4:=wL_len (w:=wSpreadRule) (fun a=>by unfold wSpreadRule;omega) p.Spec.Spread
 have a5:=wL_len (w:=wToleration) (fun a=>by unfold wToleration;omega) p.Spec.Tolerations
 have a6:=wL_len (w:=wContainerStatus) (fun a=>by unfold wContainerStatus;omega) p.Status.Containers
 refine⟨mW (by omega),⟨by omega,fun x hx=>?_⟩,slW (by omega),⟨by omega,fun x hx=>?_⟩,⟨by omega,fun x hx=>?_⟩,⟨by omega,fun x hx=>?_⟩,by omega,by omega⟩
 ·have b:=wL_mem (w:=wContainer) hx
  have c1:=wL_len (w:=wProbe) (fun a=>by unfold wProbe;omega) x.Live
  have c2:=wL_len (w:=wProbe) (fun a=>by unfold wProbe;omega) x.Ready
  have c3:=wL_len (w:=wProbe) (fun a=>by unfold wProbe;omega) x.Startup
  unfold wContainer at b
  unfold wContainer at h
  exact⟨by omega,by omega,by omega⟩
 ·have b:=wL_mem (w:=wNodeTerm) hx
  unfold wNodeTerm at b
  unfold wNodeTerm at h
  exact slW (by omega)
 ·have b:=wL_mem (w:=wPodTerm) hx
  unfold wPodTerm at b
  unfold wPodTerm at h
  exact slW (by omega)
 ·have b:=wL_mem (w:=wSpreadRule) hx
  unfold wSpreadRule at b
  unfold wSpreadRule at h
  exact slW (by omega)
theorem spec_ex{p:Pod}(h:PW p):∃t,F51 p.Spec=some t∧Okv 7 ⟨5,0,(⟨#[]⟩:ByteArray),[],t⟩:=by
 obtain⟨t1,h1,n1,v1⟩:=fromContainers_ex _ h.co.1 h.co.2
 obtain⟨t7,h7,n7,v7⟩:=FromSelector_ex _ h.ns.1 h.ns.2
 obtain⟨t9,h9,n9,v9⟩:=fromNodeTerms_ex _ h.nt.1 h.nt.2
 obtain⟨t11,h11,n11,v11⟩:=fromPodTerms_ex _ h.pt.1 h.pt.2
 obtain⟨t17,h17,n17,v17⟩:=fromSpread_ex _ h.sr.1 h.sr.2
 obtain⟨t19,h19,n19,v19⟩:=fromTolerations_ex _ h.to
 rw[F51]
 simp only[F61,F62,F64,F65,Option.bind_some,h1,h7,h9,h11,h17,h19]
 refine⟨_,rfl,okvF _ _ _ (by simp[lit]) fun f hf=>?_⟩
 simp only[lit,List.mem_cons,List.not_mem_nil,or_false]at hf
 rcases hf with rfl|rfl|rfl|rfl|rfl|rfl|rfl|rfl|rfl|rfl
 ·exact okvL _ _ _ n1 fun y hy=>okv_le (v1 y hy) (by omega)
 ·exact okv0 _ _ _ _
 ·exact okv0 _ _ _ _
 ·exact okvL _ _ _ n7 fun y hy=>okv_le (v7 y hy) (by omega)
 ·exact okvL _ _ _ n9 fun y hy=>okv_le (v9 y hy) (by omega)
 ·exact okvL _ _ _ n11 fun y hy=>okv_le (v11 y hy) (by omega)
 ·exact okv0 _ _ _ _
 ·exact okv0 _ _ _ _
 ·exact okvL _ _ _ n17 fun y hy=>okv_le (v17 y hy) (by omega)
 ·exact okvL _ _ _ n19 fun y hy=>okv_le (v19 y hy) (by omega)
theorem status_ex{p:Pod}(h:PW p):∃t,F52 p.Status=some t∧Okv 7 ⟨5,0,(⟨#[]⟩:ByteArray),[],t⟩:=by
 obtain⟨t3,h3,n3,v3⟩:=fromStatuses_ex _ h.st
 obtain⟨b,hb⟩:=truth_ex p.Status.Ready
 rw[F52]
 simp only[F61,F62,F64,F65,Option.bind_some,h3,hb]
 refine⟨_,rfl,okvF _ _ _ (by simp[lit]) fun f hf=>?_⟩
 simp only[lit,List.mem_cons,List.not_mem_nil,or_false]at hf
 rcases hf with rfl|rfl|rfl|rfl|rfl|rfl|rfl|rfl|rfl
 ·exact okv0 _ _ _ _
 ·exact okvL _ _ _ n3 fun y hy=>okv_le (v3 y hy) (by omega)
 ·exact okv0 _ _ _ _
 ·exact okv0 _ _ _ _
 ·exact okv0 _ _ _ _
 ·exact okv0 _ _ _ _
 ·exact okv0 _ _ _ _
 ·exact okv0 _ _ _ _
 ·exact okv0 _ _ _ _
theorem spod_ex{p:Pod}(h:PW p):∃r,F22 p=some r:=by
 obtain⟨t,h1,v1⟩:=spec_ex h
 obtain⟨u,h2,v2⟩:=status_ex h
 obtain⟨b,hb⟩:=smeta_ex h.m
 obtain⟨c,hc⟩:=few_ex 20000 v1 (by omega)
 obtain⟨d,hd⟩:=few_ex 20000 v2 (by omega)
 rw[F22,F40,h1,Option.bind_some,h2]
 simp only[Option.bind_some,hb,hc,hd]
 cases b<;>cases c<;>exact⟨_,rfl⟩
theorem pods_l2:∀(l:List Pod) (i:Nat),(∀p∈l,PW p)→∃r,F8_l2 l i=some r
 |[],i,_=>⟨_,by rw[F8_l2]⟩
 |x::l,i,h=>by
  rw[F8_l2]
  obtain⟨b,hb⟩:=spod_ex (h x (List.mem_cons_self ..))
  have ih:=pods_l2 l (i+1) fun p hp=>h p (List.mem_cons_of_mem _ hp)
  rw[hb,Option.bind_some]
  repeat'(first|exact⟨_,rfl⟩|exact ih|exact exck (by omega)|exact byI_ex (by omega) (by omega)|exact rdI_ex (by omega) (by omega)|exact apI_ex (by omega)|with_reducible refine exif (fun _=>?_) (fun _=>?_)|with_reducible refine exb ?_ (fun _ _=>?_)|with_reducible refine exmap ?_|split)
theorem pods_ex{l:List Pod}(h:∀p∈l,PW p):∃b,F8 l=some b∧(b=true→l.length≤20):=by
 rw[F8]
 by_cases g:20<(l.length:Int)
 ·rw[if_pos g];exact⟨false,rfl,by simp⟩
 ·rw[if_neg g,ck_t (by omega),Option.bind_some]
  obtain⟨r,hr⟩:=pods_l2 l 0 h
  rw[hr]
  cases r<;>exact⟨_,rfl,fun _=>by omega⟩
open Go Go.Fw
set_option maxRecDepth 100000
set_option linter.unusedVariables false
set_option linter.unusedSimpArgs false
theorem lives_t:F9=some true:=by
 set_option maxRecDepth 1000000 in
 kernel_rfl
def mkE(p:Pod):Endpoint:=⟨keyB p.Meta,p.Spec.Node,p.Status.Address,p.Status.Ready&& !p.Meta.Deleting,p.Meta.Deleting⟩
def pselB(s:Service)(p:Pod):Bool:=decide (p.Meta.Namespace=s.Meta.Namespace)&&(decide (0<p.Status.Address)&&((decide (p.Status.Phase=0)||decide (p.Status.Phase=1))&&matB s.Selector p.Meta.Labels))
def insE(e:Endpoint):List Endpoint→List Endpoint
 |[]=>[e]
 |y::l=>if lt e.Pod y.Pod then e::y::l else y::insE e l
def srt(es:List Endpoint):List Endpoint:=es.foldl (fun l e=>insE e l) []
theorem insE_mem(e z:Endpoint):∀l,z∈insE e l↔z=e∨z∈l
 |[]=>by simp[insE]
 |y::l=>by
  rw[insE];split
  ·simp
  ·simp only[List.mem_cons,insE_mem e z l]
   constructor
   ·rintro(h|h|h)
    ·exact .inr (.inl h)
    ·exact .inl h
    ·exact .inr (.inr h)
   ·rintro(h|h|h)
    ·exact .inr (.inl h)
    ·exact .inl h
    ·exact .inr (.inr h)
theorem insE_perm(e:Endpoint):∀l,(insE e l).Perm (e::l)
 |[]=>List.Perm.refl _
 |y::l=>by
  rw[insE];split
  ·exact List.Perm.refl _
  ·exact((insE_perm e l).cons y).trans (List.Perm.swap e y l)
def Nd(l:List Endpoint):Prop:=l.Pairwise fun a b=>¬lt b.Pod a.Pod
theorem le_trans'{a b c:ByteArray}(h1:¬lt b a)(h2:¬lt c b):¬lt c a:=by
 intro h
 rcases lt_dec a b with h3|h3|h3
 ·exact h2 (lt_trans h h3)
 ·subst h3;exact h2 h
 ·exact h1 h3
theorem insE_nd(e:Endpoint):∀{l},Nd l→Nd (insE e l)
 |[],_=>List.pairwise_singleton ..
 |y::l,h=>by
  have h2:=List.pairwise_cons.1 h
  rw[insE]
  by_cases g:lt e.Pod y.Pod
  ·rw[if_pos g]
   refine List.pairwise_cons.2 ⟨fun z hz=>?_,h⟩
   rcases List.mem_cons.1 hz with rfl|hz
   ·exact fun h3=>lt_irrefl _ (lt_trans g h3)
   ·exact le_trans' (b:=y.Pod) (fun h3=>lt_irrefl _ (lt_trans g h3)) (h2.1 z hz)
  ·rw[if_neg g]
   refine List.pairwise_cons.2 ⟨fun z hz=>?_,insE_nd e h2.2⟩
   rcases(insE_mem e z l).1 hz with rfl|hz
   ·exact g
   ·exact h2.1 z hz
theorem fold_nd:∀(es:List Endpoint) {l},Nd l→Nd (es.foldl (fun l e=>insE e l) l)
 |[],_,h=>h
 |e::es,_,h=>fold_nd es (insE_nd e h)
theorem fold_permE:∀(es:List Endpoint) (l:List Endpoint),(es.foldl (fun l e=>insE e l) l).Perm (l++es)
 |[],l=>by rw[List.append_nil];exact List.Perm.refl _
 |e::es,l=>by
  rw[List.foldl_cons]
  refine(fold_permE es (insE e l)).trans (((insE_perm e l).append_right es).trans ?_)
  rw[List.cons_append]
  exact List.perm_middle.symm
theorem srt_perm(es:List Endpoint):(srt es).Perm es:=fold_permE es []
theorem srt_nd(es:List Endpoint):Nd (srt es):=fold_nd es List.Pairwise.nil
theorem srt_len(es:List Endpoint):(srt es).length=es.length:=(srt_perm es).length_eq
theorem srt_snoc(es:List Endpoint)(e:Endpoint):srt (es++[e])=insE e (srt es):=by unfold srt;rw[List.foldl_append];rfl
theorem insE_all(e:Endpoint):∀l:List Endpoint,(∀z∈l,¬lt e.Pod z.Pod)→insE e l=l++[e]
 |[],_=>rfl
 |y::l,h=>by rw[insE,if_neg (h y (List.mem_cons_self ..)),insE_all e l fun z hz=>h z (List.mem_cons_of_mem _ hz)];rfl
theorem insE_snoc(e y:Endpoint)(h:lt e.Pod y.Pod):∀l:List Endpoint,insE e (l++[y])=insE e l++[y]
 |[]=>by
  show(if lt e.Pod y.Pod then e::[y]else _)=_
  rw[if_pos h];rfl
 |z::l=>by
  rw[List.cons_append,insE,insE]
  by_cases g:lt e.Pod z.Pod
  ·rw[if_pos g,if_pos g];rfl
  ·rw[if_neg g,if_neg g,insE_snoc e y h l];rfl
def down(e:Endpoint):List Endpoint→List Endpoint→List Endpoint
 |[],r=>e::r
 |y::ps,r=>if lt e.Pod y.Pod then down e ps (y::r)else(y::ps).reverse++e::r
theorem down_ins(e:Endpoint):∀(ps r:List Endpoint),Nd ps.reverse→down e ps r=insE e ps.reverse++r
 |[],r,_=>rfl
 |y::ps,r,h=>by
  rw[List.reverse_cons]at h
  have h2:=List.pairwise_append.1 h
  rw[down,List.reverse_cons]
  by_cases g:lt e.Pod y.Pod
  ·rw[if_pos g,down_ins e ps (y::r) h2.1,insE_snoc e y g,List.append_assoc];rfl
  ·rw[if_neg g,insE_all e _ fun z hz=>?_]
   ·simp
   ·rcases List.mem_append.1 hz with hz|hz
    ·exact le_trans' (h2.2.2 z hz y (List.mem_singleton.2 rfl)) g
    ·rw[List.mem_singleton.1 hz];exact g
theorem cmpE(x y:Endpoint):F28 x y=some (scmp x.Pod y.Pod):=rfl
theorem ins_l3(e:Endpoint):∀(ps r:List Endpoint) (k:Nat),ps.length<k→ps.length≤1000→F55_l3 0 k (ps.reverse++e::r) (ps.length:Int)=some (down e ps r)
 |[],r,k+1,_,_=>by
  rw[F55_l3,if_neg (by simp)];rfl
 |y::ps,r,k+1,hk,hb=>by
  simp only[List.length_cons]at hk hb
  have hl:(y::ps).reverse++e::r=ps.reverse++y::e::r:=by simp
  have g1:(ps.reverse++y::e::r)[ps.length+1]? =some e:=by
   rw[List.getElem?_append_right (by simp)];simp
  have g2:(ps.reverse++y::e::r)[ps.length]? =some y:=by
   rw[List.getElem?_append_right (by simp)];simp
  have ew:IntKind.i64.wrap (((ps.length+1:Nat):Int)-1)=(ps.length:Int):=by rw[wrapI (by omega) (by omega)];omega
  rw[F55_l3,hl,List.length_cons,if_pos (by omega),rdI_val g1,Option.bind_some,ew,rdI_val g2,Option.bind_some,cmpE,Option.bind_some,Option.bind_some,down]
  by_cases g:lt e.Pod y.Pod
  ·rw[decide_eq_true ((scmp_neg _ _).2 g),if_pos rfl,if_pos g]
   simp only[Option.bind_some,Int.toNat_natCast]
   have e1:(ps.reverse++y::e::r).set (ps.length+1) y=ps.reverse++y::y::r:=by
    rw[List.set_append_right _ _ (by simp)];simp
   rw[e1]
   have g3:(ps.reverse++y::y::r)[ps.length]? =some y:=by
    rw[List.getElem?_append_right (by simp)];simp
   rw[rdI_val g3,Option.bind_some]
   have e2:(ps.reverse++y::y::r).set ps.length e=ps.reverse++e::y::r:=by
    rw[List.set_append_right _ _ (by simp)];simp
   rw[e2]
   exact ins_l3 e ps (y::r) k (by omega) (by omega)
  ·rw[decide_eq_false (fun h=>g ((scmp_neg _ _).1 h)),if_neg (by simp),if_neg g,←hl]
theorem ins_l1(es:List Endpoint)(hb:es.length≤1000):∀(m i k:Nat),es.length=i+m→m<k→F55_l1 0 (es.length:Int) k (srt (es.take i)++es.drop i) (i:Int)=some (srt es)
 |0,i,k+1,h,_=>by
  rw[F55_l1,if_neg (by omega),List.drop_of_length_le (by omega),List.take_of_length_le (by omega),List.append_nil]
 |m+1,i,k+1,h,hk=>by
  have hi:i<es.length:=by omega
  have hsl:(srt (es.take i)).length=i:=by rw[srt_len,List.length_take];omega
  have e3:=ins_l3 es[i] (srt (es.take i)).reverse (es.drop (i+1)) 1099511627776 (by rw[List.length_reverse,hsl];omega) (by rw[List.length_reverse,hsl];omega)
  rw[List.reverse_reverse,List.length_reverse,hsl,←List.drop_eq_getElem_cons hi]at e3
  rw[F55_l1,if_pos (by omega),e3,Option.bind_some,wrapN (by omega),down_ins _ _ _ (by rw[List.reverse_reverse];exact srt_nd _),List.reverse_reverse,←srt_snoc]
  have et:es.take i++[es[i]]=es.take (i+1):=by rw[List.take_add_one,List.getElem?_eq_getElem hi];rfl
  rw[et]
  exact ins_l1 es hb m (i+1) k (by omega) (by omega)
theorem insS_t{es:List Endpoint}(hb:es.length≤1000):F55 es 0 (es.length:Int)=some (srt es):=by
 have h1:F55_l1 0 (es.length:Int) 1099511627776 es 1=some (srt es):=by
  cases es with
  |nil=>rfl
  |cons e es=>
   have:=ins_l1 (e::es) hb es.length 1 1099511627776 (by simp;omega) (by simp only[List.length_cons]at hb;omega)
   exact this
 rw[F55,F55i,show IntKind.i64.wrap (0+1)=1 from rfl,h1]
 simp only[Option.bind_some]
 rw[if_pos (srt_len es)]
theorem insS_0{es:List Endpoint}(hb:es.length≤20):F55 es 20 (es.length:Int)=some es:=by
 rw[F55,F55i,show IntKind.i64.wrap (20+1)=21 from rfl,show(1099511627776:Nat)=1099511627775+1 from rfl,F55_l1,if_neg (by omega)]
 simp
theorem stable_t{es:List Endpoint}(hb:es.length≤20):F44 es (es.length:Int)=some (srt es):=by
 have l5:∀l,F44_l5 (es.length:Int) 1099511627776 l 20=some l:=fun l=>by
  rw[show(1099511627776:Nat)=1099511627775+1 from rfl,F44_l5,if_neg (by omega)]
 have hi:F44i es (es.length:Int)=some (srt es):=by
  rw[F44i,show(1099511627776:Nat)=1099511627774+1+1 from rfl,F44_l1]
  by_cases g:20≤(es.length:Int)
  ·have g20:(es.length:Int)=20:=by omega
   have h1:F55 es 0 20=some (srt es):=by
    have:=insS_t (es:=es) (by omega)
    rw[g20]at this;exact this
   have h2:=insS_0 (es:=srt es) (by rw[srt_len];omega)
   rw[srt_len]at h2
   rw[if_pos g,h1,Option.bind_some,show IntKind.i64.wrap (20+20)=40 from rfl,F44_l1,if_neg (by omega)]
   simp only[Option.bind_some]
   rw[h2,Option.bind_some]
   have:=l5 (srt es)
   rw[show(1099511627776:Nat)=1099511627774+1+1 from rfl]at this
   rw[this];rfl
  ·rw[if_neg g]
   simp only[Option.bind_some]
   rw[insS_t (by omega),Option.bind_some]
   have:=l5 (srt es)
   rw[show(1099511627776:Nat)=1099511627774+1+1 from rfl]at this
   rw[this];rfl
 rw[F44,hi,Option.bind_some,if_pos (srt_len es)]
theorem sortE_t{es:List Endpoint}(hb:es.length≤20):F27 es=some (srt es):=by
 rw[F27,F27i,stable_t hb]
 simp only[Option.bind_some]
 rw[if_pos (srt_len es)]
open Go Go.Fw
set_option maxRecDepth 100000
set_option linter.unusedVariables false
set_option linter.unusedSimpArgs false
theorem psel_if(s:Service)(p:Pod)(b:Bool):(if p.Meta.Namespace=s.Meta.Namespace then(if 0<p.Status.Address then(if p.Status.Phase=0 then(some b).bind fun t5=>some t5 else(if p.Status.Phase=1 then(some b).bind fun t7=>some t7 else some false))else some false)else some false)=some (decide (p.Meta.Namespace=s.Meta.Namespace)&&(decide (0<p.Status.Address)&&((decide (p.Status.Phase=0)||decide (p.Status.Phase=1))&&b))):=by
 by_cases a1:p.Meta.Namespace=s.Meta.Namespace<;>by_cases a2:0<p.Status.Address<;>by_cases a3:p.Status.Phase=0<;>by_cases a4:p.Status.Phase=1<;>simp[a1,a2,a3,a4]
theorem psel_t{s:Service}{p:Pod}(h:selOk s.Selector)(hp:p.Meta.Labels.length≤4000000):F25 s p=some (pselB s p):=by
 rw[F25,mat_t h hp,psel_if];rfl
def its(s:Service)(l:List Pod):List Endpoint:=(l.filter (pselB s)).map mkE
theorem its_len(s:Service)(l:List Pod):(its s l).length≤l.length:=by unfold its;rw[List.length_map];exact List.length_filter_le ..
theorem its_cons(s:Service)(p:Pod)(l:List Pod):its s (p::l)=(if pselB s p=true then [mkE p]else [])++its s l:=by
 unfold its
 by_cases h:pselB s p=true
 ·rw[List.filter_cons_of_pos h,if_pos h];rfl
 ·rw[List.filter_cons_of_neg h,if_neg h];rfl
theorem of_l2{s:Service}(h:selOk s.Selector):∀(l:List Pod) (i:Nat) (a:List Endpoint),(∀p∈l,PW p)→a.length+l.length≤4000000→F10_l2 s l i a=some (a++its s l)
 |[],i,a,_,_=>by rw[F10_l2];simp[its]
 |p::l,i,a,hp,hl=>by
  have h1:=(hp p (List.mem_cons_self ..)).m
  simp only[List.length_cons]at hl
  rw[F10_l2,psel_t h h1.labels,Option.bind_some,its_cons]
  cases hs:pselB s p with
  |false=>
   simp only[Bool.false_eq_true,if_false,Option.bind_some,List.nil_append]
   exact of_l2 h l (i+1) a (fun x hx=>hp x (List.mem_cons_of_mem _ hx)) (by omega)
  |true=>
   have e:(if p.Status.Ready=true then(apI a [(⟨keyB p.Meta,p.Spec.Node,p.Status.Address,nb p.Meta.Deleting,p.Meta.Deleting⟩:Endpoint)]).bind fun a9=>some a9 else(apI a [(⟨keyB p.Meta,p.Spec.Node,p.Status.Address,false,p.Meta.Deleting⟩:Endpoint)]).bind fun a10=>some a10)=some (a++[mkE p]):=by
    unfold mkE
    cases p.Status.Ready
    ·rw[if_neg (by simp),apI_t (by simp;omega)];rfl
    ·rw[if_pos rfl,apI_t (by simp;omega),nb_not];rfl
   simp only[if_true]
   rw[KeyOf_t h1.key]
   simp only[Option.bind_some]
   rw[e]
   simp only[Option.bind_some]
   rw[of_l2 h l (i+1) _ (fun x hx=>hp x (List.mem_cons_of_mem _ hx)) (by simp;omega),List.append_assoc]
theorem of_t{s:Service}(h:selOk s.Selector)(hpo:s.Ports.length≤4000000){l:List Pod}(hp:∀p∈l,PW p)(hl:l.length≤20):F10 s l=some (s.Ports,srt (its s l)):=by
 have:=its_len s l
 rw[F10,cl_t (by omega),Option.bind_some,ck_t (by omega),Option.bind_some,of_l2 h l 0 [] hp (by simp;omega),Option.bind_some,List.nil_append,sortE_t (by omega)]
 rfl
theorem svc_ok{s:Service}(h:wService s≤1048576):MW s.Meta∧selOk s.Selector∧s.Ports.length≤4000000:=by
 unfold wService at h
 have a1:=wL_len (w:=wServicePort) (fun a=>by unfold wServicePort;omega) s.Ports
 obtain⟨h1,h2⟩:=slW (l:=s.Selector) (by omega)
 exact⟨mW (by omega),⟨h1,h2⟩,by omega⟩
theorem pods_ok{l:List Pod}(h:wL wPod l≤1048576):∀p∈l,PW p:=fun p hp=>pW (by have:=wL_mem (w:=wPod) hp;omega)
open Go Go.Fw
set_option maxRecDepth 100000
set_option linter.unusedVariables false
set_option linter.unusedSimpArgs false
def Kd(l:List Pod):Prop:=l.Pairwise fun a b=>keyB a.Meta≠keyB b.Meta
theorem di_l3(l:List Pod)(hp:∀p∈l,PW p)(x:Pod)(hx:PW x)(i:Nat)(hi:i≤l.length)(hl:l.length≤4000000):∀(n j k:Nat),j+n=i→n<k→F17_l3 i l x k (j:Int)=some (if∃y∈(l.take i).drop j,keyB x.Meta=keyB y.Meta then .inl (.inl false)else .inr ())
 |0,j,k+1,h,_=>by
  have:(l.take i).drop j=[]:=List.drop_of_length_le (by rw[List.length_take];omega)
  rw[F17_l3,if_neg (by omega),this];simp
 |n+1,j,k+1,h,hk=>by
  have hj:j<(l.take i).length:=by rw[List.length_take];omega
  rw[F17_l3,if_pos (by omega),rKeyOf_t hx.m.key,Option.bind_some,rdI_at (by omega),Option.bind_some,rKeyOf_t (hp _ (List.getElem_mem _)).m.key,Option.bind_some,wrapN (by omega),di_l3 l hp x hx i hi hl n (j+1) k (by omega) (by omega),List.drop_eq_getElem_cons hj,List.getElem_take]
  by_cases hu:keyB x.Meta=keyB (l[j]'(by omega)).Meta<;>simp[hu]
theorem di_l1(l:List Pod)(hp:∀p∈l,PW p)(hl:l.length≤4000000):∀(xs:List Pod) (i:Nat),l.drop i=xs→Kd (l.take i)→F17_l1 l xs i=some (.inl false)∨F17_l1 l xs i=some (.inr ())∧Kd l
 |[],i,e,hk=>by
  right
  have:l.length≤i:=by simpa using e
  rw[List.take_of_length_le this]at hk
  exact⟨by rw[F17_l1],hk⟩
 |x::xs,i,e,hk=>by
  have hx:=drop_hd e
  have hi:=(List.getElem?_eq_some_iff.1 hx).1
  have h3:=di_l3 l hp x (hp x (List.mem_of_getElem? hx)) i (by omega) hl i 0 1099511627776 (by omega) (by omega)
  rw[show((0:Nat):Int)=0 from rfl,List.drop_zero]at h3
  rw[F17_l1,h3,Option.bind_some]
  by_cases g:∃y∈l.take i,keyB x.Meta=keyB y.Meta
  ·rw[if_pos g];exact .inl rfl
  ·rw[if_neg g]
   refine di_l1 l hp hl xs (i+1) (drop_tl e) ?_
   rw[List.take_add_one,hx]
   refine List.pairwise_append.2 ⟨hk,List.pairwise_singleton ..,fun a ha b hb=>?_⟩
   rw[Option.toList_some,List.mem_singleton]at hb
   subst hb
   exact fun h=>g ⟨a,ha,h.symm⟩
theorem dist_t{l:List Pod}(hp:∀p∈l,PW p)(hl:l.length≤4000000):∃b,F17 l=some b∧(b=true→Kd l):=by
 rw[F17,ck_t (by omega),Option.bind_some]
 rcases di_l1 l hp hl l 0 (List.drop_zero ..) List.Pairwise.nil with h|⟨h,hs⟩
 ·rw[h];exact⟨false,rfl,by simp⟩
 ·rw[h];exact⟨true,rfl,fun _=>hs⟩
def Up(l:List Endpoint):Prop:=l.Pairwise fun a b=>lt a.Pod b.Pod
theorem its_kd(s:Service){l:List Pod}(h:Kd l):(its s l).Pairwise fun a b=>a.Pod≠b.Pod:=by
 unfold its
 exact List.pairwise_map.2 (List.Pairwise.filter _ h)
theorem srt_up{es:List Endpoint}(h:es.Pairwise fun a b=>a.Pod≠b.Pod):Up (srt es):=by
 have h1:(srt es).Pairwise fun a b=>a.Pod≠b.Pod:=((srt_perm es).pairwise_iff (fun h e=>h e.symm)).2 h
 have h2:=srt_nd es
 refine List.Pairwise.imp ?_ (List.pairwise_and_iff.2 ⟨h1,h2⟩)
 intro a b ⟨g1,g2⟩
 rcases lt_dec a.Pod b.Pod with h3|h3|h3
 ·exact h3
 ·exact(g1 h3).elim
 ·exact(g2 h3).elim
theorem ready_l10(po:List ServicePort)(E:List Endpoint)(hE:E.length≤1000)(hup:Up E)(hrt:∀x∈E,x.Ready=true→x.Terminating=false):∀(xs:List Endpoint) (i n:Nat),E.drop i=xs→n≤i→F5_l10 (po,E) xs i (n:Int)=some (.inr ((n+xs.countP fun x=>x.Ready:Nat):Int))
 |[],i,n,_,_=>by rw[F5_l10];rfl
 |x::xs,i,n,hd,hn=>by
  have hx:=drop_hd hd
  have hlt:=(List.getElem?_eq_some_iff.1 hx).1
  have hm:=List.mem_of_getElem? hx
  have e1:(if 0<(i:Int)then(rdI E (IntKind.i64.wrap ((i:Int)-1))).bind fun y18=>some (nb (Op.bytesLess y18.Pod.toList x.Pod.toList))else some false)=some false:=by
   by_cases g:0<(i:Int)
   ·have hy:E[i-1]? =some (E[i-1]'(by omega)):=List.getElem?_eq_getElem (by omega)
    have:=List.pairwise_iff_getElem.1 hup (i-1) i (by omega) hlt (by omega)
    rw[(List.getElem?_eq_some_iff.1 hx).2]at this
    rw[if_pos g,wr_p g (by omega),rdI_val hy,Option.bind_some,nb_bl,decide_eq_false (not_not_intro this)]
   ·rw[if_neg g]
  rw[F5_l10,rdI_val hx,Option.bind_some,e1]
  cases hr:x.Ready with
  |true=>
   have ht:=hrt x hm hr
   simp only[ht,Bool.false_eq_true,if_true,if_false,Option.bind_some]
   rw[wrapN (by omega),ready_l10 po E hE hup hrt xs (i+1) (n+1) (drop_tl hd) (by omega),List.countP_cons_of_pos (by simp[hr]),show n+1+xs.countP (fun x=>x.Ready)=n+(xs.countP (fun x=>x.Ready)+1)by omega]
  |false=>
   simp only[Bool.false_eq_true,if_false,Option.bind_some]
   rw[ready_l10 po E hE hup hrt xs (i+1) n (drop_tl hd) (by omega),List.countP_cons_of_neg (by simp[hr])]
def hit(p:Pod)(x:Endpoint):Bool:=decide (x.Pod=keyB p.Meta)&&(x.Ready&&(decide (x.Address=p.Status.Address)&&decide (x.Node=p.Spec.Node)))
theorem found_l37(po:List ServicePort)(E:List Endpoint){p:Pod}(hp:PW p):∀(xs:List Endpoint) (i:Nat) (b:Bool),E.drop i=xs→F5_l37 (po,E) p xs i b=some (b||xs.any (hit p))
 |[],i,b,_=>by rw[F5_l37];simp
 |x::xs,i,b,hd=>by
  have hx:=drop_hd hd
  have e1:(if b=true then some true else(F19 p.Meta).bind fun t42=>(if x.Pod=t42 then(if x.Ready=true then(if x.Address=p.Status.Address then some (decide (x.Node=p.Spec.Node))else some false)else some false)else some false))=some (b||hit p x):=by
   rw[rKeyOf_t hp.m.key,Option.bind_some]
   unfold hit
   cases b
   ·by_cases a1:x.Pod=keyB p.Meta<;>by_cases a2:x.Address=p.Status.Address<;>cases hr:x.Ready<;>simp[a1,a2]
   ·rfl
  rw[F5_l37,rdI_val hx,Option.bind_some,e1,Option.bind_some,found_l37 po E hp xs (i+1) _ (drop_tl hd),List.any_cons,Bool.or_assoc]
def wantB(s:Service)(p:Pod):Bool:=pselB s p&&(p.Status.Ready&& !p.Meta.Deleting)
theorem want_if(s:Service)(p:Pod)(b:Bool):(if¬(p.Meta.Namespace=s.Meta.Namespace)then some true else(some b).bind fun t29=>(if(nb t29)=true then some true else(if p.Status.Address≤0 then some true else(if¬(p.Status.Phase=0)then(if¬(p.Status.Phase=1)then some true else(if(nb p.Status.Ready)=true then some true else some p.Meta.Deleting))else(if(nb p.Status.Ready)=true then some true else some p.Meta.Deleting)))))=some (!(decide (p.Meta.Namespace=s.Meta.Namespace)&&(decide (0<p.Status.Address)&&((decide (p.Status.Phase=0)||decide (p.Status.Phase=1))&&b))&&(p.Status.Ready&& !p.Meta.Deleting))):=by
 have ha:p.Status.Address≤0↔¬0<p.Status.Address:=by omega
 by_cases a1:p.Meta.Namespace=s.Meta.Namespace<;>by_cases a2:0<p.Status.Address<;>by_cases a3:p.Status.Phase=0<;>by_cases a4:p.Status.Phase=1<;>cases b<;>cases hr:p.Status.Ready<;>cases hd:p.Meta.Deleting<;>simp[a1,ha,a2,a3,a4,nb_not]
theorem want_l24{s:Service}(h:selOk s.Selector)(po:List ServicePort)(E:List Endpoint)(hE:E.length≤4000000):∀(xs:List Pod) (i n:Nat),(∀p∈xs,PW p)→(∀p∈xs,pselB s p=true→mkE p∈E)→n+xs.length≤1000→F5_l24 (po,E) s xs i (n:Int)=some (.inr ((n+xs.countP (wantB s):Nat):Int))
 |[],i,n,_,_,_=>by rw[F5_l24];rfl
 |p::xs,i,n,hp,hm,hn=>by
  have h1:=hp p (List.mem_cons_self ..)
  have hp2:∀q∈xs,PW q:=fun q hq=>hp q (List.mem_cons_of_mem _ hq)
  have hm2:∀q∈xs,pselB s q=true→mkE q∈E:=fun q hq=>hm q (List.mem_cons_of_mem _ hq)
  simp only[List.length_cons]at hn
  rw[F5_l24,rmat_eq,mat_t h h1.m.labels,want_if]
  show(((some (!wantB s p)).bind _:Option _).bind _)=_
  cases hw:wantB s p with
  |false=>
   simp only[Bool.not_false,if_true,Option.bind_some]
   rw[want_l24 h po E hE xs (i+1) n hp2 hm2 (by omega),List.countP_cons_of_neg (by simp[hw])]
  |true=>
   have hw2:=hw
   unfold wantB at hw2
   simp only[Bool.and_eq_true]at hw2
   have hin:=hm p (List.mem_cons_self ..) hw2.1
   have hany:E.any (hit p)=true:=List.any_eq_true.2 ⟨mkE p,hin,by
    unfold hit mkE
    simp[hw2.2.1]
    simpa using hw2.2.2⟩
   simp only[Bool.not_true,Bool.false_eq_true,if_false,Option.bind_some]
   rw[ck_t (by show _∧E.length≤_;omega),Option.bind_some,found_l37 po E h1 E 0 false (List.drop_zero ..),hany]
   simp only[Option.bind_some,Bool.or_true,show nb true=false from rfl,Bool.false_eq_true,if_false]
   rw[wrapN (by omega),want_l24 h po E hE xs (i+1) (n+1) hp2 hm2 (by omega),List.countP_cons_of_pos (by simp[hw]),show n+1+xs.countP (wantB s)=n+(xs.countP (wantB s)+1)by omega]
theorem EndpointsReady_pure:EndpointsReady.Pure:=by
 intro s pods h1 h2 hw
 obtain⟨hm,hsel,hpo⟩:=svc_ok (s:=s) (by omega)
 have hp:=pods_ok (l:=pods) (by omega)
 obtain⟨a,ha⟩:=small_ex hm hsel.1
 obtain⟨b,hb,hb2⟩:=pods_ex hp
 have hlen:=wL_len (w:=wPod) (fun a=>by unfold wPod;omega) pods
 obtain⟨d,hd,hd2⟩:=dist_t hp (by omega)
 rw[F5,ha,Option.bind_some,hb,hd,lives_t]
 cases a
 case false=>rfl
 cases b
 case false=>rfl
 cases d
 case false=>rfl
 have hl:=hb2 rfl
 have hkd:=hd2 rfl
 have hil:=its_len s pods
 have hsl:=srt_len (its s pods)
 have hup:=srt_up (its_kd s hkd)
 have hperm:=srt_perm (its s pods)
 simp only[show nb true=false from rfl,Bool.false_eq_true,if_false,Option.bind_some]
 rw[of_t hsel hpo hp hl,Option.bind_some,ck_t (by show _∧(srt (its s pods)).length≤_;omega),Option.bind_some]
 have k1:=ready_l10 s.Ports (srt (its s pods)) (by omega) hup (fun x hx hr=>by
  have hx2:=hperm.mem_iff.1 hx
  unfold its at hx2
  obtain⟨p,_,rfl⟩:=List.mem_map.1 hx2
  unfold mkE at hr⊢
  simp only[Bool.and_eq_true,Bool.not_eq_true']at hr
  exact hr.2) (srt (its s pods)) 0 0 (List.drop_zero ..) (Nat.le_refl _)
 rw[show((0:Nat):Int)=0 from rfl,Nat.zero_add]at k1
 rw[k1]
 simp only[Option.bind_some]
 have k2:=want_l24 hsel s.Ports (srt (its s pods)) (by omega) pods 0 0 hp (fun p hpm hs=>hperm.mem_iff.2 (List.mem_map.2 ⟨p,List.mem_filter.2 ⟨hpm,hs⟩,rfl⟩)) (by omega)
 rw[show((0:Nat):Int)=0 from rfl,Nat.zero_add]at k2
 rw[ck_t (by omega),Option.bind_some,k2]
 simp only[Option.bind_some]
 have hc:(srt (its s pods)).countP (fun x=>x.Ready)=pods.countP (wantB s):=by
  rw[hperm.countP_eq]
  unfold its
  rw[List.countP_map,List.countP_filter]
  refine List.countP_congr fun p _=>?_
  unfold wantB mkE
  simp only[Function.comp,Bool.and_eq_true]
  constructor
  ·rintro⟨⟨x,y⟩,z⟩;exact⟨z,x,y⟩
  ·rintro⟨z,x,y⟩;exact⟨⟨x,y⟩,z⟩
 rw[hc,if_pos rfl]
 rfl
open Go Go.Fw
set_option maxRecDepth 1000000
set_option maxRecDepth 100000
open Go Go.Fw
set_option maxRecDepth 100000
set_option linter.unusedVariables false
set_option linter.unusedSimpArgs false
end Go.Proofs.Ytfkkccgopmcnaaa
