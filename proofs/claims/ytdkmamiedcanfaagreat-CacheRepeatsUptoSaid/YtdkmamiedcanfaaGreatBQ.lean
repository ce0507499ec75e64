/- The plain law. -/
import Derived.Test.YtdkmamiedcanfaaGreatBP
import Derived.Test.YtdkmamiedcanfaaGreatFP
import Derived.KernelRfl
set_option linter.unusedVariables false
set_option linter.unusedSimpArgs false
namespace Go.Proofs.YtdkmamiedcanfaaGreat
open Go Go.Fw
set_option maxRecDepth 100000
set_option linter.unusedVariables false
set_option linter.unusedSimpArgs false
section
variable {α:Type}
def S(c:α→Int)(l:List α):Prop:=l.Pairwise fun a b=>c b≤0→c a<0
def plc(c:α→Int):List α→Nat
 |[]=>0
 |y::l=>if c y<0 then plc c l+1 else 0
theorem plc_le(c:α→Int):∀l,plc c l≤l.length
 |[]=>Nat.le_refl _
 |y::l=>by have:=plc_le c l;unfold plc;split<;>simp<;>omega
def insC(c:α→Int)(x:α):List α→List α
 |[]=>[x]
 |y::l=>if c y<0 then y::insC c x l else x::y::l
theorem insC_plc(c:α→Int)(x:α):∀l,l.take (plc c l)++x::l.drop (plc c l)=insC c x l
 |[]=>rfl
 |y::l=>by
  unfold insC plc
  split
  ·rw[←insC_plc c x l];simp
  ·simp
theorem insC_len(c:α→Int)(x:α)(l:List α):(insC c x l).length=l.length+1:=by
 rw[←insC_plc];have:=plc_le c l;simp;omega
theorem insC_mem(c:α→Int)(x z:α):∀l,z∈insC c x l↔z=x∨z∈l
 |[]=>by simp[insC]
 |y::l=>by
  have:=insC_mem c x z l
  unfold insC
  split
  ·simp only[List.mem_cons,this];exact⟨fun h=>h.elim (fun h=> .inr (.inl h)) fun h=>h.elim .inl fun h=> .inr (.inr h),fun h=>h.elim (fun h=> .inr (.inl h)) fun h=>h.elim .inl fun h=> .inr (.inr h)⟩
  ·simp
theorem insC_pw{R:α→α→Prop}{c:α→Int}{x:α}(ht:∀a b d,R a b→R b d→R a d):∀{l:List α},(∀y∈l,c y<0→R y x)→(∀y∈l,¬c y<0→R x y)→l.Pairwise R→(insC c x l).Pairwise R
 |[],_,_,_=>by simp[insC]
 |y::l,h1,h2,hp=>by
  have hp2:=List.pairwise_cons.1 hp
  unfold insC
  split
  ·rename_i hc
   refine List.pairwise_cons.2 ⟨fun z hz=>?_,insC_pw ht (fun z hz=>h1 z (List.mem_cons_of_mem _ hz)) (fun z hz=>h2 z (List.mem_cons_of_mem _ hz)) hp2.2⟩
   rcases(insC_mem c x z l).1 hz with rfl|hz
   ·exact h1 y (List.mem_cons_self ..) hc
   ·exact hp2.1 z hz
  ·rename_i hc
   have hxy:=h2 y (List.mem_cons_self ..) hc
   refine List.pairwise_cons.2 ⟨fun z hz=>?_,hp⟩
   rcases List.mem_cons.1 hz with rfl|hz
   ·exact hxy
   ·exact ht _ _ _ hxy (hp2.1 z hz)
end
theorem scmp_neg(a b:ByteArray):scmp a b<0↔lt a b:=by
 unfold scmp
 by_cases h:lt a b
 ·simp[h]
 ·rw[if_neg h]
  by_cases h2:a=b
  ·rw[if_pos h2];simp[h]
  ·rw[if_neg h2];simp[h]
theorem scmp_zero(a b:ByteArray):scmp a b=0↔a=b:=by
 unfold scmp
 by_cases h:lt a b
 ·simp[h,lt_ne h]
 ·rw[if_neg h]
  by_cases h2:a=b<;>simp[h2]
theorem exb{α β:Type}{e:Option α}{f:α→Option β}(h:∃a,e=some a)(hf:∀a,e=some a→∃r,f a=some r):∃r,e.bind f=some r:=by
 obtain⟨a,ha⟩:=h;obtain⟨r,hr⟩:=hf a ha;exact⟨r,by rw[ha];exact hr⟩
theorem exif{α:Type}{p:Prop}[Decidable p]{a b:Option α}(h1:p→∃r,a=some r)(h2:¬p→∃r,b=some r):∃r,(if p then a else b)=some r:=by
 by_cases h:p
 ·rw[if_pos h];exact h1 h
 ·rw[if_neg h];exact h2 h
theorem exmap{α β:Type}{e:Option α}{f:α→β}(h:∃a,e=some a):∃r,e.map f=some r:=by
 obtain⟨a,ha⟩:=h;exact⟨f a,by rw[ha];rfl⟩
theorem exck{p:Prop}[Decidable p](h:p):∃r,ck p=some r:=⟨(),ck_t h⟩
theorem byI_ex{b:ByteArray}{i:Int}(h:0≤i)(h2:i<b.size):∃y,byI b i=some y:=by
 obtain⟨n,rfl⟩:∃n:Nat,i=n:=⟨i.toNat,by omega⟩
 have hs:n<b.size:=by omega
 exact⟨(b[n].toNat:Int),by unfold byI;rw[if_pos (by omega)];simp[hs]⟩
theorem rdI_ex{α:Type}{l:List α}{i:Int}(h:0≤i)(h2:i<l.length):∃y,rdI l i=some y:=by
 obtain⟨n,rfl⟩:∃n:Nat,i=n:=⟨i.toNat,by omega⟩
 exact⟨_,rdI_at (by omega)⟩
theorem apI_ex{α:Type}{xs ys:List α}(h:xs.length+ys.length≤4294967290):∃y,apI xs ys=some y:=⟨_,apI_t h⟩
theorem rdI_val{α:Type}{l:List α}{i:Nat}{y:α}(h:l[i]? =some y):rdI l (i:Int)=some y:=by rw[rdI_nat];exact h
theorem drop_hd{α:Type}{l:List α}{i:Nat}{x:α}{xs:List α}(e:l.drop i=x::xs):l[i]? =some x:=by rw[←List.head?_drop,e];rfl
theorem drop_tl{α:Type}{l:List α}{i:Nat}{x:α}{xs:List α}(e:l.drop i=x::xs):l.drop (i+1)=xs:=by
 rw[←List.drop_drop,e];rfl
theorem set_same{α:Type}:∀{l:List α} {i:Nat} {x:α},l[i]? =some x→l.set i x=l
 |[],_,_,h=>by simp at h
 |y::l,0,x,h=>by simp at h;simp[h]
 |y::l,i+1,x,h=>by simp at h;simp[set_same h]
theorem cl_t{α:Type}{l:List α}(h:l.length≤4294967290):cloneI l=some l:=if_pos h
theorem catI_t{a b:ByteArray}(h:a.size+b.size≤9223372036854775807):catI a b=some (a++b):=if_pos h
theorem bsize(a b:ByteArray):(a++b).size=a.size+b.size:=ByteArray.size_append
theorem wr_p{i:Nat}(h:0<(i:Int))(h2:i≤4294967296):IntKind.i64.wrap ((i:Int)-1)=((i-1:Nat):Int):=by rw[wrapI (by omega) (by omega)];omega
theorem wL_mem{α:Type}{w:α→Nat}{x:α}:∀{l:List α},x∈l→w x+1≤wL w l
 |[],h=>by cases h
 |y::l,h=>by
  unfold wL
  simp only[List.map_cons,List.sum_cons]
  rcases List.mem_cons.1 h with rfl|h
  ·omega
  ·have:=wL_mem (w:=w) h;unfold wL at this;omega
open Go Go.Fw
set_option maxRecDepth 100000
set_option linter.unusedVariables false
set_option linter.unusedSimpArgs false
theorem wF_pos(f:TField):1≤wTField f:=by rw[wTField_u];omega
theorem wV_pos(v:TValue):1≤wTValue v:=by rw[wTValue_u];omega
theorem wV_list{v x:TValue}(h:x∈v.List_):wTValue x<wTValue v:=by
 rw[wTValue_u v];have:=wL_mem (w:=wTValue) h;unfold wN;omega
theorem wV_field{v:TValue}{x:TField}(h:x∈v.Fields):wTValue x.V<wTValue v:=by
 rw[wTValue_u v];have:=wL_mem (w:=wTField) h;rw[wTField_u]at this;unfold wN at*;omega
theorem wV_ll(v:TValue):v.List_.length<wTValue v:=by
 rw[wTValue_u v];have:=wL_len wV_pos v.List_;unfold wN;omega
theorem wV_fl(v:TValue):v.Fields.length<wTValue v:=by
 rw[wTValue_u v];have:=wL_len wF_pos v.Fields;unfold wN;omega
theorem eta_v(x:TValue):(⟨x.Kind,x.N,x.S,x.List_,x.Fields⟩:TValue)=x:=by cases x;rfl
theorem eta_f(x:TField):(⟨x.Name,x.V⟩:TField)=x:=by cases x;rfl
theorem rsize_l1(rc:TValue→Option Int):∀(l:List TValue) (i:Nat) (n:Int),(∀y∈l,∃r,rc y=some r)→∃r,F54_l1 rc l i n=some r
 |[],i,n,_=>⟨n,by rw[F54_l1]⟩
 |x::l,i,n,h=>by
  rw[F54_l1]
  exact exb (h x (List.mem_cons_self ..)) fun _ _=>rsize_l1 rc l _ _ fun y hy=>h y (List.mem_cons_of_mem _ hy)
theorem rsize_l5(rc:TValue→Option Int):∀(l:List TField) (i:Nat) (n:Int),(∀y∈l,∃r,rc y.V=some r)→∃r,F54_l5 rc l i n=some r
 |[],i,n,_=>⟨n,by rw[F54_l5]⟩
 |x::l,i,n,h=>by
  rw[F54_l5]
  exact exb (h x (List.mem_cons_self ..)) fun _ _=>rsize_l5 rc l _ _ fun y hy=>h y (List.mem_cons_of_mem _ hy)
theorem rsize_ex:∀(k:Nat) (v:TValue),wTValue v≤k→wTValue v≤4294967290→∃r,F54k k v=some r
 |0,v,h,_=>by have:=wV_pos v;omega
 |k+1,v,h,h2=>by
  have l1:=wV_ll v
  have l2:=wV_fl v
  rw[F54k,F54]
  exact exb (exb (exck (by omega)) fun _ _=>rsize_l1 _ _ _ _ fun y hy=>rsize_ex k y (by have:=wV_list hy;omega) (by have:=wV_list hy;omega)) fun _ _=>exb (exb (exck (by omega)) fun _ _=>rsize_l5 _ _ _ _ fun y hy=>rsize_ex k y.V (by have:=wV_field hy;omega) (by have:=wV_field hy;omega)) fun _ _=>⟨_,rfl⟩
open Go Go.Fw
set_option maxRecDepth 100000
set_option linter.unusedVariables false
set_option linter.unusedSimpArgs false
structure OW(o:Object):Prop where
 key:o.Meta.Kind.size+o.Meta.Namespace.size+o.Meta.Name.size≤4000000
 labels:o.Meta.Labels.length≤4000000
 owners:o.Meta.Owners.length≤4000000
 fins:o.Meta.Finalizers.length≤4000000
 mans:o.Meta.Managers.length≤4000000
 man:∀m∈o.Meta.Managers,m.Fields.length≤4000000∧m.Name.size≤4000000
 spec:wTValue o.Spec≤4000000
 status:wTValue o.Status≤4000000
 label:∀l∈o.Meta.Labels,l.Key.size≤4000000∧l.Value.size≤4000000
 owner:∀l∈o.Meta.Owners,l.Kind.size≤4000000∧l.Name.size≤4000000
 fin:∀l∈o.Meta.Finalizers,l.size≤4000000
theorem oW{o:Object}(h:wObject o≤4000000):OW o:=by
 unfold wObject wMeta at h
 have a1:=wL_len (w:=wLabel) (fun a=>by unfold wLabel;omega) o.Meta.Labels
 have a2:=wL_len (w:=wOwner) (fun a=>by unfold wOwner;omega) o.Meta.Owners
 have a3:=wL_len (w:=wS) wS_pos o.Meta.Finalizers
 have a4:=wL_len (w:=wManager) (fun a=>by unfold wManager;omega) o.Meta.Managers
 simp only[wN,wS]at h a3
 refine⟨by omega,by omega,by omega,by omega,by omega,fun m hm=>?_,by omega,by omega,fun l hl=>?_,fun l hl=>?_,fun l hl=>?_⟩
 ·have:=wL_mem (w:=wManager) hm
  unfold wManager at this
  have b:=wL_len (w:=wS) wS_pos m.Fields
  simp only[wS]at this b
  unfold wManager at h;simp only[wS]at h
  omega
 ·have:=wL_mem (w:=wLabel) hl
  unfold wLabel at this h;simp only[wS]at this h
  omega
 ·have:=wL_mem (w:=wOwner) hl
  unfold wOwner at this h;simp only[wS,wN]at this h
  omega
 ·have:wS l+1≤_:=wL_mem (w:=wS) hl
  have e:wS l=l.size+1:=rfl
  omega
def keyB(m:Meta):ByteArray:=(((m.Kind++(⟨#[47]⟩:ByteArray))++m.Namespace)++(⟨#[47]⟩:ByteArray))++m.Name
def keyO(o:Object):ByteArray:=keyB o.Meta
theorem sl1:(⟨#[47]⟩:ByteArray).size=1:=rfl
theorem KeyOf_t{m:Meta}(h:m.Kind.size+m.Namespace.size+m.Name.size≤4000000):F33 m=some (keyB m):=by
 rw[F33,F59,catI_t (by rw[sl1];omega),Option.bind_some,catI_t (by rw[bsize,sl1];omega),Option.bind_some,catI_t (by rw[bsize,bsize,sl1];omega),Option.bind_some,catI_t (by rw[bsize,bsize,bsize,sl1];omega)]
 rfl
theorem rKeyOf_t{m:Meta}(h:m.Kind.size+m.Namespace.size+m.Name.size≤4000000):F39 m=some (keyB m):=KeyOf_t h
open Go Go.Fw
set_option maxRecDepth 100000
set_option linter.unusedVariables false
set_option linter.unusedSimpArgs false
theorem take_cons'{α:Type}{l:List α}{i:Nat}{y:α}(h:l[i]? =some y)(n:Nat):(l.drop i).take (n+1)=y::(l.drop (i+1)).take n:=by
 obtain⟨h1,h2⟩:=List.getElem?_eq_some_iff.1 h
 rw[List.drop_eq_getElem_cons h1,h2,List.take_succ_cons]
open Go Go.Fw
set_option maxRecDepth 100000
set_option linter.unusedVariables false
set_option linter.unusedSimpArgs false
def ZO:Object:=⟨⟨⟨#[]⟩,⟨#[]⟩,⟨#[]⟩,0,0,0,0,false,0,[],[],[],[]⟩,⟨0,0,⟨#[]⟩,[],[]⟩,⟨0,0,⟨#[]⟩,[],[]⟩⟩
def cO(k:ByteArray)(y:Object):Int:=scmp (keyO y) k
def Sorted(l:List Object):Prop:=l.Pairwise fun a b=>lt (keyO a) (keyO b)
theorem cO_zero{k:ByteArray}{y:Object}:cO k y=0↔keyO y=k:=scmp_zero _ _
theorem cO_neg{k:ByteArray}{y:Object}:cO k y<0↔lt (keyO y) k:=scmp_neg _ _
def rm(k:ByteArray)(l:List Object):List Object:=l.filter fun y=>decide (cO k y≠0)
def repS(l:List Object)(c:Change):List Object:=if c.Kind=2 then rm (keyO c.Object) l else insC (cO (keyO c.Object)) c.Object (rm (keyO c.Object) l)
def getS(l:List Object)(k:ByteArray):Option Object:=l.find? fun y=>decide (cO k y=0)
theorem rm_sorted{l:List Object}(k:ByteArray)(h:Sorted l):Sorted (rm k l):=h.filter _
theorem rm_mem{l:List Object}{k:ByteArray}{y:Object}:y∈rm k l↔y∈l∧keyO y≠k:=by
 unfold rm;rw[List.mem_filter];simp[cO_zero]
theorem rm_len(k:ByteArray)(l:List Object):(rm k l).length≤l.length:=List.length_filter_le ..
theorem rep_mem{l:List Object}{c:Change}{y:Object}(h:y∈repS l c):y∈l∨y=c.Object:=by
 unfold repS at h
 split at h
 ·exact .inl (rm_mem.1 h).1
 ·rcases(insC_mem _ _ _ _).1 h with h|h
  ·exact .inr h
  ·exact .inl (rm_mem.1 h).1
theorem rep_len(l:List Object)(c:Change):(repS l c).length≤l.length+1:=by
 have:=rm_len (keyO c.Object) l
 unfold repS
 split
 ·omega
 ·rw[insC_len];omega
theorem rep_sorted{l:List Object}(c:Change)(h:Sorted l):Sorted (repS l c):=by
 unfold repS
 split
 ·exact rm_sorted _ h
 ·refine insC_pw (R:=fun a b=>lt (keyO a) (keyO b)) (fun a b d=>lt_trans) (fun y hy hc=>cO_neg.1 hc) (fun y hy hc=>?_) (rm_sorted _ h)
  exact lt_of_not (mt cO_neg.2 hc) (rm_mem.1 hy).2
theorem get_mem{l:List Object}{k:ByteArray}{o:Object}(h:getS l k=some o):o∈l∧keyO o=k:=
 ⟨List.mem_of_find?_eq_some h,by have:=List.find?_some h;exact cO_zero.1 (by simpa using this)⟩
open Go Go.Fw
set_option maxRecDepth 100000
set_option linter.unusedVariables false
set_option linter.unusedSimpArgs false
open Go Go.Fw
set_option maxRecDepth 100000
set_option linter.unusedVariables false
set_option linter.unusedSimpArgs false
theorem wt_l1:∀(l:List Manager) (i:Nat) (n:Int),∃r,F29_l1 l i n=some r
 |[],i,n=>⟨_,by rw[F29_l1]⟩
 |x::l,i,n=>by rw[F29_l1];exact wt_l1 l _ _
theorem wt_ex{o:Object}(h:OW o):∃r,F29 o=some r:=by
 rw[F29]
 have g1:=rsize_ex 1099511627776 o.Spec (by have:=h.spec;omega) (by have:=h.spec;omega)
 have g2:=rsize_ex 1099511627776 o.Status (by have:=h.status;omega) (by have:=h.status;omega)
 refine exb (exb (exck (by have:=h.mans;omega)) fun _ _=>wt_l1 _ _ _) fun _ _=>?_
 repeat'(first|exact⟨_,rfl⟩|exact g1|exact g2|exact exck (by omega)|exact byI_ex (by omega) (by omega)|exact rdI_ex (by omega) (by omega)|exact apI_ex (by omega)|with_reducible refine exif (fun _=>?_) (fun _=>?_)|with_reducible refine exb ?_ (fun _ _=>?_)|with_reducible refine exmap ?_|split)
def selOk(sel:List Requirement):Prop:=sel.length≤4000000∧∀r∈sel,r.Values.length≤4000000
theorem sorted_inj:∀{l:List Object},Sorted l→∀{x y:Object},x∈l→y∈l→keyO x=keyO y→x=y
 |[],_,x,y,hx,_,_=>by cases hx
 |a::l,hs,x,y,hx,hy,e=>by
  have hs2:=List.pairwise_cons.1 hs
  rcases List.mem_cons.1 hx with e1|h1<;>rcases List.mem_cons.1 hy with e2|h2
  ·rw[e1,e2]
  ·subst e1;exact(lt_ne (hs2.1 y h2) e).elim
  ·subst e2;exact(lt_ne (hs2.1 x h1) e.symm).elim
  ·exact sorted_inj hs2.2 h1 h2 e
theorem get_self{l:List Object}(hs:Sorted l){x:Object}(hx:x∈l):getS l (keyO x)=some x:=by
 cases hg:getS l (keyO x)with
 |none=>
  have:=List.find?_eq_none.1 hg x hx
  simp[cO_zero]at this
 |some y=>
  obtain⟨h1,h2⟩:=get_mem hg
  rw[sorted_inj hs h1 hx h2]
open Go Go.Fw
set_option maxRecDepth 100000
set_option linter.unusedVariables false
set_option linter.unusedSimpArgs false
theorem lt_asy{a b:ByteArray}(h:lt a b):¬lt b a:=fun h'=>lt_irrefl a (lt_trans h h')
theorem le_of(a b:ByteArray):(Op.bytesLess a.toList b.toList||decide (a=b))=decide (¬lt b a):=by
 rw[bl_lt]
 by_cases h:lt a b
 ·simp[h,lt_asy h]
 ·by_cases h2:a=b
  ·subst h2;simp[lt_irrefl]
  ·simp[h,h2,lt_of_not h h2]
theorem nb_leq(a b:ByteArray):nb (Op.bytesLess a.toList b.toList||decide (a=b))=decide (lt b a):=by rw[le_of,nb_not];simp
theorem ordI_t(a b:Int):∃n,F101 (decide (a<b)) (decide (b<a))=some n∧(n=0↔a=b):=by
 rw[F101]
 by_cases h1:a<b
 ·rw[decide_eq_true h1,if_pos rfl];exact⟨_,rfl,by omega⟩
 ·rw[decide_eq_false h1,if_neg (by simp)]
  by_cases h2:b<a
  ·rw[decide_eq_true h2,if_pos rfl];exact⟨_,rfl,by omega⟩
  ·rw[decide_eq_false h2,if_neg (by simp)];exact⟨_,rfl,by omega⟩
theorem ordS_t(a b:ByteArray):∃n,F101 (Op.bytesLess a.toList b.toList) (nb (Op.bytesLess a.toList b.toList||decide (a=b)))=some n∧(n=0↔a=b):=by
 rw[F101,nb_leq,bl_lt]
 by_cases h1:lt a b
 ·rw[decide_eq_true h1,if_pos rfl];exact⟨_,rfl,by simp[lt_ne h1]⟩
 ·rw[decide_eq_false h1,if_neg (by simp)]
  by_cases h2:lt b a
  ·rw[decide_eq_true h2,if_pos rfl];exact⟨_,rfl,by simp[Ne.symm (lt_ne h2)]⟩
  ·rw[decide_eq_false h2,if_neg (by simp)];exact⟨_,rfl,by simp[lt_tri h1 h2]⟩
theorem eq_take{α:Type}{l r:List α}{m:Nat}(hm:min l.length r.length=m):l=r↔l.take m=r.take m∧l.length=r.length:=by
 constructor
 ·rintro rfl;exact⟨rfl,rfl⟩
 ·rintro⟨h1,h2⟩
  rwa [List.take_of_length_le (by omega),List.take_of_length_le (by omega)]at h1
theorem rcmp_l8(rc:TValue→TValue→Option Int)(x y:TValue)(hb:x.List_.length≤4294967290)(h:∀z∈x.List_,∀w,∃n,rc z w=some n∧(n=0↔z=w)):∀(m i k:Nat) (a:Int),min x.List_.length y.List_.length=i+m→m<k→∃n,F72_l8 rc x y k a (i:Int)=some n∧(n=0↔a=0∧(x.List_.drop i).take m=(y.List_.drop i).take m)
 |0,i,k+1,a,h1,_=>by
  rw[F72_l8]
  have:(if(i:Int)<(x.List_.length:Int)then(if(i:Int)<(y.List_.length:Int)then some (decide (a=0))else some false)else some false)=some false:=by
   by_cases g:(i:Int)<(x.List_.length:Int)
   ·rw[if_pos g,if_neg (by omega)]
   ·rw[if_neg g]
  rw[this]
  exact⟨a,rfl,by simp⟩
 |m+1,i,k+1,a,h1,hk=>by
  rw[F72_l8,if_pos (by omega),if_pos (by omega),Option.bind_some]
  by_cases h0:a=0
  ·rw[decide_eq_true h0,if_pos rfl,rdI_at (by omega),Option.bind_some,rdI_at (by omega),Option.bind_some,wrapN (by omega)]
   obtain⟨n,h2,h3⟩:=h x.List_[i] (List.getElem_mem _) y.List_[i]
   rw[h2,Option.bind_some]
   obtain⟨r,h4,h5⟩:=rcmp_l8 rc x y hb h m (i+1) k n (by omega) (by omega)
   refine⟨r,h4,h5.trans ?_⟩
   rw[h3,take_cons' (List.getElem?_eq_getElem (by omega)),take_cons' (List.getElem?_eq_getElem (by omega)),List.cons.injEq]
   simp[h0]
  ·rw[decide_eq_false h0,if_neg (by simp)]
   exact⟨a,rfl,by simp[h0]⟩
theorem rcmp_l19(rc:TValue→TValue→Option Int)(x y:TValue)(hb:x.Fields.length≤4294967290)(h:∀z∈x.Fields,∀w,∃n,rc z.V w=some n∧(n=0↔z.V=w)):∀(m i k:Nat) (a:Int),min x.Fields.length y.Fields.length=i+m→m<k→∃n,F72_l19 rc x y k a (i:Int)=some n∧(n=0↔a=0∧(x.Fields.drop i).take m=(y.Fields.drop i).take m)
 |0,i,k+1,a,h1,_=>by
  rw[F72_l19]
  have:(if(i:Int)<(x.Fields.length:Int)then(if(i:Int)<(y.Fields.length:Int)then some (decide (a=0))else some false)else some false)=some false:=by
   by_cases g:(i:Int)<(x.Fields.length:Int)
   ·rw[if_pos g,if_neg (by omega)]
   ·rw[if_neg g]
  rw[this]
  exact⟨a,rfl,by simp⟩
 |m+1,i,k+1,a,h1,hk=>by
  rw[F72_l19,if_pos (by omega),if_pos (by omega),Option.bind_some]
  by_cases h0:a=0
  ·rw[decide_eq_true h0,if_pos rfl,rdI_at (by omega),Option.bind_some,rdI_at (by omega),Option.bind_some,wrapN (by omega)]
   obtain⟨n,h2,h3⟩:=ordS_t x.Fields[i].Name y.Fields[i].Name
   obtain⟨p,p2,p3⟩:=h x.Fields[i] (List.getElem_mem _) y.Fields[i].V
   rw[h2,Option.bind_some,p2]
   have e:∃q,(if n=0 then(some p).bind fun t29=>some t29 else some n)=some q∧(q=0↔x.Fields[i]=y.Fields[i]):=by
    have hf:x.Fields[i]=y.Fields[i]↔x.Fields[i].Name=y.Fields[i].Name∧x.Fields[i].V=y.Fields[i].V:=by
     rcases x.Fields[i]with⟨a1,a2⟩;rcases y.Fields[i]with⟨b1,b2⟩;simp
    by_cases hn:n=0
    ·rw[if_pos hn];exact⟨p,rfl,by rw[p3,hf];simp[h3.1 hn]⟩
    ·rw[if_neg hn];exact⟨n,rfl,by rw[hf,h3];constructor
                                  ·intro hh;exact(hn (h3.2 hh)).elim
                                  ·intro hh;exact hh.1⟩
   obtain⟨q,e1,e2⟩:=e
   rw[e1,Option.bind_some]
   obtain⟨r,h4,h5⟩:=rcmp_l19 rc x y hb h m (i+1) k q (by omega) (by omega)
   refine⟨r,h4,h5.trans ?_⟩
   rw[e2,take_cons' (List.getElem?_eq_getElem (by omega)),take_cons' (List.getElem?_eq_getElem (by omega)),List.cons.injEq]
   simp[h0]
  ·rw[decide_eq_false h0,if_neg (by simp)]
   exact⟨a,rfl,by simp[h0]⟩
theorem zif{a:Int}{e:Option Int}{P Q:Prop}(ha:a=0↔P)(h:∃n,e=some n∧(n=0↔Q)):∃n,(if a=0 then e.bind fun t=>some t else some a)=some n∧(n=0↔P∧Q):=by
 obtain⟨n,h1,h2⟩:=h
 by_cases h0:a=0
 ·rw[if_pos h0,h1];exact⟨n,rfl,by rw[h2];simp[ha.1 h0]⟩
 ·rw[if_neg h0];exact⟨a,rfl,fun hh=>(h0 hh).elim,fun hh=>ha.2 hh.1⟩
theorem rcmp_t:∀(k:Nat) (x y:TValue),wTValue x≤k→wTValue x≤4294967290→∃n,F72k k x y=some n∧(n=0↔x=y)
 |0,x,y,h,_=>by have:=wV_pos x;omega
 |k+1,x,y,h,h2=>by
  have l1:=wV_ll x
  have l2:=wV_fl x
  rw[F72k,F72]
  obtain⟨a,a1,a2⟩:=ordI_t x.Kind y.Kind
  obtain⟨b,b1,b2⟩:=zif a2 (ordI_t x.N y.N)
  obtain⟨c,c1,c2⟩:=zif b2 (ordS_t x.S y.S)
  obtain⟨d,d1,d2⟩:=rcmp_l8 (F72k k) x y (by omega) (fun z hz y=>rcmp_t k z y (by have:=wV_list hz;omega) (by have:=wV_list hz;omega)) (min x.List_.length y.List_.length) 0 1099511627776 c (by omega) (by omega)
  obtain⟨e,e1,e2⟩:=zif d2 (ordI_t (x.List_.length:Int) (y.List_.length:Int))
  obtain⟨f,f1,f2⟩:=rcmp_l19 (F72k k) x y (by omega) (fun z hz y=>rcmp_t k z.V y (by have:=wV_field hz;omega) (by have:=wV_field hz;omega)) (min x.Fields.length y.Fields.length) 0 1099511627776 e (by omega) (by omega)
  obtain⟨g,g1,g2⟩:=zif f2 (ordI_t (x.Fields.length:Int) (y.Fields.length:Int))
  rw[show((0:Nat):Int)=0 from rfl]at d1 f1
  rw[a1,Option.bind_some,b1,Option.bind_some,c1,Option.bind_some,d1,Option.bind_some,e1,Option.bind_some,f1,Option.bind_some,g1]
  refine⟨g,rfl,g2.trans ?_⟩
  rw[e2,c2,List.drop_zero,List.drop_zero,List.drop_zero,List.drop_zero]
  have t1:=eq_take (l:=x.List_) (r:=y.List_) rfl
  have t2:=eq_take (l:=x.Fields) (r:=y.Fields) rfl
  have hx:x=y↔x.Kind=y.Kind∧x.N=y.N∧x.S=y.S∧x.List_=y.List_∧x.Fields=y.Fields:=by cases x;cases y;simp
  rw[hx,t1,t2]
  constructor
  ·rintro⟨⟨⟨⟨⟨⟨h1,h2⟩,h3⟩,h4⟩,h5⟩,h6⟩,h7⟩
   exact⟨h1,h2,h3,⟨h4,by omega⟩,h6,by omega⟩
  ·rintro⟨h1,h2,h3,⟨h4,h5⟩,h6,h7⟩
   exact⟨⟨⟨⟨⟨⟨h1,h2⟩,h3⟩,h4⟩,by omega⟩,h6⟩,by omega⟩
theorem reqV_t{x:TValue}(y:TValue)(h:wTValue x≤4000000):∃b,F42 x y=some b∧(b=true↔x=y):=by
 obtain⟨n,h1,h2⟩:=rcmp_t 1099511627776 x y (by omega) (by omega)
 exact⟨decide (n=0),by rw[F42,h1];rfl,by simpa using h2⟩
theorem rsame_l2(l x1:List ByteArray)(hl:l.length=x1.length):∀(xs:List ByteArray) (i:Nat),l.drop i=xs→F71_l2 x1 xs i=some (if xs=x1.drop i then .inr ()else .inl false)
 |[],i,e=>by
  have:l.length≤i:=by simpa using e
  rw[F71_l2,List.drop_of_length_le (by omega)];simp
 |x::xs,i,e=>by
  have hi:=(List.getElem?_eq_some_iff.1 (drop_hd e)).1
  have h1:i<x1.length:=by omega
  rw[F71_l2,rdI_at h1,Option.bind_some,rsame_l2 l x1 hl xs (i+1) (drop_tl e),List.drop_eq_getElem_cons h1]
  by_cases hx:x=x1[i]<;>simp only[hx,List.cons.injEq,true_and,false_and,not_true_eq_false,not_false_eq_true,if_true,if_false,Option.map_some,decide_true,decide_false,Bool.not_true,Bool.not_false,Bool.false_eq_true]
theorem rsame_t{l:List ByteArray}(x1:List ByteArray)(hl:l.length≤4294967290):F71 l x1=some (decide (l=x1)):=by
 rw[F71]
 by_cases h:(l.length:Int)=(x1.length:Int)
 ·rw[if_neg (by simpa using h),ck_t (by omega),Option.bind_some,rsame_l2 l x1 (by omega) l 0 (List.drop_zero ..),List.drop_zero]
  by_cases hx:l=x1<;>simp[hx]
 ·rw[if_pos h]
  have:l≠x1:=fun e=>h (by rw[e])
  simp[this]
theorem rmeta_l19(m:Meta)(l:List Label)(hl:l.length=m.Labels.length):∀(xs:List Label) (i:Nat),l.drop i=xs→F41_l19 m xs i=some (if xs=m.Labels.drop i then .inr ()else .inl false)
 |[],i,e=>by
  have:l.length≤i:=by simpa using e
  rw[F41_l19,List.drop_of_length_le (by omega)];simp
 |x::xs,i,e=>by
  have hi:=(List.getElem?_eq_some_iff.1 (drop_hd e)).1
  have h1:i<m.Labels.length:=by omega
  rw[F41_l19,rdI_at h1,Option.bind_some,rmeta_l19 m l hl xs (i+1) (drop_tl e),List.drop_eq_getElem_cons h1]
  have:(x.Key=m.Labels[i].Key∧x.Value=m.Labels[i].Value)↔x=m.Labels[i]:=by obtain⟨a,b⟩:=x;rcases m.Labels[i]with⟨c,d⟩;simp
  by_cases hx:x=m.Labels[i]
  ·rw[if_neg (not_not_intro (this.2 hx))];simp only[hx,List.cons.injEq,true_and]
  ·rw[if_pos (fun hh=>hx (this.1 hh))];simp only[hx,List.cons.injEq,false_and,if_false,Option.map_some]
theorem rmeta_l24(m:Meta)(l:List Owner)(hl:l.length=m.Owners.length):∀(xs:List Owner) (i:Nat),l.drop i=xs→F41_l24 m xs i=some (if xs=m.Owners.drop i then .inr ()else .inl false)
 |[],i,e=>by
  have:l.length≤i:=by simpa using e
  rw[F41_l24,List.drop_of_length_le (by omega)];simp
 |x::xs,i,e=>by
  have hi:=(List.getElem?_eq_some_iff.1 (drop_hd e)).1
  have h1:i<m.Owners.length:=by omega
  rw[F41_l24,rdI_at h1,Option.bind_some,rmeta_l24 m l hl xs (i+1) (drop_tl e),List.drop_eq_getElem_cons h1]
  have:(decide (x.Kind=m.Owners[i].Kind)&&(decide (x.Name=m.Owners[i].Name)&&(decide (x.Uid=m.Owners[i].Uid)&&((x.Controller==m.Owners[i].Controller)&&(x.Block==m.Owners[i].Block)))))=decide (x=m.Owners[i]):=by
   obtain⟨a,b,c,d,e⟩:=x;rcases m.Owners[i]with⟨a',b',c',d',e'⟩
   rw[Bool.eq_iff_iff];simp
  rw[this,nb_not]
  by_cases hx:x=m.Owners[i]<;>simp only[hx,List.cons.injEq,true_and,false_and,not_true_eq_false,not_false_eq_true,if_true,if_false,Option.map_some,decide_true,decide_false,Bool.not_true,Bool.not_false,Bool.false_eq_true]
theorem rmeta_l29(m:Meta)(l:List Manager)(hl:l.length=m.Managers.length)(hm:∀z∈l,z.Fields.length≤4294967290):∀(xs:List Manager) (i:Nat),l.drop i=xs→F41_l29 m xs i=some (if xs=m.Managers.drop i then .inr ()else .inl false)
 |[],i,e=>by
  have:l.length≤i:=by simpa using e
  rw[F41_l29,List.drop_of_length_le (by omega)];simp
 |x::xs,i,e=>by
  have hi:=(List.getElem?_eq_some_iff.1 (drop_hd e)).1
  have h1:i<m.Managers.length:=by omega
  rw[F41_l29,rdI_at h1,Option.bind_some,rmeta_l29 m l hl hm xs (i+1) (drop_tl e),List.drop_eq_getElem_cons h1,rsame_t _ (hm x (List.mem_of_getElem? (drop_hd e)))]
  have hf:x=m.Managers[i]↔x.Name=m.Managers[i].Name∧x.Fields=m.Managers[i].Fields:=by obtain⟨a,b⟩:=x;rcases m.Managers[i]with⟨c,d⟩;simp
  have e2:(if¬x.Name=m.Managers[i].Name then some true else(some (decide (x.Fields=m.Managers[i].Fields))).bind fun t34=>some (nb t34))=some (decide (¬x=m.Managers[i])):=by
   by_cases h2:x.Name=m.Managers[i].Name<;>by_cases h3:x.Fields=m.Managers[i].Fields<;>simp[hf,h2,h3,nb_not]
  rw[e2,Option.bind_some]
  by_cases hx:x=m.Managers[i]<;>simp only[hx,List.cons.injEq,true_and,false_and,not_true_eq_false,not_false_eq_true,if_true,if_false,Option.map_some,decide_true,decide_false,Bool.not_true,Bool.not_false,Bool.false_eq_true]
theorem app_inj{a b c:ByteArray}(h:a++b=a++c):b=c:=by
 have:=congrArg (fun x:ByteArray=>x.data.toList) h
 simp only[ByteArray.data_append,Array.toList_append]at this
 have e:=List.append_cancel_left this
 obtain⟨⟨b⟩⟩:=b;obtain⟨⟨c⟩⟩:=c
 simp only at e;rw[e]
open Go Go.Fw
set_option maxRecDepth 100000
set_option linter.unusedVariables false
set_option linter.unusedSimpArgs false
theorem ne_of{α β:Type}{f:α→β}{a b:α}(h:f a≠f b):a≠b:=fun e=>h (by rw[e])
theorem rmeta_t{o p:Object}(ho:OW o)(hp:OW p):F41 o.Meta p.Meta=some (decide (o.Meta=p.Meta)):=by
 have b1:=ho.labels;have b2:=ho.owners;have b3:=ho.fins;have b4:=ho.mans;have b5:=ho.man
 rw[F41,rKeyOf_t ho.key,rKeyOf_t hp.key]
 simp only[Option.bind_some]
 generalize o.Meta=m at*
 generalize p.Meta=m' at*
 by_cases h0:keyB m=keyB m'
 rotate_left
 ·rw[if_pos h0];simp[ne_of h0]
 rw[if_neg (not_not_intro h0)]
 by_cases h1:m.Kind=m'.Kind
 rotate_left
 ·rw[if_pos h1];simp[ne_of h1]
 rw[if_neg (not_not_intro h1)]
 by_cases h2:m.Namespace=m'.Namespace
 rotate_left
 ·rw[if_pos h2];simp[ne_of h2]
 rw[if_neg (not_not_intro h2)]
 by_cases h3:m.Uid=m'.Uid
 rotate_left
 ·rw[if_pos h3];simp[ne_of h3]
 rw[if_neg (not_not_intro h3)]
 by_cases h4:m.Version=m'.Version
 rotate_left
 ·rw[if_pos h4];simp[ne_of h4]
 rw[if_neg (not_not_intro h4)]
 by_cases h5:m.Generation=m'.Generation
 rotate_left
 ·rw[if_pos h5];simp[ne_of h5]
 rw[if_neg (not_not_intro h5)]
 by_cases h6:m.Created=m'.Created
 rotate_left
 ·rw[if_pos h6];simp[ne_of h6]
 rw[if_neg (not_not_intro h6)]
 by_cases h7:m.Deleting=m'.Deleting
 rotate_left
 ·rw[if_pos (by cases hh:m.Deleting<;>cases hk:m'.Deleting<;>simp_all)];simp[ne_of h7]
 rw[if_neg (by rw[h7];simp)]
 by_cases h8:m.DeleteAt=m'.DeleteAt
 rotate_left
 ·rw[decide_eq_true h8];simp[ne_of h8]
 rw[decide_eq_false (not_not_intro h8)]
 simp only[Option.bind_some,Bool.false_eq_true,if_false]
 by_cases g1:(m.Labels.length:Int)=(m'.Labels.length:Int)
 rotate_left
 ·rw[if_pos g1];simp[ne_of (f:=fun m:Meta=>(m.Labels.length:Int)) g1]
 rw[if_neg (not_not_intro g1)]
 by_cases g2:(m.Owners.length:Int)=(m'.Owners.length:Int)
 rotate_left
 ·rw[if_pos g2];simp[ne_of (f:=fun m:Meta=>(m.Owners.length:Int)) g2]
 rw[if_neg (not_not_intro g2)]
 by_cases g3:(m.Managers.length:Int)=(m'.Managers.length:Int)
 rotate_left
 ·rw[if_pos g3];simp[ne_of (f:=fun m:Meta=>(m.Managers.length:Int)) g3]
 rw[if_neg (not_not_intro g3),rsame_t _ (by omega)]
 simp only[Option.bind_some,nb_not]
 by_cases g4:m.Finalizers=m'.Finalizers
 rotate_left
 ·simp only[g4,decide_false,Bool.not_false,if_true];simp[ne_of g4]
 simp only[g4,decide_true,Bool.not_true,Bool.false_eq_true,if_false]
 rw[ck_t (by omega),ck_t (by omega),ck_t (by omega)]
 simp only[Option.bind_some]
 rw[rmeta_l19 m' m.Labels (by omega) m.Labels 0 (List.drop_zero ..),rmeta_l24 m' m.Owners (by omega) m.Owners 0 (List.drop_zero ..),rmeta_l29 m' m.Managers (by omega) (fun z hz=>by have:=b5 z hz;omega) m.Managers 0 (List.drop_zero ..)]
 simp only[List.drop_zero,Option.bind_some]
 by_cases k1:m.Labels=m'.Labels
 rotate_left
 ·simp only[k1,if_false];simp[ne_of k1]
 simp only[k1,if_true]
 by_cases k2:m.Owners=m'.Owners
 rotate_left
 ·simp only[k2,if_false];simp[ne_of k2]
 simp only[k2,if_true]
 by_cases k3:m.Managers=m'.Managers
 rotate_left
 ·simp only[k3,if_false];simp[ne_of k3]
 simp only[k3,if_true]
 have h9:m.Name=m'.Name:=by
  unfold keyB at h0
  rw[h1,h2]at h0
  exact app_inj h0
 have:m=m':=by
  obtain⟨a1,a2,a3,a4,a5,a6,a7,a8,a9,a10,a11,a12,a13⟩:=m
  obtain⟨c1,c2,c3,c4,c5,c6,c7,c8,c9,c10,c11,c12,c13⟩:=m'
  simp only at*
  simp only[Meta.mk.injEq]
  exact⟨h1,h2,h9,h3,h4,h5,h6,h7,h8,k1,k2,g4,k3⟩
 simp[this]
theorem reqO_t{o p:Object}(ho:OW o)(hp:OW p):∃b,F16 o p=some b∧(b=true↔o=p):=by
 obtain⟨a,a1,a2⟩:=reqV_t p.Spec ho.spec
 obtain⟨c,c1,c2⟩:=reqV_t p.Status ho.status
 rw[F16,rmeta_t ho hp,a1,c1]
 have hx:o=p↔o.Meta=p.Meta∧o.Spec=p.Spec∧o.Status=p.Status:=by cases o;cases p;simp
 rw[hx]
 simp only[Option.bind_some]
 by_cases h1:o.Meta=p.Meta
 ·cases a
  ·refine⟨false,by simp[h1],?_⟩
   constructor
   ·intro h;cases h
   ·rintro⟨_,h2,_⟩;exact a2.2 h2
  ·refine⟨c,by simp[h1],?_⟩
   rw[c2];exact⟨fun h=>⟨h1,a2.1 rfl,h⟩,fun h=>h.2.2⟩
 ·exact⟨false,by simp[h1],by simp[h1]⟩
theorem reqO_self{o:Object}(ho:OW o):F16 o o=some true:=by
 obtain⟨b,h1,h2⟩:=reqO_t ho ho
 rw[h1,h2.2 rfl]
theorem reql_l1(l:List Object)(h:∀o∈l,OW o)(hl:l.length≤4000000):∀(m i k:Nat),l.length=i+m→m<k→F25_l1 l l k (i:Int)=some (.inr ())
 |0,i,k+1,h1,_=>by
  rw[F25_l1,if_neg (by omega)];rfl
 |m+1,i,k+1,h1,h2=>by
  rw[F25_l1,if_pos (by omega),decide_eq_true (by omega),Option.bind_some,if_pos rfl,rdI_at (by omega),Option.bind_some,Option.bind_some,reqO_self (h _ (List.getElem_mem _)),wrapN (by omega)]
  simp only[Option.bind_some,show nb true=false from rfl,Bool.false_eq_true,if_false]
  exact reql_l1 l h hl m (i+1) k (by omega) (by omega)
theorem reql_self{l:List Object}(h:∀o∈l,OW o)(hl:l.length≤4000000):F25 l l=some true:=by
 have:=reql_l1 l h hl l.length 0 1099511627776 (by omega) (by omega)
 rw[show((0:Nat):Int)=0 from rfl]at this
 rw[F25,this];simp
open Go Go.Fw
set_option maxRecDepth 100000
set_option linter.unusedVariables false
set_option linter.unusedSimpArgs false
open Go Go.Fw
set_option maxRecDepth 100000
set_option linter.unusedVariables false
set_option linter.unusedSimpArgs false
open Go Go.Fw
set_option maxRecDepth 100000
set_option linter.unusedVariables false
set_option linter.unusedSimpArgs false
open Go Go.Fw
set_option maxRecDepth 100000
set_option linter.unusedVariables false
set_option linter.unusedSimpArgs false
open Go Go.Fw
set_option maxRecDepth 100000
set_option linter.unusedVariables false
set_option linter.unusedSimpArgs false
open Go Go.Fw
set_option maxRecDepth 100000
set_option linter.unusedVariables false
set_option linter.unusedSimpArgs false
open Go Go.Fw
set_option maxRecDepth 100000
set_option linter.unusedVariables false
set_option linter.unusedSimpArgs false
open Go Go.Fw
set_option maxRecDepth 100000
set_option linter.unusedVariables false
set_option linter.unusedSimpArgs false
open Go Go.Fw
set_option maxRecDepth 100000
set_option linter.unusedVariables false
set_option linter.unusedSimpArgs false
open Go Go.Fw
set_option maxRecDepth 100000
set_option linter.unusedVariables false
set_option linter.unusedSimpArgs false
open Go Go.Fw
set_option maxRecDepth 100000
set_option linter.unusedVariables false
set_option linter.unusedSimpArgs false
open Go Go.Fw
set_option maxRecDepth 100000
set_option linter.unusedVariables false
set_option linter.unusedSimpArgs false
def fin(s:TStore)(r:Int×List Event×Bool):Int×List Event:=
 if r.2.2=true then(r.1,r.2.1)else if r.1<s.Rev then(s.Rev,r.2.1++[⟨4,s.Rev,ZO⟩])else(r.1,r.2.1)
open Go Go.Fw
set_option maxRecDepth 100000
set_option linter.unusedVariables false
set_option linter.unusedSimpArgs false
theorem get_iff{l:List Object}(hs:Sorted l){k:ByteArray}{y:Object}:getS l k=some y↔y∈l∧keyO y=k:=
 ⟨get_mem,fun h=>by rw[←h.2];exact get_self hs h.1⟩
theorem rep_mem_iff{l:List Object}{c:Change}{y:Object}:y∈repS l c↔(c.Kind≠2∧y=c.Object)∨(y∈l∧keyO y≠keyO c.Object):=by
 unfold repS
 by_cases h:c.Kind=2
 ·rw[if_pos h,rm_mem];simp[h]
 ·rw[if_neg h,insC_mem,rm_mem];simp[h]
theorem get_rep{l:List Object}(hs:Sorted l)(c:Change)(u:ByteArray):getS (repS l c) u=if u=keyO c.Object then(if c.Kind=2 then none else some c.Object)else getS l u:=by
 refine Option.ext fun y=>?_
 rw[get_iff (rep_sorted c hs),rep_mem_iff]
 by_cases hu:u=keyO c.Object
 ·rw[if_pos hu]
  by_cases hk:c.Kind=2
  ·rw[if_pos hk]
   constructor
   ·rintro⟨h|h,e⟩
    ·exact absurd hk h.1
    ·exact absurd (e.trans hu) h.2
   ·intro h;cases h
  ·rw[if_neg hk]
   constructor
   ·rintro⟨h|h,e⟩
    ·rw[h.2]
    ·exact absurd (e.trans hu) h.2
   ·intro h
    cases h
    exact⟨.inl ⟨hk,rfl⟩,hu.symm⟩
 ·rw[if_neg hu,get_iff hs]
  constructor
  ·rintro⟨h|h,e⟩
   ·rw[h.2]at e;exact absurd e.symm hu
   ·exact⟨h.1,e⟩
  ·rintro⟨h,e⟩
   exact⟨.inr ⟨h,fun h2=>hu (e.symm.trans h2)⟩,e⟩
open Go Go.Fw
set_option maxRecDepth 100000
set_option linter.unusedVariables false
set_option linter.unusedSimpArgs false
theorem keyM_t{o:Object}(h:OW o):F33 o.Meta=some (keyO o):=KeyOf_t h.key
theorem getS_app(l:List Object)(x:Object)(u:ByteArray):getS (l++[x]) u=(getS l u).or (if keyO x=u then some x else none):=by
 unfold getS
 rw[List.find?_append]
 congr 1
 by_cases h:keyO x=u
 ·rw[if_pos h,List.find?_cons_of_pos (by simp[cO_zero,h])]
 ·rw[if_neg h,List.find?_cons_of_neg (by simp[cO_zero,h])];rfl
open Go Go.Fw
set_option maxRecDepth 100000
set_option linter.unusedVariables false
set_option linter.unusedSimpArgs false
theorem rvals_l12(l:List ByteArray)(r:Requirement)(hr:r.Values=l):∀(xs:List ByteArray) (i:Nat),l.drop i=xs→F40_l12 r xs i=some (.inr ())
 |[],i,e=>by rw[F40_l12]
 |x::xs,i,e=>by
  have hx:=drop_hd e
  rw[F40_l12,hr,rdI_val hx]
  simp only[Option.bind_some,not_true_eq_false,if_false]
  exact rvals_l12 l r hr xs (i+1) (drop_tl e)
theorem rfl_l5{f:Filter}(h:selOk f.Selector):∀(xs:List Requirement) (i:Nat),f.Selector.drop i=xs→F40_l5 f xs i=some (.inr ())
 |[],i,e=>by rw[F40_l5]
 |x::xs,i,e=>by
  have hx:=drop_hd e
  have hv:=h.2 x (List.mem_of_getElem? hx)
  rw[F40_l5,rdI_val hx]
  simp only[Option.bind_some,not_true_eq_false,if_false,decide_false,Bool.false_eq_true]
  rw[ck_t (by omega),Option.bind_some,rvals_l12 x.Values x rfl x.Values 0 (List.drop_zero ..)]
  exact rfl_l5 h xs (i+1) (drop_tl e)
theorem eqfl_t{f:Filter}(h:selOk f.Selector):F40 f f=some true:=by
 have:=h.1
 rw[F40]
 simp only[Option.bind_some,not_true_eq_false,if_false,decide_false,Bool.false_eq_true]
 rw[ck_t (by omega),Option.bind_some,rfl_l5 h f.Selector 0 (List.drop_zero ..)]
 rfl
theorem filt_ok{f:Filter}{k:Nat}(hw:wFilter f≤k)(hk:k≤1048576):selOk f.Selector:=by
 have ha:=fun r (hr:r∈f.Selector)=>wL_mem (w:=wRequirement) hr
 have hl:=wL_len (w:=wRequirement) (fun a=>by unfold wRequirement;omega) f.Selector
 unfold wFilter at hw
 refine⟨by omega,fun r hr=>?_⟩
 have a1:=ha r hr
 have a2:=wL_len (w:=wS) (fun a=>by unfold wS;omega) r.Values
 unfold wRequirement at a1 hw
 omega
open Go Go.Fw
set_option maxRecDepth 100000
set_option linter.unusedVariables false
set_option linter.unusedSimpArgs false
open Go Go.Fw
set_option maxRecDepth 100000
set_option linter.unusedVariables false
set_option linter.unusedSimpArgs false
theorem sorted_ext:∀{a b:List Object},Sorted a→Sorted b→(∀x,x∈a↔x∈b)→a=b
 |[],[],_,_,_=>rfl
 |[],y::b,_,_,h=>by have:=(h y).2 (List.mem_cons_self ..);cases this
 |x::a,[],_,_,h=>by have:=(h x).1 (List.mem_cons_self ..);cases this
 |x::a,y::b,ha,hb,h=>by
  have ha2:=List.pairwise_cons.1 ha
  have hb2:=List.pairwise_cons.1 hb
  have e:x=y:=by
   rcases List.mem_cons.1 ((h x).1 (List.mem_cons_self ..))with e|h1
   ·exact e
   ·rcases List.mem_cons.1 ((h y).2 (List.mem_cons_self ..))with e|h2
    ·exact e.symm
    ·exact(lt_asy (ha2.1 y h2) (hb2.1 x h1)).elim
  subst e
  rw[sorted_ext ha2.2 hb2.2 fun z=>?_]
  constructor
  ·intro hz
   rcases List.mem_cons.1 ((h z).1 (List.mem_cons_of_mem _ hz))with e|h1
   ·subst e;exact(lt_irrefl _ (ha2.1 _ hz)).elim
   ·exact h1
  ·intro hz
   rcases List.mem_cons.1 ((h z).2 (List.mem_cons_of_mem _ hz))with e|h1
   ·subst e;exact(lt_irrefl _ (hb2.1 _ hz)).elim
   ·exact h1
open Go Go.Fw
set_option maxRecDepth 100000
set_option linter.unusedVariables false
set_option linter.unusedSimpArgs false
theorem bless_lt:∀x y:List UInt8,Op.bytesLess x y=decide (x<y)
 |[],[]=>by simp[Op.bytesLess]
 |[],b::y=>by simp[Op.bytesLess]
 |a::x,[]=>by simp[Op.bytesLess]
 |a::x,b::y=>by
  rw[Op.bytesLess,bless_lt x y,Bool.eq_iff_iff]
  simp only[Bool.or_eq_true,decide_eq_true_eq,Bool.and_eq_true,beq_iff_eq,List.cons_lt_cons_iff]
theorem toList_bl(b:ByteArray):b.toList=bl b:=by
 rw[show bl b=b.data.toList from rfl];exact Go.ByteArray.toList_eq b
theorem lt_bl(a b:ByteArray):lt a b↔bl a<bl b:=by
 unfold lt;rw[toList_bl,toList_bl,bless_lt];simp
theorem sortL_perm(xs:List ByteArray):(sortL xs).Perm xs:=by
 have h:=(List.mergeSort_perm (xs.map bl) (fun x y=>decide (x≤y))).map lb
 rw[List.map_map]at h
 have e:xs.map (lb∘bl)=xs:=by
  have:(lb∘bl)=id:=funext lb_bl
  rw[this,List.map_id]
 rw[e]at h;rw[sortL_eq];exact h
theorem sortL_mem(z:ByteArray)(xs:List ByteArray):z∈sortL xs↔z∈xs:=(sortL_perm xs).mem_iff
theorem sortL_pw(xs:List ByteArray):(sortL xs).Pairwise fun a b=>¬lt b a:=by
 have h:=List.pairwise_mergeSort (le:=fun x y:List UInt8=>decide (x≤y)) (fun a b c h1 h2=>by simp only[decide_eq_true_eq]at*;exact List.le_trans h1 h2) (fun a b=>by simp only[Bool.or_eq_true,decide_eq_true_eq];exact List.le_total a b) (xs.map bl)
 rw[sortL_eq,List.pairwise_map]
 refine h.imp fun{a b} hab=>?_
 rw[lt_bl,bl_lb,bl_lb]
 simp only[decide_eq_true_eq]at hab
 exact List.not_lt.2 hab
theorem sort_nd{ks:List ByteArray}(h:ks.Nodup):(sortL ks).Pairwise lt:=by
 have h1:=sortL_pw ks
 have h2:(sortL ks).Nodup:=(sortL_perm ks).nodup_iff.2 h
 exact(h1.and h2).imp fun{a b} hab=>lt_of_not hab.1 (Ne.symm hab.2)
theorem getM_putM{α:Type}(k k':ByteArray)(v:α):∀m:List (ByteArray×α),getM k (putM k' v m)=if k'=k then some v else getM k m
 |[]=>by simp[putM,getM]
 |e::r=>by
  unfold putM
  by_cases h:e.1=k'
  ·rw[if_pos h]
   by_cases h2:k'=k
   ·rw[if_pos h2,getM,if_pos h2]
   ·rw[if_neg h2,getM,if_neg h2,getM,if_neg (by rw[h];exact h2)]
  ·rw[if_neg h,getM,getM_putM k k' v r,getM]
   by_cases h2:e.1=k
   ·rw[if_pos h2,if_pos h2,if_neg (by rw[←h2];exact fun h'=>h h'.symm)]
   ·rw[if_neg h2,if_neg h2]
theorem clives_t:F10=some true:=by
 set_option maxRecDepth 1000000 in
 kernel_rfl
theorem getM_delM{α:Type}(k k':ByteArray):∀m:List (ByteArray×α),(m.map Prod.fst).Nodup→getM k (delM k' m)=if k'=k then none else getM k m
 |[],_=>by simp[delM,getM]
 |e::r,h=>by
  rw[List.map_cons,List.nodup_cons]at h
  rw[delM]
  by_cases h1:e.1=k'
  ·rw[if_pos h1,getM]
   by_cases h2:k'=k
   ·rw[if_pos h2]
    have:e.1=k:=h1.trans h2
    have key:∀r:List (ByteArray×α),e.1∉r.map Prod.fst→getM k r=none:=by
     intro r
     induction r with
     |nil=>intro _;rfl
     |cons a r ih=>
      intro hr
      rw[List.map_cons,List.mem_cons,not_or]at hr
      rw[getM,if_neg (fun hh=>hr.1 (this.trans hh.symm)),ih hr.2]
    exact key r h.1
   ·rw[if_neg h2,if_neg (fun hh=>h2 (h1.symm.trans hh))]
  ·rw[if_neg h1,getM,getM,getM_delM k k' r h.2]
   by_cases h2:e.1=k
   ·rw[if_pos h2,if_pos h2,if_neg (fun hh=>h1 (h2.trans hh.symm))]
   ·rw[if_neg h2,if_neg h2]
theorem putM_keys{α:Type}(k:ByteArray)(v:α)(z:ByteArray):∀m:List (ByteArray×α),z∈(putM k v m).map Prod.fst↔z=k∨z∈m.map Prod.fst
 |[]=>by simp[putM]
 |e::r=>by
  rw[putM]
  by_cases h:e.1=k
  ·rw[if_pos h];simp[h]
  ·rw[if_neg h,List.map_cons,List.mem_cons,putM_keys k v z r,List.map_cons,List.mem_cons]
   constructor
   ·rintro(h1|h1|h1)
    ·exact .inr (.inl h1)
    ·exact .inl h1
    ·exact .inr (.inr h1)
   ·rintro(h1|h1|h1)
    ·exact .inr (.inl h1)
    ·exact .inl h1
    ·exact .inr (.inr h1)
theorem putM_nodup{α:Type}(k:ByteArray)(v:α):∀m:List (ByteArray×α),(m.map Prod.fst).Nodup→((putM k v m).map Prod.fst).Nodup
 |[],_=>by simp[putM]
 |e::r,h=>by
  rw[List.map_cons,List.nodup_cons]at h
  rw[putM]
  by_cases h1:e.1=k
  ·rw[if_pos h1,List.map_cons,List.nodup_cons]
   exact⟨by rw[←h1];exact h.1,h.2⟩
  ·rw[if_neg h1,List.map_cons,List.nodup_cons,putM_keys]
   exact⟨fun hh=>hh.elim h1 h.1,putM_nodup k v r h.2⟩
theorem delM_sub{α:Type}(k:ByteArray):∀m:List (ByteArray×α),List.Sublist (delM k m) m
 |[]=>List.Sublist.slnil
 |e::r=>by
  rw[delM];split
  ·exact List.sublist_cons_self ..
  ·exact(delM_sub k r).cons_cons e
theorem putM_len{α:Type}(k:ByteArray)(v:α):∀m:List (ByteArray×α),(putM k v m).length≤m.length+1
 |[]=>by simp[putM]
 |e::r=>by
  rw[putM];split
  ·simp
  ·have:=putM_len k v r;simp;omega
theorem getM_key{α:Type}{k:ByteArray}{v:α}:∀{m:List (ByteArray×α)},getM k m=some v→k∈m.map Prod.fst
 |[],h=>by cases h
 |e::r,h=>by
  rw[getM]at h
  by_cases h1:e.1=k
  ·rw[List.map_cons,h1];exact List.mem_cons_self ..
  ·rw[if_neg h1]at h;rw[List.map_cons];exact List.mem_cons_of_mem _ (getM_key h)
theorem key_getM{α:Type}{k:ByteArray}:∀{m:List (ByteArray×α)},k∈m.map Prod.fst→∃v,getM k m=some v
 |[],h=>by cases h
 |e::r,h=>by
  rw[getM]
  by_cases h1:e.1=k
  ·rw[if_pos h1];exact⟨_,rfl⟩
  ·rw[if_neg h1]
   rw[List.map_cons,List.mem_cons]at h
   exact key_getM (h.resolve_left fun hh=>h1 hh.symm)
structure Rel(m:List (ByteArray×Object))(l:List Object):Prop where
 nd:(m.map Prod.fst).Nodup
 gt:∀u,getM u m=getS l u
 ln:m.length≤4000
def evC(e:Event):Change:=⟨0,if e.Type_=3 then 2 else 1,e.Object⟩
def apE(st:Int×List Object)(e:Event):Int×List Object:=if e.Rev≤st.1 then st else(e.Rev,if 1≤e.Type_∧e.Type_≤3 then repS st.2 (evC e)else st.2)
def apS(st:Int×List Object)(l:List Event):Int×List Object:=l.foldl apE st
theorem apE_keep{st:Int×List Object}{e:Event}(h1:Sorted st.2)(h2:∀o∈st.2,OW o)(he:OW e.Object):Sorted (apE st e).2∧(∀o∈(apE st e).2,OW o)∧(apE st e).2.length≤st.2.length+1:=by
 unfold apE
 split
 ·exact⟨h1,h2,by omega⟩
 ·show Sorted (if _ then _ else _)∧_∧(if _ then _ else _:List Object).length≤_
  split
  ·exact⟨rep_sorted _ h1,fun o ho=>(rep_mem ho).elim (h2 o) fun h=>h▸he,rep_len _ _⟩
  ·exact⟨h1,h2,by omega⟩
theorem apS_keep:∀(l:List Event) {st:Int×List Object},Sorted st.2→(∀o∈st.2,OW o)→(∀e∈l,OW e.Object)→Sorted (apS st l).2∧(∀o∈(apS st l).2,OW o)∧(apS st l).2.length≤st.2.length+l.length
 |[],st,h1,h2,_=>⟨h1,h2,by simp[apS]⟩
 |e::l,st,h1,h2,h3=>by
  obtain⟨a,b,c⟩:=apE_keep (e:=e) h1 h2 (h3 e (List.mem_cons_self ..))
  obtain⟨x,y,z⟩:=apS_keep l a b fun e he=>h3 e (List.mem_cons_of_mem _ he)
  exact⟨x,y,by simp only[List.length_cons];show(apS (apE st e) l).2.length≤_;omega⟩
theorem rel_l1:∀(l:List Object) (i:Nat) (m:List (ByteArray×Object)) (p:List Object),Sorted (p++l)→(∀o∈l,OW o)→(m.map Prod.fst).Nodup→(∀u,getM u m=getS p u)→m.length+l.length≤1000→∃m',F11_l1 l i m=some m'∧(m'.map Prod.fst).Nodup∧(∀u,getM u m'=getS (p++l) u)∧m'.length≤m.length+l.length
 |[],i,m,p,_,_,h3,h4,_=>⟨m,by rw[F11_l1],h3,by rw[List.append_nil];exact h4,by simp⟩
 |x::l,i,m,p,h1,h2,h3,h4,h5=>by
  have hx:=h2 x (List.mem_cons_self ..)
  have hno:getS p (keyO x)=none:=by
   cases hg:getS p (keyO x)with
   |none=>rfl
   |some y=>
    obtain⟨y1,y2⟩:=get_mem hg
    have:=(List.pairwise_append.1 h1).2.2 y y1 x (List.mem_cons_self ..)
    exact(lt_ne this y2).elim
  have hpl:=putM_len (keyO x) x m
  simp only[List.length_cons]at h5
  rw[F11_l1,keyM_t hx,Option.bind_some]
  obtain⟨m',m1,m2,m3,m4⟩:=rel_l1 l (i+1) (putM (keyO x) x m) (p++[x]) (by rw[List.append_assoc];exact h1) (fun o ho=>h2 o (List.mem_cons_of_mem _ ho)) (putM_nodup _ _ m h3) (fun u=>by
   rw[getM_putM,getS_app,h4 u]
   by_cases hu:keyO x=u
   ·rw[if_pos hu,if_pos hu,←hu,hno];rfl
   ·rw[if_neg hu,if_neg hu];cases getS p u<;>rfl) (by omega)
  exact⟨m',m1,m2,by rw[List.append_assoc]at m3;exact m3,by simp only[List.length_cons];omega⟩
theorem rel_step{m:List (ByteArray×Object)}{st:Int×List Object}(hr:Rel m st.2)(hs:Sorted st.2){e:Event}(he:OW e.Object)(hl:m.length≤3999):∃m',(if e.Rev≤st.1 then some (st.1,m)else(F33 e.Object.Meta).bind fun t9=>((if e.Type_=1 then some (decide (e.Type_=1))else some (decide (e.Type_=2)))).bind fun o10=>(if o10=true then some ((e.Rev,(putM t9 e.Object m)))else(if e.Type_=3 then some ((e.Rev,(delM t9 m)))else some ((e.Rev,m)))))=some ((apE st e).1,m')∧Rel m' (apE st e).2∧m'.length≤m.length+1:=by
 unfold apE
 by_cases g:e.Rev≤st.1
 ·rw[if_pos g,if_pos g];exact⟨m,rfl,hr,by omega⟩
 rw[if_neg g,if_neg g,keyM_t he,Option.bind_some]
 have eo:(if e.Type_=1 then some (decide (e.Type_=1))else some (decide (e.Type_=2)))=some (decide (e.Type_=1∨e.Type_=2)):=by
  by_cases h1:e.Type_=1<;>simp[h1]
 rw[eo,Option.bind_some]
 have hgr:=get_rep hs (evC e)
 by_cases h12:e.Type_=1∨e.Type_=2
 ·rw[decide_eq_true h12,if_pos rfl]
  refine⟨_,rfl,?_,putM_len _ _ _⟩
  show Rel _ (if _ then _ else _)
  rw[if_pos (by omega)]
  refine⟨putM_nodup _ _ m hr.nd,fun u=>?_,by have:=putM_len (keyO e.Object) e.Object m;omega⟩
  rw[getM_putM,hgr,hr.gt]
  have hk:(evC e).Kind=1:=by unfold evC;rw[if_neg (by omega)]
  by_cases hu:keyO e.Object=u
  ·rw[if_pos hu,if_pos (show u=keyO (evC e).Object from hu.symm),if_neg (by omega)];rfl
  ·rw[if_neg hu,if_neg (fun h:u=keyO (evC e).Object=>hu h.symm)]
 ·rw[decide_eq_false h12,if_neg (by simp)]
  by_cases h3:e.Type_=3
  ·rw[if_pos h3]
   refine⟨_,rfl,?_,by have:=(delM_sub (keyO e.Object) m).length_le;omega⟩
   show Rel _ (if _ then _ else _)
   rw[if_pos (by omega)]
   refine⟨((delM_sub (keyO e.Object) m).map Prod.fst).nodup hr.nd,fun u=>?_,by have:=(delM_sub (keyO e.Object) m).length_le;omega⟩
   rw[getM_delM _ _ _ hr.nd,hgr,hr.gt]
   have hk:(evC e).Kind=2:=by unfold evC;rw[if_pos h3]
   by_cases hu:keyO e.Object=u
   ·rw[if_pos hu,if_pos (show u=keyO (evC e).Object from hu.symm),if_pos hk]
   ·rw[if_neg hu,if_neg (fun h:u=keyO (evC e).Object=>hu h.symm)]
  ·rw[if_neg h3]
   refine⟨_,rfl,?_,by omega⟩
   show Rel _ (if _ then _ else _)
   rw[if_neg (by omega)]
   exact hr
theorem rel_l5:∀(l:List Event) (i:Nat) (st:Int×List Object) (m:List (ByteArray×Object)),Rel m st.2→Sorted st.2→(∀o∈st.2,OW o)→(∀e∈l,OW e.Object)→m.length+l.length≤3999→∃m',F11_l5 l i st.1 m=some ((apS st l).1,m')∧Rel m' (apS st l).2∧m'.length≤m.length+l.length
 |[],i,st,m,h1,_,_,_,_=>⟨m,by rw[F11_l5];rfl,h1,by simp⟩
 |e::l,i,st,m,h1,h2,h3,h4,h5=>by
  have he:=h4 e (List.mem_cons_self ..)
  simp only[List.length_cons]at h5
  obtain⟨m',m1,m2,m3⟩:=rel_step h1 h2 he (by omega)
  obtain⟨a,b,_⟩:=apE_keep (e:=e) h2 h3 he
  obtain⟨m2',n1,n2,n3⟩:=rel_l5 l (i+1) (apE st e) m' m2 a b (fun x hx=>h4 x (List.mem_cons_of_mem _ hx)) (by omega)
  rw[F11_l5,m1,Option.bind_some]
  exact⟨m2',n1,n2,by simp only[List.length_cons];omega⟩
open Go Go.Fw
set_option maxRecDepth 100000
set_option linter.unusedVariables false
set_option linter.unusedSimpArgs false
theorem cvc_l3(rc:TValue→Option (List TValue×List TField))(l:List TValue)(h:∀y∈l,rc y=some (y.List_,y.Fields)):∀(xs:List TValue) (i:Nat),l.drop i=xs→F68_l3 rc xs i l=some l
 |[],i,_=>by rw[F68_l3]
 |x::xs,i,e=>by
  have hx:=drop_hd e
  rw[F68_l3,rdI_val hx]
  simp only[Option.bind_some]
  rw[h x (List.mem_of_getElem? hx)]
  simp only[Option.bind_some,Int.toNat_natCast]
  rw[eta_v]
  rw[set_same hx]
  exact cvc_l3 rc l h xs (i+1) (drop_tl e)
theorem cvc_l9(rc:TValue→Option (List TValue×List TField))(l:List TField)(h:∀y∈l,rc y.V=some (y.V.List_,y.V.Fields)):∀(xs:List TField) (i:Nat),l.drop i=xs→F68_l9 rc xs i l=some l
 |[],i,_=>by rw[F68_l9]
 |x::xs,i,e=>by
  have hx:=drop_hd e
  rw[F68_l9,rdI_val hx]
  simp only[Option.bind_some]
  rw[h x (List.mem_of_getElem? hx)]
  simp only[Option.bind_some,Int.toNat_natCast]
  rw[eta_v,eta_f]
  rw[set_same hx]
  exact cvc_l9 rc l h xs (i+1) (drop_tl e)
theorem cvc_t:∀(k:Nat) (v:TValue),wTValue v≤k→wTValue v≤4294967290→F68k k v=some (v.List_,v.Fields)
 |0,v,h,_=>by have:=wV_pos v;omega
 |k+1,v,h,h2=>by
  have l1:=wV_ll v
  have l2:=wV_fl v
  rw[F68k,F68,cl_t (by omega),Option.bind_some,cl_t (by omega),Option.bind_some,ck_t (by omega),Option.bind_some,cvc_l3 _ _ (fun y hy=>cvc_t k y (by have:=wV_list hy;omega) (by have:=wV_list hy;omega)) _ 0 (List.drop_zero ..),Option.bind_some,ck_t (by omega),Option.bind_some,cvc_l9 _ _ (fun y hy=>cvc_t k y.V (by have:=wV_field hy;omega) (by have:=wV_field hy;omega)) _ 0 (List.drop_zero ..)]
  rfl
theorem cclone_l5(l:List Manager)(h:∀m∈l,m.Fields.length≤4294967290):∀(xs:List Manager) (i:Nat),l.drop i=xs→F37_l5 xs i l=some l
 |[],i,_=>by rw[F37_l5]
 |x::xs,i,e=>by
  have hx:=drop_hd e
  rw[F37_l5,rdI_val hx]
  simp only[Option.bind_some]
  rw[cl_t (h x (List.mem_of_getElem? hx))]
  simp only[Option.bind_some,Int.toNat_natCast]
  rw[set_same hx]
  exact cclone_l5 l h xs (i+1) (drop_tl e)
theorem cclone_t{o:Object}(h:OW o):F37 o=some (o.Meta.Labels,o.Meta.Owners,o.Meta.Finalizers,o.Meta.Managers,o.Spec.List_,o.Spec.Fields,o.Status.List_,o.Status.Fields):=by
 rw[F37,cl_t (by have:=h.labels;omega),Option.bind_some,cl_t (by have:=h.owners;omega),Option.bind_some,cl_t (by have:=h.fins;omega),Option.bind_some,cl_t (by have:=h.mans;omega),Option.bind_some,ck_t (by have:=h.mans;omega),Option.bind_some,cclone_l5 _ (fun m hm=>by have:=h.man m hm;omega) _ 0 (List.drop_zero ..),Option.bind_some,cvc_t _ _ (by have:=h.spec;omega) (by have:=h.spec;omega),Option.bind_some,cvc_t _ _ (by have:=h.status;omega) (by have:=h.status;omega)]
 rfl
theorem cfil_l2(l:List Requirement)(h:∀r∈l,r.Values.length≤4294967290):∀(xs:List Requirement) (i:Nat),l.drop i=xs→F34_l2 xs i l=some l
 |[],i,_=>by rw[F34_l2]
 |x::xs,i,e=>by
  have hx:=drop_hd e
  rw[F34_l2,rdI_val hx]
  simp only[Option.bind_some]
  rw[cl_t (h x (List.mem_of_getElem? hx))]
  simp only[Option.bind_some,Int.toNat_natCast]
  rw[set_same hx]
  exact cfil_l2 l h xs (i+1) (drop_tl e)
theorem cfil_t{f:Filter}(h:selOk f.Selector):F34 f=some f.Selector:=by
 have:=h.1
 rw[F34,cl_t (by omega),Option.bind_some,ck_t (by omega),Option.bind_some,cfil_l2 _ (fun r hr=>by have:=h.2 r hr;omega) _ 0 (List.drop_zero ..)]
 rfl
theorem ap_l18(r:Int)(m:List (ByteArray×Object))(ks:List ByteArray)(hm:∀k∈ks,∃o,getM k m=some o∧OW o)(hl:ks.length≤100000):∀(xs:List ByteArray) (i:Nat) (out:List Object),ks.drop i=xs→out.length+xs.length≤1000000→F11_l18 (r,m) ks xs i out=some (out++xs.filterMap fun k=>getM k m)
 |[],i,out,_,_=>by rw[F11_l18];simp
 |k::xs,i,out,e,h=>by
  have hk:=drop_hd e
  obtain⟨o,h1,h2⟩:=hm k (List.mem_of_getElem? hk)
  simp only[List.length_cons]at h
  rw[F11_l18,rdI_val hk,Option.bind_some,h1,Option.bind_some,cclone_t h2,Option.bind_some]
  simp only[eta_v]
  rw[apI_t (by simp;omega),Option.bind_some,ap_l18 r m ks hm hl xs (i+1) _ (drop_tl e) (by simp;omega),List.filterMap_cons,h1,List.append_assoc]
  rfl
theorem key_size'{o:Object}(h:OW o):(keyO o).size≤4294967290:=by
 have:=h.key
 show(keyB o.Meta).size≤_
 unfold keyB
 rw[bsize,bsize,bsize,bsize,sl1]
 omega
theorem filterMap_sorted{m:List (ByteArray×Object)}(hk:∀k o,getM k m=some o→keyO o=k):∀{ks:List ByteArray},ks.Pairwise lt→Sorted (ks.filterMap fun k=>getM k m)
 |[],_=>List.Pairwise.nil
 |k::ks,h=>by
  have h2:=List.pairwise_cons.1 h
  rw[List.filterMap_cons]
  cases hg:getM k m with
  |none=>exact filterMap_sorted hk h2.2
  |some o=>
   refine List.pairwise_cons.2 ⟨fun z hz=>?_,filterMap_sorted hk h2.2⟩
   obtain⟨k2,k3,k4⟩:=List.mem_filterMap.1 hz
   rw[hk k o hg,hk k2 z k4]
   exact h2.1 k2 k3
theorem apply_t{c:Cache}{l:List Event}(hf:selOk c.Filter.Selector)(hs:Sorted c.Objects)(ho:∀o∈c.Objects,OW o)(hl:c.Objects.length≤600)(he:∀e∈l,OW e.Object)(hel:l.length≤1001):F11 c l=some (c.Filter.Selector,(apS (c.Rev,c.Objects) l).1,(apS (c.Rev,c.Objects) l).2):=by
 obtain⟨m,m1,m2,m3,m4⟩:=rel_l1 c.Objects 0 [] [] (by simpa using hs) ho (by simp) (fun u=>rfl) (by simp;omega)
 rw[List.nil_append]at m3
 simp only[List.length_nil,Nat.zero_add]at m4
 obtain⟨m',n1,n2,n3⟩:=rel_l5 l 0 (c.Rev,c.Objects) m ⟨m2,m3,by omega⟩ hs ho he (by omega)
 obtain⟨k1,k2,k3⟩:=apS_keep l (st:=(c.Rev,c.Objects)) hs ho he
 rw[F11,ck_t (by omega),Option.bind_some,m1,Option.bind_some,ck_t (by omega),Option.bind_some,n1,Option.bind_some,cfil_t hf]
 simp only[Option.bind_some]
 generalize apS (c.Rev,c.Objects) l=st at n2 k1 k2 k3⊢
 have hgo:∀k o,getM k m'=some o→o∈st.2∧keyO o=k:=fun k o h=>by rw[n2.gt]at h;exact get_mem h
 have hkeys:∀k∈m'.map Prod.fst,∃o,getM k m'=some o∧OW o:=fun k hk=>by
  obtain⟨o,h⟩:=key_getM hk
  exact⟨o,h,k2 o (hgo k o h).1⟩
 have hki:keysI (m'.map Prod.fst)=some (sortL (m'.map Prod.fst)):=by
  unfold keysI
  refine if_pos ⟨by have:=n2.ln;simp;omega,fun k hk=>?_⟩
  obtain⟨o,h1,h2⟩:=hkeys k hk
  rw[←(hgo k o h1).2];exact key_size' h2
 have hsl:=(sortL_perm (m'.map Prod.fst)).length_eq
 rw[List.length_map]at hsl
 have:=n2.ln
 rw[F36]
 simp only[Option.bind_some]
 rw[hki,Option.bind_some,ck_t (by omega),Option.bind_some,ap_l18 _ m' _ (fun k hk=>hkeys k ((sortL_mem k _).1 hk)) (by omega) _ 0 [] (List.drop_zero ..) (by simp;omega)]
 have e:(sortL (m'.map Prod.fst)).filterMap (fun k=>getM k m')=st.2:=by
  refine sorted_ext (filterMap_sorted (fun k o h=>(hgo k o h).2) (sort_nd n2.nd)) k1 fun x=>?_
  rw[List.mem_filterMap]
  constructor
  ·rintro⟨k,_,h⟩;exact(hgo k x h).1
  ·intro hx
   have hg:getM (keyO x) m'=some x:=by rw[n2.gt];exact get_self k1 hx
   exact⟨keyO x,(sortL_mem _ _).2 (getM_key hg),hg⟩
 rw[List.nil_append,e]
 rfl
open Go Go.Fw
set_option maxRecDepth 100000
set_option linter.unusedVariables false
set_option linter.unusedSimpArgs false
theorem rkeyM_t{o:Object}(h:OW o):F39 o.Meta=some (keyO o):=rKeyOf_t h.key
theorem csame_t{c:Cache}(hf:selOk c.Filter.Selector)(h:∀o∈c.Objects,OW o)(hl:c.Objects.length≤4000000):F15 c c=some true:=by
 rw[F15,if_pos rfl,if_pos (by cases c.Synced<;>rfl),eqfl_t hf]
 simp only[Option.bind_some,if_true]
 rw[reql_self h hl];rfl
open Go Go.Fw
set_option maxRecDepth 100000
set_option linter.unusedVariables false
set_option linter.unusedSimpArgs false
theorem cnar_l2:∀(l:List Requirement) (i:Nat),∃r,F23_l2 l i=some r
 |[],i=>⟨_,by rw[F23_l2]⟩
 |x::l,i=>by
  rw[F23_l2]
  split
  ·exact⟨_,rfl⟩
  ·exact cnar_l2 l _
theorem cnar_ex(f:Filter):∃b,F23 f=some b:=by
 rw[F23]
 split
 ·exact⟨_,rfl⟩
 ·rw[ck_t (by omega),Option.bind_some]
  obtain⟨r,hr⟩:=cnar_l2 f.Selector 0
  rw[hr]
  cases r<;>exact⟨_,rfl⟩
theorem clig_l1(c:Cache)(h:∀o∈c.Objects,OW o)(hl:c.Objects.length≤4000000):∀(m k i:Nat) (n:Int),c.Objects.length≤i+m→i≤4000000→m<k→∃r,F8_l1 c k n (i:Int)=some r
 |0,k+1,i,n,h1,_,_=>by rw[F8_l1,if_neg (by omega)];exact⟨_,rfl⟩
 |m+1,k+1,i,n,h1,h2,h3=>by
  rw[F8_l1]
  by_cases hi:(i:Int)<(c.Objects.length:Int)
  ·rw[if_pos hi,wrapN (by omega),rdI_at (by omega),Option.bind_some]
   obtain⟨w,hw⟩:=wt_ex (h c.Objects[i] (List.getElem_mem _))
   have ih:=fun n=>clig_l1 c h hl m k (i+1) n (by omega) (by omega) (by omega)
   rw[Option.bind_some,hw,Option.bind_some]
   split
   ·exact ih _
   ·exact⟨_,rfl⟩
  ·rw[if_neg hi];exact⟨_,rfl⟩
theorem cval_l1(c:Cache)(h:∀o∈c.Objects,OW o)(hl:c.Objects.length≤4000000):∀(m i k:Nat),c.Objects.length=i+1+m→m<k→Sorted (c.Objects.take (i+1))→F30_l1 c k ((i+1:Nat):Int)=some (.inl false)∨F30_l1 c k ((i+1:Nat):Int)=some (.inr ())∧Sorted c.Objects
 |0,i,k+1,h1,_,hs=>by
  right
  rw[List.take_of_length_le (by omega)]at hs
  exact⟨by rw[F30_l1,if_neg (by omega)],hs⟩
 |m+1,i,k+1,h1,h2,hs=>by
  have hi:i<c.Objects.length:=by omega
  have hj:i+1<c.Objects.length:=by omega
  have hy:c.Objects[i]? =some c.Objects[i]:=List.getElem?_eq_getElem hi
  have hz:c.Objects[i+1]? =some c.Objects[i+1]:=List.getElem?_eq_getElem hj
  rw[F30_l1,if_pos (by omega),wr_p (by omega) (by omega),show i+1-1=i by omega,rdI_val hy,Option.bind_some,rkeyM_t (h _ (List.getElem_mem _)),Option.bind_some,rdI_val hz,Option.bind_some,rkeyM_t (h _ (List.getElem_mem _)),Option.bind_some,nb_bl]
  by_cases g:lt (keyO c.Objects[i]) (keyO c.Objects[i+1])
  ·rw[decide_eq_false (not_not_intro g),if_neg (by simp),wrapN (by omega)]
   refine cval_l1 c h hl m (i+1) k (by omega) (by omega) ?_
   rw[List.take_add_one,hz,Option.toList_some]
   refine List.pairwise_append.2 ⟨hs,List.pairwise_singleton ..,fun a ha b hb=>?_⟩
   rw[List.mem_singleton.1 hb]
   rw[List.take_add_one,hy,Option.toList_some]at ha hs
   rcases List.mem_append.1 ha with ha|ha
   ·exact lt_trans ((List.pairwise_append.1 hs).2.2 a ha _ (List.mem_singleton.2 rfl)) g
   ·rw[List.mem_singleton.1 ha];exact g
  ·rw[decide_eq_true g,if_pos rfl];exact .inl rfl
theorem cval_t{c:Cache}(h:∀o∈c.Objects,OW o)(hl:c.Objects.length≤4000000):∃b,F30 c=some b∧(b=true→Sorted c.Objects):=by
 rw[F30]
 cases ho:c.Objects with
 |nil=>
  have h1:F30_l1 c 1099511627776 1=some (.inr ()):=by
   rw[show(1099511627776:Nat)=1099511627775+1 from rfl,F30_l1,if_neg (by rw[ho];simp)]
  rw[h1]
  exact⟨true,rfl,fun _=>List.Pairwise.nil⟩
 |cons x xs=>
  have hsz:c.Objects.length=0+1+xs.length:=by rw[ho];simp;omega
  have h1:=cval_l1 c h hl xs.length 0 1099511627776 hsz (by omega) (by rw[ho];exact List.pairwise_singleton ..)
  rw[show((0+1:Nat):Int)=1 from rfl]at h1
  rcases h1 with h1|⟨h1,h2⟩
  ·rw[h1];exact⟨false,rfl,by simp⟩
  ·rw[h1];exact⟨true,rfl,fun _=>by rw[←ho];exact h2⟩
theorem clight_t{c:Cache}(h:∀o∈c.Objects,OW o)(hl:c.Objects.length≤4000000):∃b,F8 c=some b∧(b=true→c.Objects.length≤40∧Sorted c.Objects):=by
 obtain⟨r,hr⟩:=clig_l1 c h hl c.Objects.length 1099511627776 0 0 (by omega) (by omega) (by omega)
 obtain⟨n,hn⟩:=cnar_ex c.Filter
 obtain⟨v,hv,hv2⟩:=cval_t h hl
 rw[F8]
 rw[show((0:Nat):Int)=0 from rfl]at hr
 rw[hr,Option.bind_some,hn,hv]
 by_cases g:(c.Objects.length:Int)≤40
 ·rw[if_pos g]
  by_cases g2:r≤1500
  ·rw[if_pos g2]
   cases n
   ·exact⟨false,rfl,by simp⟩
   ·exact⟨v,rfl,fun h=>⟨by omega,hv2 h⟩⟩
  ·rw[if_neg g2];exact⟨false,rfl,by simp⟩
 ·rw[if_neg g];exact⟨false,rfl,by simp⟩
theorem cev_l1(l:List Event)(h:∀e∈l,OW e.Object)(hl:l.length≤4000000):∀(m k i:Nat) (n:Int),l.length≤i+m→i≤4000000→m<k→∃r,F9_l1 l k n (i:Int)=some r
 |0,k+1,i,n,h1,_,_=>by rw[F9_l1,if_neg (by omega)];exact⟨_,rfl⟩
 |m+1,k+1,i,n,h1,h2,h3=>by
  rw[F9_l1]
  by_cases hi:(i:Int)<(l.length:Int)
  ·rw[if_pos hi,wrapN (by omega),rdI_at (by omega),Option.bind_some]
   obtain⟨w,hw⟩:=wt_ex (h l[i] (List.getElem_mem _))
   have ih:=fun n=>cev_l1 l h hl m k (i+1) n (by omega) (by omega) (by omega)
   rw[Option.bind_some,hw,Option.bind_some]
   split
   ·exact ih _
   ·exact⟨_,rfl⟩
  ·rw[if_neg hi];exact⟨_,rfl⟩
theorem cev_t{l:List Event}(h:∀e∈l,OW e.Object)(hl:l.length≤4000000):∃b,F9 l=some b∧(b=true→l.length≤40):=by
 obtain⟨r,hr⟩:=cev_l1 l h hl l.length 1099511627776 0 0 (by omega) (by omega) (by omega)
 rw[F9]
 rw[show((0:Nat):Int)=0 from rfl]at hr
 rw[hr,Option.bind_some]
 by_cases g:(l.length:Int)≤40
 ·rw[if_pos g];exact⟨_,rfl,fun _=>by omega⟩
 ·rw[if_neg g];exact⟨false,rfl,by simp⟩
theorem cache_ok{c:Cache}{k:Nat}(hw:wCache c≤k)(hk:k≤1048576):selOk c.Filter.Selector∧(∀o∈c.Objects,OW o)∧c.Objects.length≤4000000:=by
 unfold wCache at hw
 have l1:=wL_len (w:=wObject) (fun a=>by unfold wObject wMeta;omega) c.Objects
 exact⟨filt_ok (k:=1048576) (by omega) (by omega),fun o ho=>oW (by have:=wL_mem (w:=wObject) ho;omega),by omega⟩
theorem evs_ok{l:List Event}{k:Nat}(hw:wL wEvent l≤k)(hk:k≤1048576):(∀e∈l,OW e.Object)∧l.length≤4000000:=by
 have l1:=wL_len (w:=wEvent) (fun a=>by unfold wEvent;omega) l
 exact⟨fun e he=>oW (by have:=wL_mem (w:=wEvent) he;unfold wEvent at this hw;omega),by omega⟩
theorem apE_rev(st:Int×List Object)(e:Event):st.1≤(apE st e).1∧e.Rev≤(apE st e).1:=by
 unfold apE
 split
 ·exact⟨Int.le_refl _,by assumption⟩
 ·exact⟨by show st.1≤e.Rev;omega,Int.le_refl _⟩
theorem apS_rev:∀(l:List Event) (st:Int×List Object),st.1≤(apS st l).1∧∀e∈l,e.Rev≤(apS st l).1
 |[],st=>⟨Int.le_refl _,fun e h=>by cases h⟩
 |e::l,st=>by
  obtain⟨a,b⟩:=apE_rev st e
  obtain⟨x,y⟩:=apS_rev l (apE st e)
  refine⟨Int.le_trans a x,fun z hz=>?_⟩
  rcases List.mem_cons.1 hz with rfl|hz
  ·exact Int.le_trans b x
  ·exact y z hz
theorem apS_idem:∀(l:List Event) (st:Int×List Object),(∀e∈l,e.Rev≤st.1)→apS st l=st
 |[],st,_=>rfl
 |e::l,st,h=>by
  show apS (apE st e) l=st
  have:apE st e=st:=by unfold apE;rw[if_pos (h e (List.mem_cons_self ..))]
  rw[this]
  exact apS_idem l st fun x hx=>h x (List.mem_cons_of_mem _ hx)
theorem CacheRepeats_pure:CacheRepeats.Pure:=by
 intro c l n h1 h2 h3 hw
 obtain⟨hf,ho,hol⟩:=cache_ok (c:=c) (k:=1048576) (by omega) (by omega)
 obtain⟨he,hel⟩:=evs_ok (l:=l) (k:=1048576) (by omega) (by omega)
 obtain⟨a,ha,ha2⟩:=clight_t ho hol
 obtain⟨b,hb,hb2⟩:=cev_t he hel
 rw[F4,ha,Option.bind_some,hb,clives_t]
 cases a
 case false=>rfl
 cases b
 case false=>rfl
 simp only[show nb true=false from rfl,Bool.false_eq_true,if_false,Option.bind_some]
 obtain⟨hl,hs⟩:=ha2 rfl
 have hll:=hb2 rfl
 obtain⟨k1,k2,k3⟩:=apS_keep l (st:=(c.Rev,c.Objects)) hs ho he
 have hrev:=(apS_rev l (c.Rev,c.Objects)).2
 have hid:=apS_idem l (apS (c.Rev,c.Objects) l) hrev
 obtain⟨k,hk,hkl⟩:∃k:Nat,(if(l.length:Int)<IntKind.i64.wrap n then(l.length:Int)else IntKind.i64.wrap n)=(k:Int)∧k≤l.length:=by
  have h4:=h3.1;have h5:=h3.2
  rw[wrapI (by omega) (by omega)]
  by_cases g:(l.length:Int)<n
  ·rw[if_pos g];exact⟨_,rfl,Nat.le_refl _⟩
  ·rw[if_neg g];exact⟨n.toNat,by omega,by omega⟩
 have he1:∀e∈l.take k,OW e.Object:=fun e h=>he e (List.mem_of_mem_take h)
 have he2:∀e∈l.drop k,OW e.Object:=fun e h=>he e (List.mem_of_mem_drop h)
 obtain⟨q1,q2,q3⟩:=apS_keep (l.take k) (st:=(c.Rev,c.Objects)) hs ho he1
 have hsp:apS (apS (c.Rev,c.Objects) (l.take k)) (l.drop k)=apS (c.Rev,c.Objects) l:=by
  unfold apS
  rw[←List.foldl_append,List.take_append_drop]
 have hlt:(l.take k).length≤40:=by rw[List.length_take];omega
 replace k3:(apS (c.Rev,c.Objects) l).2.length≤c.Objects.length+l.length:=k3
 replace q3:(apS (c.Rev,c.Objects) (l.take k)).2.length≤c.Objects.length+(l.take k).length:=q3
 rw[apply_t hf hs ho (by omega) he (by omega)]
 simp only[Option.bind_some]
 have hsame:F15 ⟨c.Filter,(apS (c.Rev,c.Objects) l).1,c.Synced,(apS (c.Rev,c.Objects) l).2⟩ ⟨c.Filter,(apS (c.Rev,c.Objects) l).1,c.Synced,(apS (c.Rev,c.Objects) l).2⟩=some true:=csame_t (c:=⟨c.Filter,(apS (c.Rev,c.Objects) l).1,c.Synced,(apS (c.Rev,c.Objects) l).2⟩) hf k2 (by show(apS (c.Rev,c.Objects) l).2.length≤_;omega)
 have a1:F11 ⟨c.Filter,(apS (c.Rev,c.Objects) l).1,c.Synced,(apS (c.Rev,c.Objects) l).2⟩ l=some (c.Filter.Selector,(apS (c.Rev,c.Objects) l).1,(apS (c.Rev,c.Objects) l).2):=by
  rw[apply_t (c:=⟨c.Filter,(apS (c.Rev,c.Objects) l).1,c.Synced,(apS (c.Rev,c.Objects) l).2⟩) hf k1 k2 (by show(apS (c.Rev,c.Objects) l).2.length≤_;omega) he (by omega)]
  show some (c.Filter.Selector,(apS (apS (c.Rev,c.Objects) l) l).1,(apS (apS (c.Rev,c.Objects) l) l).2)=_
  rw[hid]
 show Option.bind (Option.bind (F11 ⟨c.Filter,(apS (c.Rev,c.Objects) l).1,c.Synced,(apS (c.Rev,c.Objects) l).2⟩ l) _) _=_
 rw[a1]
 simp only[Option.bind_some]
 show Option.bind (Option.bind (F15 ⟨c.Filter,(apS (c.Rev,c.Objects) l).1,c.Synced,(apS (c.Rev,c.Objects) l).2⟩ ⟨c.Filter,(apS (c.Rev,c.Objects) l).1,c.Synced,(apS (c.Rev,c.Objects) l).2⟩) _) _=_
 rw[hsame]
 simp only[Option.bind_some,if_true]
 have s1:slI l 0 (k:Int)=some (l.take k):=by
  have:=slI_t (xs:=l) (l:=0) (h:=k) (by omega) (by omega)
  simpa using this
 have s2:slI l (k:Int) (l.length:Int)=some (l.drop k):=by
  rw[slI_t hkl (Nat.le_refl _),List.take_of_length_le (by simp)]
 rw[hk,s1,Option.bind_some,apply_t hf hs ho (by omega) he1 (by omega),Option.bind_some,s2,Option.bind_some]
 have a2:F11 ⟨c.Filter,(apS (c.Rev,c.Objects) (l.take k)).1,c.Synced,(apS (c.Rev,c.Objects) (l.take k)).2⟩ (l.drop k)=some (c.Filter.Selector,(apS (c.Rev,c.Objects) l).1,(apS (c.Rev,c.Objects) l).2):=by
  rw[apply_t (c:=⟨c.Filter,(apS (c.Rev,c.Objects) (l.take k)).1,c.Synced,(apS (c.Rev,c.Objects) (l.take k)).2⟩) hf q1 q2 (by show(apS (c.Rev,c.Objects) (l.take k)).2.length≤_;omega) he2 (by rw[List.length_drop];omega)]
  show some (c.Filter.Selector,(apS (apS (c.Rev,c.Objects) (l.take k)) (l.drop k)).1,(apS (apS (c.Rev,c.Objects) (l.take k)) (l.drop k)).2)=_
  rw[hsp]
 show Option.bind (Option.bind (F11 ⟨c.Filter,(apS (c.Rev,c.Objects) (l.take k)).1,c.Synced,(apS (c.Rev,c.Objects) (l.take k)).2⟩ (l.drop k)) _) _=_
 rw[a2]
 simp only[Option.bind_some]
 show Option.bind (Option.bind (F15 ⟨c.Filter,(apS (c.Rev,c.Objects) l).1,c.Synced,(apS (c.Rev,c.Objects) l).2⟩ ⟨c.Filter,(apS (c.Rev,c.Objects) l).1,c.Synced,(apS (c.Rev,c.Objects) l).2⟩) _) _=_
 rw[hsame]
 rfl
end Go.Proofs.YtdkmamiedcanfaaGreat
