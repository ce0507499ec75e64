/- The plain law. -/
import Derived.Test.YtedgocbpegllaaaCP
import Derived.Test.YtedgocbpegllaaaFP
import Derived.KernelRfl
set_option linter.unusedVariables false
set_option linter.unusedSimpArgs false
namespace Go.Proofs.Ytedgocbpegllaaa
open Go Go.Fw
set_option maxRecDepth 100000
set_option linter.unusedVariables false
set_option linter.unusedSimpArgs false
section
variable {α:Type}
def S(c:α→Int)(l:List α):Prop:=l.Pairwise fun a b=>c b≤0→c a<0
def plc(c:α→Int):List α→Nat
 |[]=>0
 |y::l=>if c y<0 then plc c l+1 else 0
theorem plc_le(c:α→Int):∀l,plc c l≤l.length
 |[]=>Nat.le_refl _
 |y::l=>by have:=plc_le c l;unfold plc;split<;>simp<;>omega
theorem plc_iff{c:α→Int}:∀{l:List α},S c l→∀i (h:i<l.length),c l[i]<0↔i<plc c l
 |[],_,i,h=>absurd h (by simp)
 |y::l,hs,0,h=>by
  unfold plc
  by_cases hc:c y<0<;>simp[hc]
 |y::l,hs,i+1,h=>by
  have hs2:=List.pairwise_cons.1 hs
  have ih:=plc_iff hs2.2 i (by simpa using h)
  simp only[List.getElem_cons_succ]
  unfold plc
  by_cases hc:c y<0
  ·rw[if_pos hc,ih];omega
  ·rw[if_neg hc]
   exact⟨fun hi=>absurd (hs2.1 _ (List.getElem_mem (by simpa using h)) (Int.le_of_lt hi)) hc,fun hi=>by omega⟩
def mid(a b:Int):Int:=IntKind.i64.wrap (shrV .u64 (IntKind.u64.wrap (IntKind.i64.wrap (a+b))) 1)
theorem mid_eq{a b:Nat}(h:a+b≤4000000):mid (a:Int) (b:Int)=(((a+b)/2:Nat):Int):=by
 unfold mid shrV
 rw[show IntKind.i64.wrap ((a:Int)+b)=(a:Int)+b from wrapI (by omega) (by omega)]
 have e:IntKind.u64.wrap ((a:Int)+b)=((a+b:Nat):Int):=by simp[IntKind.wrap,IntKind.bits,IntKind.signed];omega
 rw[e]
 have e2:((a+b:Nat):Int).fdiv (2^(min (1:Int).toNat IntKind.u64.bits))=(((a+b)/2:Nat):Int):=by
  show((a+b:Nat):Int).fdiv 2=_
  rw[Int.fdiv_eq_ediv_of_nonneg _ (by omega)];omega
 rw[e2,wrapI (by omega) (by omega)]
def bsL(c:α→Int)(xs:List α):Nat→Int→Int→Option Int
 |0,_,_=>none
 |k+1,a,b=>if a<b then(rdI xs (mid a b)).bind fun y=>if c y<0 then bsL c xs k (IntKind.i64.wrap (mid a b+1)) b else bsL c xs k a (mid a b)else some a
theorem bsL_spec{c:α→Int}{xs:List α}(hs:S c xs)(hl:xs.length≤1000000):∀(k a b:Nat),b-a<k→a≤plc c xs→plc c xs≤b→b≤xs.length→bsL c xs k (a:Int) (b:Int)=some (plc c xs:Int)
 |0,a,b,h,_,_,_=>by omega
 |k+1,a,b,h,h1,h2,h3=>by
  unfold bsL
  by_cases hab:a<b
  ·have hm:(a+b)/2<xs.length:=by omega
   rw[if_pos (by omega),mid_eq (by omega),rdI_at hm,Option.bind_some]
   have hi:=plc_iff hs ((a+b)/2) hm
   by_cases hc:c xs[(a+b)/2]<0
   ·rw[if_pos hc]
    have e:IntKind.i64.wrap ((((a+b)/2:Nat):Int)+1)=(((a+b)/2+1:Nat):Int):=wrapN (by omega)
    rw[e]
    exact bsL_spec hs hl k _ b (by omega) (by have:=hi.1 hc;omega) h2 h3
   ·rw[if_neg hc]
    exact bsL_spec hs hl k a _ (by omega) h1 (by have:=mt hi.2 hc;omega) (by omega)
  ·rw[if_neg (by omega)];congr 1;omega
def hasC(c:α→Int)(l:List α):Bool:=l.any fun y=>decide (c y=0)
theorem hasC_cons(c:α→Int)(y:α)(l:List α):hasC c (y::l)=(decide (c y=0)||hasC c l):=by simp[hasC]
theorem hasC_gt{c:α→Int}{l:List α}(h:∀y∈l,0<c y):hasC c l=false:=by
 simp only[hasC,List.any_eq_false,decide_eq_true_eq]
 intro y hy;have:=h y hy;omega
theorem find_at{c:α→Int}:∀{l:List α},S c l→((l[plc c l]?).map fun y=>decide (c y=0)).getD false=hasC c l
 |[],_=>rfl
 |y::l,hs=>by
  have hs2:=List.pairwise_cons.1 hs
  have ih:=find_at hs2.2
  rw[hasC_cons]
  unfold plc
  by_cases hc:c y<0
  ·rw[if_pos hc,List.getElem?_cons_succ,ih];simp;omega
  ·rw[if_neg hc]
   simp only[List.getElem?_cons_zero,Option.map_some,Option.getD_some]
   rw[hasC_gt];·simp
   intro z hz
   have:=hs2.1 z hz
   omega
theorem find_t{c:α→Int}{l:List α}(hs:S c l):(if(plc c l:Int)<(l.length:Int)then(rdI l (plc c l:Int)).bind fun y=>some (decide (c y=0))else some false)=some (hasC c l):=by
 have h:=find_at hs
 by_cases hp:plc c l<l.length
 ·rw[if_pos (by omega),rdI_at hp,Option.bind_some]
  rw[List.getElem?_eq_getElem hp]at h
  simp only[Option.map_some,Option.getD_some]at h
  rw[h]
 ·rw[if_neg (by omega)]
  rw[List.getElem?_eq_none (by omega)]at h
  simp only[Option.map_none,Option.getD_none]at h
  rw[←h]
def insC(c:α→Int)(x:α):List α→List α
 |[]=>[x]
 |y::l=>if c y<0 then y::insC c x l else x::y::l
theorem insC_plc(c:α→Int)(x:α):∀l,l.take (plc c l)++x::l.drop (plc c l)=insC c x l
 |[]=>rfl
 |y::l=>by
  unfold insC plc
  split
  ·rw[←insC_plc c x l];simp
  ·simp
end
theorem scmp_neg(a b:ByteArray):scmp a b<0↔lt a b:=by
 unfold scmp
 by_cases h:lt a b
 ·simp[h]
 ·rw[if_neg h]
  by_cases h2:a=b
  ·rw[if_pos h2];simp[h]
  ·rw[if_neg h2];simp[h]
theorem scmp_zero(a b:ByteArray):scmp a b=0↔a=b:=by
 unfold scmp
 by_cases h:lt a b
 ·simp[h,lt_ne h]
 ·rw[if_neg h]
  by_cases h2:a=b<;>simp[h2]
theorem scmp_np(a b:ByteArray):scmp a b≤0↔lt a b∨a=b:=by
 rw[←scmp_neg,←scmp_zero];omega
theorem exb{α β:Type}{e:Option α}{f:α→Option β}(h:∃a,e=some a)(hf:∀a,e=some a→∃r,f a=some r):∃r,e.bind f=some r:=by
 obtain⟨a,ha⟩:=h;obtain⟨r,hr⟩:=hf a ha;exact⟨r,by rw[ha];exact hr⟩
theorem exif{α:Type}{p:Prop}[Decidable p]{a b:Option α}(h1:p→∃r,a=some r)(h2:¬p→∃r,b=some r):∃r,(if p then a else b)=some r:=by
 by_cases h:p
 ·rw[if_pos h];exact h1 h
 ·rw[if_neg h];exact h2 h
theorem exmap{α β:Type}{e:Option α}{f:α→β}(h:∃a,e=some a):∃r,e.map f=some r:=by
 obtain⟨a,ha⟩:=h;exact⟨f a,by rw[ha];rfl⟩
theorem exck{p:Prop}[Decidable p](h:p):∃r,ck p=some r:=⟨(),ck_t h⟩
theorem byI_ex{b:ByteArray}{i:Int}(h:0≤i)(h2:i<b.size):∃y,byI b i=some y:=by
 obtain⟨n,rfl⟩:∃n:Nat,i=n:=⟨i.toNat,by omega⟩
 have hs:n<b.size:=by omega
 exact⟨(b[n].toNat:Int),by unfold byI;rw[if_pos (by omega)];simp[hs]⟩
theorem rdI_ex{α:Type}{l:List α}{i:Int}(h:0≤i)(h2:i<l.length):∃y,rdI l i=some y:=by
 obtain⟨n,rfl⟩:∃n:Nat,i=n:=⟨i.toNat,by omega⟩
 exact⟨_,rdI_at (by omega)⟩
theorem apI_ex{α:Type}{xs ys:List α}(h:xs.length+ys.length≤4294967290):∃y,apI xs ys=some y:=⟨_,apI_t h⟩
theorem rdI_val{α:Type}{l:List α}{i:Nat}{y:α}(h:l[i]? =some y):rdI l (i:Int)=some y:=by rw[rdI_nat];exact h
theorem drop_hd{α:Type}{l:List α}{i:Nat}{x:α}{xs:List α}(e:l.drop i=x::xs):l[i]? =some x:=by rw[←List.head?_drop,e];rfl
theorem drop_tl{α:Type}{l:List α}{i:Nat}{x:α}{xs:List α}(e:l.drop i=x::xs):l.drop (i+1)=xs:=by
 rw[←List.drop_drop,e];rfl
theorem set_same{α:Type}:∀{l:List α} {i:Nat} {x:α},l[i]? =some x→l.set i x=l
 |[],_,_,h=>by simp at h
 |y::l,0,x,h=>by simp at h;simp[h]
 |y::l,i+1,x,h=>by simp at h;simp[set_same h]
theorem cl_t{α:Type}{l:List α}(h:l.length≤4294967290):cloneI l=some l:=if_pos h
theorem catI_t{a b:ByteArray}(h:a.size+b.size≤9223372036854775807):catI a b=some (a++b):=if_pos h
theorem bsize(a b:ByteArray):(a++b).size=a.size+b.size:=ByteArray.size_append
theorem wr_p{i:Nat}(h:0<(i:Int))(h2:i≤4294967296):IntKind.i64.wrap ((i:Int)-1)=((i-1:Nat):Int):=by rw[wrapI (by omega) (by omega)];omega
theorem wL_mem{α:Type}{w:α→Nat}{x:α}:∀{l:List α},x∈l→w x+1≤wL w l
 |[],h=>by cases h
 |y::l,h=>by
  unfold wL
  simp only[List.map_cons,List.sum_cons]
  rcases List.mem_cons.1 h with rfl|h
  ·omega
  ·have:=wL_mem (w:=w) h;unfold wL at this;omega
open Go Go.Fw
set_option maxRecDepth 100000
set_option linter.unusedVariables false
set_option linter.unusedSimpArgs false
def keyB(m:Meta):ByteArray:=(((m.Kind++(⟨#[47]⟩:ByteArray))++m.Namespace)++(⟨#[47]⟩:ByteArray))++m.Name
theorem sl1:(⟨#[47]⟩:ByteArray).size=1:=rfl
theorem KeyOf_t{m:Meta}(h:m.Kind.size+m.Namespace.size+m.Name.size≤4000000):F26 m=some (keyB m):=by
 rw[F26,F59,catI_t (by rw[sl1];omega),Option.bind_some,catI_t (by rw[bsize,sl1];omega),Option.bind_some,catI_t (by rw[bsize,bsize,sl1];omega),Option.bind_some,catI_t (by rw[bsize,bsize,bsize,sl1];omega)]
 rfl
theorem rKeyOf_t{m:Meta}(h:m.Kind.size+m.Namespace.size+m.Name.size≤4000000):F20 m=some (keyB m):=KeyOf_t h
theorem lget_l1(k:ByteArray):∀(l:List Label) (i:Nat),∃r,F75_l1 k l i=some r
 |[],i=>⟨_,by rw[F75_l1]⟩
 |x::l,i=>by
  rw[F75_l1]
  have ih:=lget_l1 k l (i+1)
  repeat'(first|exact⟨_,rfl⟩|exact ih|exact exck (by omega)|exact byI_ex (by omega) (by omega)|exact rdI_ex (by omega) (by omega)|exact apI_ex (by omega)|with_reducible refine exif (fun _=>?_) (fun _=>?_)|with_reducible refine exb ?_ (fun _ _=>?_)|with_reducible refine exmap ?_|split)
theorem lget_ex{l:List Label}(k:ByteArray)(hl:l.length≤4000000):∃r,F75 l k=some r:=by
 rw[F75]
 have g:=lget_l1 k l 0
 repeat'(first|exact⟨_,rfl⟩|exact g|exact exck (by omega)|exact byI_ex (by omega) (by omega)|exact rdI_ex (by omega) (by omega)|exact apI_ex (by omega)|with_reducible refine exif (fun _=>?_) (fun _=>?_)|with_reducible refine exb ?_ (fun _ _=>?_)|with_reducible refine exmap ?_|split)
theorem idx_l1(k:ByteArray):∀(l:List ByteArray) (i:Nat),∃r,F80_l1 k l i=some r
 |[],i=>⟨_,by rw[F80_l1]⟩
 |x::l,i=>by
  rw[F80_l1]
  have ih:=idx_l1 k l (i+1)
  repeat'(first|exact⟨_,rfl⟩|exact ih|exact exck (by omega)|exact byI_ex (by omega) (by omega)|exact rdI_ex (by omega) (by omega)|exact apI_ex (by omega)|with_reducible refine exif (fun _=>?_) (fun _=>?_)|with_reducible refine exb ?_ (fun _ _=>?_)|with_reducible refine exmap ?_|split)
theorem cont_ex{l:List ByteArray}(k:ByteArray)(hl:l.length≤4000000):∃r,F76 l k=some r:=by
 rw[F76,F80]
 have g:=idx_l1 k l 0
 repeat'(first|exact⟨_,rfl⟩|exact g|exact exck (by omega)|exact byI_ex (by omega) (by omega)|exact rdI_ex (by omega) (by omega)|exact apI_ex (by omega)|with_reducible refine exif (fun _=>?_) (fun _=>?_)|with_reducible refine exb ?_ (fun _ _=>?_)|with_reducible refine exmap ?_|split)
theorem holds_ex{r:Requirement}{l:List Label}(h1:r.Values.length≤4000000)(hl:l.length≤4000000):∃b,F70 r l=some b:=by
 rw[F70]
 have g:=lget_ex r.Key hl
 have g2:=fun k=>cont_ex (l:=r.Values) k h1
 repeat'(first|exact⟨_,rfl⟩|exact g|exact g2 _|exact exck (by omega)|exact byI_ex (by omega) (by omega)|exact rdI_ex (by omega) (by omega)|exact apI_ex (by omega)|with_reducible refine exif (fun _=>?_) (fun _=>?_)|with_reducible refine exb ?_ (fun _ _=>?_)|with_reducible refine exmap ?_|split)
theorem mat_l1{l:List Label}(hl:l.length≤4000000):∀(sel:List Requirement) (i:Nat),(∀r∈sel,r.Values.length≤4000000)→∃b,F61_l1 l sel i=some b
 |[],i,_=>⟨_,by rw[F61_l1]⟩
 |x::sel,i,h=>by
  rw[F61_l1]
  have ih:=mat_l1 hl sel (i+1) fun r hr=>h r (List.mem_cons_of_mem _ hr)
  have g:=holds_ex (h x (List.mem_cons_self ..)) hl
  repeat'(first|exact⟨_,rfl⟩|exact ih|exact g|exact exck (by omega)|exact byI_ex (by omega) (by omega)|exact rdI_ex (by omega) (by omega)|exact apI_ex (by omega)|with_reducible refine exif (fun _=>?_) (fun _=>?_)|with_reducible refine exb ?_ (fun _ _=>?_)|with_reducible refine exmap ?_|split)
def selOk(sel:List Requirement):Prop:=sel.length≤4000000∧∀r∈sel,r.Values.length≤4000000
def matB(sel:List Requirement)(l:List Label):Bool:=(F61 sel l).getD false
theorem mat_t{sel:List Requirement}{l:List Label}(h:selOk sel)(hl:l.length≤4000000):F61 sel l=some (matB sel l):=by
 have:∃b,F61 sel l=some b:=by
  rw[F61]
  have g:=mat_l1 hl sel 0 h.2
  have:=h.1
  repeat'(first|exact⟨_,rfl⟩|exact g|exact exck (by omega)|exact byI_ex (by omega) (by omega)|exact rdI_ex (by omega) (by omega)|exact apI_ex (by omega)|with_reducible refine exif (fun _=>?_) (fun _=>?_)|with_reducible refine exb ?_ (fun _ _=>?_)|with_reducible refine exmap ?_|split)
 obtain⟨b,hb⟩:=this
 unfold matB;rw[hb];rfl
structure MW(m:Meta):Prop where
 key:m.Kind.size+m.Namespace.size+m.Name.size≤4000000
 labels:m.Labels.length≤4000000
 owners:m.Owners.length≤4000000
 fins:m.Finalizers.length≤4000000
 mans:m.Managers.length≤4000000
 man:∀x∈m.Managers,x.Fields.length≤4000000
theorem mW{m:Meta}(h:wMeta m≤4000000):MW m:=by
 unfold wMeta at h
 have a1:=wL_len (w:=wLabel) (fun a=>by unfold wLabel;omega) m.Labels
 have a2:=wL_len (w:=wOwner) (fun a=>by unfold wOwner;omega) m.Owners
 have a3:=wL_len (w:=wS) (fun a=>by unfold wS;omega) m.Finalizers
 have a4:=wL_len (w:=wManager) (fun a=>by unfold wManager;omega) m.Managers
 refine⟨?_,by omega,by omega,by omega,by omega,fun x hx=>?_⟩
 ·unfold wS at h;omega
 ·have b1:=wL_mem (w:=wManager) hx
  unfold wManager at b1
  have b2:=wL_len (w:=wS) (fun a=>by unfold wS;omega) x.Fields
  unfold wManager at h
  omega
open Go Go.Fw
set_option maxRecDepth 100000
set_option linter.unusedVariables false
set_option linter.unusedSimpArgs false
def dis(l:List WorkItem)(k:ByteArray):Bool:=l.any fun x=>decide (x.Key=k)
def sel(b:Budget)(p:Pod):Bool:=decide (b.Meta.Namespace=p.Meta.Namespace)&&matB b.Selector p.Meta.Labels
def act(p:Pod):Bool:=(decide (p.Status.Phase=0)||decide (p.Status.Phase=1))&& !p.Meta.Deleting
def hea(p:Pod):Bool:=p.Status.Ready&&act p
structure BW(b:Budget):Prop where
 m:MW b.Meta
 s:selOk b.Selector
 d:b.Disrupted.length≤2000000
 mi:b.MinAvailable.length≤4000000
 ma:b.MaxUnavailable.length≤4000000
theorem bW{b:Budget}(h:wBudget b≤1500000):BW b:=by
 unfold wBudget at h
 have a1:=wL_len (w:=wRequirement) (fun a=>by unfold wRequirement;omega) b.Selector
 have a2:=wL_len (w:=wAmount) (fun a=>by unfold wAmount;omega) b.MinAvailable
 have a3:=wL_len (w:=wAmount) (fun a=>by unfold wAmount;omega) b.MaxUnavailable
 have a4:=wL_len (w:=wWorkItem) (fun a=>by unfold wWorkItem;omega) b.Disrupted
 refine⟨mW (by omega),⟨by omega,fun r hr=>?_⟩,by omega,by omega,by omega⟩
 have b1:=wL_mem (w:=wRequirement) hr
 unfold wRequirement at b1
 have b2:=wL_len (w:=wS) (fun a=>by unfold wS;omega) r.Values
 unfold wRequirement at h
 omega
theorem pW{p:Pod}(h:wPod p≤1500000):MW p.Meta:=mW (by unfold wPod at h;omega)
theorem bWs{l:List Budget}(h:wL wBudget l≤1500000):∀b∈l,BW b:=fun b hb=>bW (by have:=wL_mem (w:=wBudget) hb;omega)
theorem pWs{l:List Pod}(h:wL wPod l≤1500000):∀p∈l,MW p.Meta:=fun p hp=>pW (by have:=wL_mem (w:=wPod) hp;omega)
theorem sel_t{b:Budget}{p:Pod}(hb:BW b)(hp:MW p.Meta):F29 b p=some (sel b p):=by
 rw[F29,mat_t hb.s hp.labels,sel]
 by_cases h:b.Meta.Namespace=p.Meta.Namespace<;>simp[h]
theorem act_t(p:Pod):F42 p=some (act p):=by
 rw[F42,act]
 by_cases h:p.Status.Phase=0<;>by_cases h2:p.Status.Phase=1<;>simp[h,h2,nb_not]
theorem hea_t(p:Pod):F30 p=some (hea p):=by
 rw[F30,act_t,hea]
 cases p.Status.Ready<;>rfl
theorem dis_l1(k:ByteArray):∀(l:List WorkItem) (i:Nat),(dis l k=true→∃j:Nat,F60_l1 k l i=some (.inl (j:Int)))∧(dis l k=false→F60_l1 k l i=some (.inr ()))
 |[],i=>⟨fun h=>(by cases h),fun _=>(by rw[F60_l1])⟩
 |x::l,i=>by
  have ih:=dis_l1 k l (i+1)
  rw[F60_l1,F63,Option.bind_some]
  by_cases h:x.Key=k
  ·rw[if_pos h]
   exact⟨fun _=>⟨i,rfl⟩,fun hd=>by simp[dis,h]at hd⟩
  ·rw[if_neg h]
   have e:dis (x::l) k=dis l k:=by simp[dis,h]
   rw[e];exact ih
theorem dis_t{l:List WorkItem}(k:ByteArray)(hl:l.length≤4000000):F62 l k=some (dis l k):=by
 rw[F62,F60,ck_t (by omega),Option.bind_some]
 have h:=dis_l1 k l 0
 cases hd:dis l k with
 |true=>obtain⟨j,hj⟩:=h.1 hd;rw[hj];simp
 |false=>rw[h.2 hd];rfl
theorem dis31{b:Budget}(k:ByteArray)(hb:BW b):F31 b k=some (dis b.Disrupted k):=by
 rw[F31,dis_t k (by have:=hb.d;omega)];rfl
theorem key_t{p:Pod}(h:MW p.Meta):F26 p.Meta=some (keyB p.Meta):=KeyOf_t h.key
theorem rkey_t{m:Meta}(h:MW m):F20 m=some (keyB m):=rKeyOf_t h.key
theorem mans_l5(o:List Manager)(ho:∀x∈o,x.Fields.length≤4000000):∀(xs:List Manager) (i:Nat),o.drop i=xs→F24_l5 xs i o=some o
 |[],i,_=>by rw[F24_l5]
 |x::xs,i,e=>by
  have hx:=drop_hd e
  rw[F24_l5,rdI_val hx,Option.bind_some,cl_t (by have:=ho x (List.mem_of_getElem? hx);omega),Option.bind_some,Option.bind_some,Int.toNat_natCast]
  rw[set_same hx]
  exact mans_l5 o ho xs (i+1) (drop_tl e)
theorem reqs_l12(o:List Requirement)(ho:∀x∈o,x.Values.length≤4000000):∀(xs:List Requirement) (i:Nat),o.drop i=xs→F24_l12 xs i o=some o
 |[],i,_=>by rw[F24_l12]
 |x::xs,i,e=>by
  have hx:=drop_hd e
  rw[F24_l12,rdI_val hx,Option.bind_some,cl_t (by have:=ho x (List.mem_of_getElem? hx);omega),Option.bind_some,Option.bind_some,Int.toNat_natCast]
  rw[set_same hx]
  exact reqs_l12 o ho xs (i+1) (drop_tl e)
def parts(b:Budget):(List Label)×(List Owner)×(List ByteArray)×(List Manager)×(List Requirement)×(List Amount)×(List Amount)×(List WorkItem):=
 (b.Meta.Labels,b.Meta.Owners,b.Meta.Finalizers,b.Meta.Managers,b.Selector,b.MinAvailable,b.MaxUnavailable,b.Disrupted)
theorem copy_t{b:Budget}(h:BW b):F24 b=some (parts b):=by
 have h1:=h.m;have h2:=h1.labels;have h3:=h1.owners;have h4:=h1.fins;have h5:=h1.mans;have h6:=h.s.1;have h7:=h.d;have h8:=h.mi;have h9:=h.ma
 rw[F24,cl_t (by omega),Option.bind_some,cl_t (by omega),Option.bind_some,cl_t (by omega),Option.bind_some,cl_t (by omega),Option.bind_some,ck_t (by omega),Option.bind_some,mans_l5 _ h1.man _ 0 (List.drop_zero ..),Option.bind_some,
  cl_t (by omega),Option.bind_some,ck_t (by omega),Option.bind_some,reqs_l12 _ h.s.2 _ 0 (List.drop_zero ..),Option.bind_some,cl_t (by omega),Option.bind_some,cl_t (by omega),Option.bind_some,cl_t (by omega),Option.bind_some]
 rfl
theorem copies_t:∀{l:List Budget},(∀b∈l,BW b)→F14copy l=some l
 |[],_=>rfl
 |b::l,h=>by
  rw[F14copy,copy_t (h b (List.mem_cons_self ..)),Option.bind_some,copies_t (l:=l) fun x hx=>h x (List.mem_cons_of_mem _ hx)];rfl
theorem items_l11(b:Budget):∀(xs:List WorkItem) (i:Nat),b.Disrupted.drop i=xs→F10_l11 b xs i=some (.inr ())
 |[],i,_=>by rw[F10_l11]
 |x::xs,i,e=>by
  have hx:=drop_hd e
  rw[F10_l11,rdI_val hx,Option.bind_some,if_neg (by simp)]
  exact items_l11 b xs (i+1) (drop_tl e)
theorem same_t{b:Budget}(h:MW b.Meta)(hd:b.Disrupted.length≤4000000):F10 b b=some true:=by
 rw[F10,if_neg (by simp),if_neg (by simp),if_neg (by simp),if_neg (by simp),if_neg (by simp),if_neg (by simp),rkey_t h]
 simp only[Option.bind_some,not_true,decide_false,Bool.false_eq_true,if_false]
 rw[ck_t (by omega),Option.bind_some,items_l11 b b.Disrupted 0 (List.drop_zero ..)]
 simp
theorem all_l2(l:List Budget)(h:∀b∈l,MW b.Meta∧b.Disrupted.length≤4000000):∀(xs:List Budget) (i:Nat),l.drop i=xs→F18_l2 l xs i=some (.inr ())
 |[],i,_=>by rw[F18_l2]
 |x::xs,i,e=>by
  have hx:=drop_hd e
  have hm:=h x (List.mem_of_getElem? hx)
  rw[F18_l2,rdI_val hx,Option.bind_some,same_t hm.1 hm.2,Option.bind_some,if_neg (by simp[nb_not])]
  exact all_l2 l h xs (i+1) (drop_tl e)
theorem all_t{l:List Budget}(h:∀b∈l,MW b.Meta∧b.Disrupted.length≤4000000)(hl:l.length≤4000000):F18 l l=some true:=by
 rw[F18,if_neg (by simp),ck_t (by omega),Option.bind_some,all_l2 l h l 0 (List.drop_zero ..)];rfl
theorem hv_l6(b:Budget)(hl:b.Selector.length≤4000000):∀(m k i:Nat),b.Selector.length≤i+m→i≤4000000→m<k→∃r,F8_l6 b k (i:Int)=some r
 |0,k+1,i,h1,_,_=>by rw[F8_l6,if_neg (by omega)];exact⟨_,rfl⟩
 |m+1,k+1,i,h1,h2,h3=>by
  rw[F8_l6]
  by_cases hi:(i:Int)<(b.Selector.length:Int)
  ·rw[if_pos hi,wrapN (by omega),rdI_at (by omega),Option.bind_some]
   have ih:=hv_l6 b hl m k (i+1) (by omega) (by omega) (by omega)
   split
   ·exact⟨_,rfl⟩
   ·exact ih
  ·rw[if_neg hi];exact⟨_,rfl⟩
theorem hv_l1:∀(l:List Budget) (i:Nat),(∀b∈l,BW b)→∃r,F8_l1 l i=some r
 |[],i,_=>⟨_,by rw[F8_l1]⟩
 |x::l,i,h=>by
  have hx:=h x (List.mem_cons_self ..)
  rw[F8_l1]
  have ih:=hv_l1 l (i+1) fun b hb=>h b (List.mem_cons_of_mem _ hb)
  have g:=hv_l6 x hx.s.1 x.Selector.length 1099511627776 0 (by omega) (by omega) (by have:=hx.s.1;omega)
  repeat'(first|exact⟨_,rfl⟩|exact ih|exact g|exact exck (by omega)|exact byI_ex (by omega) (by omega)|exact rdI_ex (by omega) (by omega)|exact apI_ex (by omega)|with_reducible refine exif (fun _=>?_) (fun _=>?_)|with_reducible refine exb ?_ (fun _ _=>?_)|with_reducible refine exmap ?_|split)
theorem hv_l11:∀(l:List Pod) (i:Nat),∃r,F8_l11 l i=some r
 |[],i=>⟨_,by rw[F8_l11]⟩
 |x::l,i=>by
  rw[F8_l11]
  have ih:=hv_l11 l (i+1)
  repeat'(first|exact⟨_,rfl⟩|exact ih|exact exck (by omega)|exact byI_ex (by omega) (by omega)|exact rdI_ex (by omega) (by omega)|exact apI_ex (by omega)|with_reducible refine exif (fun _=>?_) (fun _=>?_)|with_reducible refine exb ?_ (fun _ _=>?_)|with_reducible refine exmap ?_|split)
theorem heavy_ex{l:List Budget}{pods:List Pod}(h:∀b∈l,BW b)(hl:l.length≤4000000)(hp:pods.length≤4000000):∃r,F8 l pods=some r:=by
 rw[F8]
 have g1:=hv_l1 l 0 h
 have g2:=hv_l11 pods 0
 repeat'(first|exact⟨_,rfl⟩|exact g1|exact g2|exact exck (by omega)|exact byI_ex (by omega) (by omega)|exact rdI_ex (by omega) (by omega)|exact apI_ex (by omega)|with_reducible refine exif (fun _=>?_) (fun _=>?_)|with_reducible refine exb ?_ (fun _ _=>?_)|with_reducible refine exmap ?_|split)
theorem awake_t:F9=some true:=by rfl
open Go Go.Fw
set_option maxRecDepth 100000
set_option linter.unusedVariables false
set_option linter.unusedSimpArgs false
open Go Go.Fw
set_option maxRecDepth 100000
set_option linter.unusedVariables false
set_option linter.unusedSimpArgs false
open Go Go.Fw
set_option maxRecDepth 100000
set_option linter.unusedVariables false
set_option linter.unusedSimpArgs false
theorem len_w{α:Type}{w:α→Nat}(hw:∀a,1≤w a){l:List α}{n:Nat}(h:wL w l≤n):l.length≤n:=by have:=wL_len hw l;omega
theorem wPod_pos(p:Pod):1≤wPod p:=by unfold wPod;omega
theorem wBudget_pos(b:Budget):1≤wBudget b:=by unfold wBudget;omega
open Go Go.Fw
set_option maxRecDepth 100000
set_option linter.unusedVariables false
set_option linter.unusedSimpArgs false
def cW(k:ByteArray)(x:WorkItem):Int:=scmp x.Key k
def SW(l:List WorkItem):Prop:=l.Pairwise fun a b=>lt a.Key b.Key
theorem S_of{l:List WorkItem}(h:SW l)(k:ByteArray):S (cW k) l:=by
 refine List.Pairwise.imp ?_ h
 intro a b hab hb
 rw[cW,scmp_neg]
 rcases(scmp_np b.Key k).1 hb with h1|h1
 ·exact lt_trans hab h1
 ·exact h1▸hab
theorem ord_l3(b:Budget)(hl:b.Disrupted.length≤4000000):∀(m k i:Nat),b.Disrupted.length≤i+m→i≤4000001→m<k→1≤i→∃r,F13_l3 b k (i:Int)=some r∧(r= .inl (.inl false)∨(r= .inr ()∧∀j x y,i≤j→b.Disrupted[j]? =some y→b.Disrupted[j-1]? =some x→lt x.Key y.Key))
 |0,k+1,i,h1,_,_,_=>by
  rw[F13_l3,if_neg (by omega)]
  refine⟨_,rfl,.inr ⟨rfl,fun j x y hj hy _=>?_⟩⟩
  have:=(List.getElem?_eq_some_iff.1 hy).1;omega
 |m+1,k+1,i,h1,h2,h3,h4=>by
  rw[F13_l3]
  by_cases hi:i<b.Disrupted.length
  ·have ih:=ord_l3 b hl m k (i+1) (by omega) (by omega) (by omega) (by omega)
   obtain⟨r,hr,hr2⟩:=ih
   rw[if_pos (by omega),rdI_at hi,Option.bind_some,wr_p (by omega) (by omega),rdI_at (show i-1<b.Disrupted.length by omega),Option.bind_some,bl_le,wrapN (by omega)]
   by_cases hc:lt b.Disrupted[i-1].Key b.Disrupted[i].Key
   ·rw[if_neg (by simpa using hc)]
    refine⟨r,hr,hr2.imp id fun⟨e,h⟩=>⟨e,fun j x y hj hy hx=>?_⟩⟩
    by_cases hji:j=i
    ·subst hji
     rw[List.getElem?_eq_getElem hi]at hy
     rw[List.getElem?_eq_getElem (by omega)]at hx
     cases hy;cases hx;exact hc
    ·exact h j x y (by omega) hy hx
   ·rw[if_pos (by simpa using hc)]
    exact⟨_,rfl,.inl rfl⟩
  ·rw[if_neg (by omega)]
   refine⟨_,rfl,.inr ⟨rfl,fun j x y hj hy _=>?_⟩⟩
   have:=(List.getElem?_eq_some_iff.1 hy).1;omega
theorem SW_adj:∀{l:List WorkItem},(∀(j:Nat) x y,1≤j→l[j]? =some y→l[j-1]? =some x→lt x.Key y.Key)→SW l
 |[],_=>List.Pairwise.nil
 |[x],_=>by simp[SW]
 |x::y::l,h=>by
  have h1:SW (y::l):=SW_adj fun j a b hj hb ha=>by
   refine h (j+1) a b (by omega) (by simpa using hb) ?_
   obtain⟨i,rfl⟩:∃i,j=i+1:=⟨j-1,by omega⟩
   simpa using ha
  have hxy:lt x.Key y.Key:=h 1 x y (by omega) rfl rfl
  refine List.pairwise_cons.2 ⟨fun z hz=>?_,h1⟩
  rcases List.mem_cons.1 hz with rfl|hz
  ·exact hxy
  ·exact lt_trans hxy ((List.pairwise_cons.1 h1).1 z hz)
theorem ord_l1:∀(l:List Budget) (i:Nat),(∀b∈l,b.Disrupted.length≤4000000)→∃r,F13_l1 l i=some r∧(r= .inl false∨r= .inr ()∧∀b∈l,SW b.Disrupted)
 |[],i,_=>⟨_,by rw[F13_l1],.inr ⟨rfl,fun b hb=>by cases hb⟩⟩
 |b::l,i,h=>by
  obtain⟨r,h1,h2⟩:=ord_l3 b (h b (List.mem_cons_self ..)) b.Disrupted.length 1099511627776 1 (by omega) (by omega) (by have:=h b (List.mem_cons_self ..);omega) (Nat.le_refl _)
  obtain⟨r2,h3,h4⟩:=ord_l1 l (i+1) fun x hx=>h x (List.mem_cons_of_mem _ hx)
  rw[F13_l1,show(1:Int)=((1:Nat):Int)from rfl,h1,Option.bind_some]
  rcases h2 with rfl|⟨rfl,h5⟩
  ·exact⟨_,rfl,.inl rfl⟩
  ·refine⟨r2,h3,h4.imp id fun⟨e,h6⟩=>⟨e,fun x hx=>?_⟩⟩
   rcases List.mem_cons.1 hx with rfl|hx
   ·exact SW_adj fun j a c hj=>h5 j a c hj
   ·exact h6 x hx
theorem ord_t{l:List Budget}(h:∀b∈l,b.Disrupted.length≤4000000)(hl:l.length≤4000000):∃r,F13 l=some r∧(r=true→∀b∈l,SW b.Disrupted):=by
 obtain⟨r,h1,h2⟩:=ord_l1 l 0 h
 rw[F13,ck_t (by omega),Option.bind_some,h1,Option.bind_some]
 rcases h2 with rfl|⟨rfl,h3⟩
 ·exact⟨_,rfl,fun h=>by cases h⟩
 ·exact⟨_,rfl,fun _=>h3⟩
theorem cmp_t(a b:ByteArray):F45 a b=some (scmp a b):=by
 rw[F45]
 first|rfl|(rw[F66];rfl)
theorem bs_l1(l:List WorkItem)(it:WorkItem):∀(n:Nat) (a b:Int),F43_l1 l it n a b=bsL (cW it.Key) l n a b
 |0,a,b=>by rw[F43_l1,bsL]
 |n+1,a,b=>by
  rw[F43_l1,bsL]
  have ih:=bs_l1 l it n
  show(if a<b then(rdI l (mid a b)).bind (fun y3=>(F44 y3 it).bind fun t4=>if t4<0 then F43_l1 l it n (IntKind.i64.wrap (mid a b+1)) b else F43_l1 l it n a (mid a b))else some a)=_
  simp only[ih]
  have e:∀y,F44 y it=some (cW it.Key y):=fun y=>by rw[F44,cmp_t];rfl
  simp only[e,Option.bind_some]
theorem bs_t{l:List WorkItem}(it:WorkItem)(hs:SW l)(hl:l.length≤1000000):∃f,F43 l it=some ((plc (cW it.Key) l:Int),f):=by
 have hp:=plc_le (cW it.Key) l
 have h:=bsL_spec (S_of hs it.Key) hl 1099511627776 0 l.length (by omega) (by omega) hp (Nat.le_refl _)
 rw[F43,bs_l1,show(0:Int)=((0:Nat):Int)from rfl,h,Option.bind_some]
 have e:∀y,F44 y it=some (cW it.Key y):=fun y=>by rw[F44,cmp_t];rfl
 have g:=find_t (S_of hs it.Key)
 simp only[e,Option.bind_some]
 rw[show((0:Nat):Int)=0 from rfl,g]
 exact⟨_,rfl⟩
theorem ins_t{l:List WorkItem}(it:WorkItem)(hl:l.length≤1000000):insI l (plc (cW it.Key) l:Int) it=some (insC (cW it.Key) it l):=by
 have hp:=plc_le (cW it.Key) l
 rw[←insC_plc]
 unfold insI
 rw[if_pos (by omega)]
 simp
open Go Go.Fw
set_option maxRecDepth 100000
set_option linter.unusedVariables false
set_option linter.unusedSimpArgs false
def blk(p:Pod)(b:Budget):Bool:=sel b p&&(decide (b.Allowed≤0)&& !(dis b.Disrupted (keyB p.Meta)))
def allow(l:List Budget)(p:Pod):Bool:= !(hea p)|| !(l.any (blk p))
theorem blk_t{b:Budget}{p:Pod}(hb:BW b)(hp:MW p.Meta):F50 b p (keyB p.Meta)=some (blk p b):=by
 rw[F50,sel_t hb hp,dis31 _ hb,blk]
 by_cases h:b.Allowed≤0
 ·rcases Bool.eq_false_or_eq_true (sel b p)with g|g<;>simp[g,h,nb_not]
 ·rcases Bool.eq_false_or_eq_true (sel b p)with g|g<;>simp[g,h,nb_not]
theorem al_l1{p:Pod}(hp:MW p.Meta):∀(l:List Budget) (i:Nat),(∀b∈l,BW b)→(l.any (blk p)=true→∃j:Nat,F69_l1 p (keyB p.Meta) l i=some (.inl (j:Int)))∧(l.any (blk p)=false→F69_l1 p (keyB p.Meta) l i=some (.inr ()))
 |[],i,_=>⟨fun h=>(by cases h),fun _=>(by rw[F69_l1])⟩
 |b::l,i,h=>by
  have ih:=al_l1 hp l (i+1) fun x hx=>h x (List.mem_cons_of_mem _ hx)
  rw[F69_l1,blk_t (h b (List.mem_cons_self ..)) hp,Option.bind_some]
  rcases Bool.eq_false_or_eq_true (blk p b)with g|g
  ·rw[if_pos g]
   exact⟨fun _=>⟨i,rfl⟩,fun hd=>by simp[g]at hd⟩
  ·rw[if_neg (by simp[g])]
   have e:(b::l).any (blk p)=l.any (blk p):=by simp[g]
   rw[e];exact ih
theorem allow_t{l:List Budget}{pods:List Pod}{p:Pod}(hb:∀b∈l,BW b)(hl:l.length≤4000000)(hp:MW p.Meta):F16 l pods p=some (allow l p):=by
 rw[F16,key_t hp,Option.bind_some,hea_t,Option.bind_some,F49,F69,ck_t (by omega),Option.bind_some,allow]
 have h:=al_l1 hp l 0 hb
 rcases Bool.eq_false_or_eq_true (hea p)with g|g
 ·rw[if_neg (by simp[g,nb_not])]
  rcases Bool.eq_false_or_eq_true (l.any (blk p))with g2|g2
  ·obtain⟨j,hj⟩:=h.1 g2;rw[hj,g2];simp[g,nb_not]
  ·rw[h.2 g2,g2];simp[nb_not]
 ·rw[if_pos (by simp[g,nb_not])];simp[g]
theorem idx_yes{k:ByteArray}{p:Pod}(hp:keyB p.Meta=k)(b:List Pod):∀(a:List Pod) (i:Nat),(∀q∈a++p::b,MW q.Meta)→(∀q∈a,keyB q.Meta≠k)→F40_l1 k (a++p::b) i=some (.inl ((i+a.length:Nat):Int))
 |[],i,h,_=>by
  rw[List.nil_append,F40_l1,F41,key_t (h p (List.mem_cons_self ..)),Option.bind_some,Option.bind_some,if_pos (by simpa using hp)];rfl
 |q::a,i,h,hk=>by
  rw[List.cons_append,F40_l1,F41,key_t (h q (List.mem_cons_self ..)),Option.bind_some,Option.bind_some,if_neg (by simpa using hk q (List.mem_cons_self ..)),idx_yes hp b a (i+1) (fun x hx=>h x (List.mem_cons_of_mem _ hx)) fun x hx=>hk x (List.mem_cons_of_mem _ hx)]
  simp only[List.length_cons];congr 3;omega
def chg(p:Pod)(it:WorkItem)(b:Budget):Budget:=if(sel b p&& !(dis b.Disrupted it.Key))=true then F14one b (insC (cW it.Key) it b.Disrupted)else b
def ev(l:List Budget)(p:Pod)(it:WorkItem):List Budget×Int:=
 if act p=false then(l,7)else if allow l p=false then(l,16)else if hea p=false then(l,0)else(l.map (chg p it),0)
theorem rdI_pre{α:Type}{a b:List α}{x:α}:rdI (a++x::b) (a.length:Int)=some x:=rdI_val (by simp)
theorem c3_t{pods:List Pod}{at_:Int}{p:Pod}{b:Budget}{key:ByteArray}{it:WorkItem}(hat:rdI pods at_=some p)(hb:BW b)(hp:MW p.Meta):F14c3 pods key [] at_ it 0 0 b b.Disrupted=some (if(sel b p&& !(dis b.Disrupted key))=true then .inr ()else .inl ()):=by
 rw[F14c3,hat,Option.bind_some]
 show((F29 b p).bind fun t3=>(if nb t3=true then some true else(F31 b key).bind fun t5=>some t5)).bind _=_
 rw[sel_t hb hp,dis31 _ hb]
 rcases Bool.eq_false_or_eq_true (sel b p)with g|g<;>rcases Bool.eq_false_or_eq_true (dis b.Disrupted key)with g2|g2<;>simp[g,g2,nb_not]
theorem loop_t{pods:List Pod}{at_:Int}{p:Pod}{it:WorkItem}(hat:rdI pods at_=some p)(hp:MW p.Meta):∀{l:List Budget},(∀b∈l,BW b∧SW b.Disrupted∧b.Disrupted.length≤1000000)→F14loop pods it.Key at_ it l=some (l.map (chg p it))
 |[],_=>rfl
 |b::l,h=>by
  obtain⟨hb,hs,hd⟩:=h b (List.mem_cons_self ..)
  have ih:=loop_t (it:=it) hat hp (l:=l) fun x hx=>h x (List.mem_cons_of_mem _ hx)
  rw[F14loop,c3_t hat hb hp,Option.bind_some,List.map_cons,chg]
  by_cases hc:(sel b p&& !(dis b.Disrupted it.Key))=true
  ·rw[if_pos hc,if_pos hc]
   obtain⟨f,hf⟩:=bs_t it hs hd
   show(F43 b.Disrupted it).bind _=_
   rw[hf,Option.bind_some,ins_t it hd,Option.bind_some,ih];rfl
  ·rw[if_neg hc,if_neg hc]
   show(F14loop pods it.Key at_ it l).bind _=_
   rw[ih];rfl
structure EW(l:List Budget)(pods:List Pod):Prop where
 b:∀b∈l,BW b
 d:∀b∈l,b.Disrupted.length≤1000000
 p:∀p∈pods,MW p.Meta
 l:l.length≤2000000
 n:pods.length≤2000000
theorem evict_p{l:List Budget}{pods:List Pod}{key:ByteArray}{now:Int}(h:EW l pods){a b:List Pod}{p:Pod}(e:pods=a++p::b)(ha:∀q∈a,keyB q.Meta≠key)(hk:keyB p.Meta=key)(hs:∀b∈l,SW b.Disrupted):
 F14 l pods key now=some (ev l p (F14it key now)):=by
 have hl:=h.l;have hn:=h.n
 have hp:MW p.Meta:=h.p p (by rw[e];simp)
 have hrd:rdI pods (a.length:Int)=some p:=by rw[e];exact rdI_pre
 have hall:∀b∈l,BW b∧SW b.Disrupted∧b.Disrupted.length≤1000000:=fun x hx=>⟨h.b x hx,hs x hx,h.d x hx⟩
 have hlen:pods.length=a.length+(b.length+1):=by rw[e];simp
 have hi:=idx_yes hk b a 0 (by rw[←e];exact h.p) ha
 rw[←e,Nat.zero_add]at hi
 rw[F14,cl_t (by omega),Option.bind_some,ck_t (by omega),Option.bind_some,copies_t h.b,Option.bind_some,F40,ck_t (by omega),Option.bind_some,hi]
 simp only[Option.bind_some]
 rw[F14m2,if_neg (by omega),hrd]
 simp only[Option.bind_some]
 rw[act_t]
 simp only[Option.bind_some]
 rw[allow_t h.b (by omega) hp]
 simp only[Option.bind_some]
 rw[hea_t,ev]
 have hlp:=loop_t (it:=F14it key now) hrd hp hall
 have ek:(F14it key now).Key=key:=rfl
 rw[ek]at hlp
 rcases Bool.eq_false_or_eq_true (act p)with g|g
 ·rcases Bool.eq_false_or_eq_true (allow l p)with g2|g2
  ·rcases Bool.eq_false_or_eq_true (hea p)with g3|g3
   ·simp[g,g2,g3,nb_not,F25,hlp]
   ·simp[g,g2,g3,nb_not]
  ·simp[g,g2,nb_not]
 ·simp[g,nb_not]
open Go Go.Fw
set_option maxRecDepth 100000
set_option linter.unusedVariables false
set_option linter.unusedSimpArgs false
theorem wsum3{α:Type}{w:α→Nat}(hw:∀a,3≤w a):∀l:List α,3*l.length≤(l.map w).sum
 |[]=>by simp
 |a::l=>by have:=wsum3 hw l;have:=hw a;simp;omega
theorem wD{b:Budget}:3*b.Disrupted.length≤wBudget b:=by
 have h:=wsum3 (w:=wWorkItem) (fun a=>by unfold wWorkItem wS wN;omega) b.Disrupted
 unfold wBudget wL;omega
theorem eW{l:List Budget}{pods:List Pod}(h:wL wBudget l+wL wPod pods≤1048576):EW l pods:=by
 have h1:=len_w wBudget_pos (l:=l) (n:=1048576) (by omega)
 have h2:=len_w wPod_pos (l:=pods) (n:=1048576) (by omega)
 refine⟨bWs (by omega),fun b hb=>?_,pWs (by omega),by omega,by omega⟩
 have:=wL_mem (w:=wBudget) hb
 have:=@wD b
 omega
theorem ap_l3(pods:List Pod)(h:∀p∈pods,MW p.Meta)(x:Pod)(hx:MW x.Meta)(i:Nat)(hi:i≤pods.length)(hl:pods.length≤4000000):∀(m n k:Nat),i≤k+m→m<n→∃r,F19_l3 i pods x n (k:Int)=some r∧(r= .inl (.inl false)∨r= .inr ()∧∀j y,k≤j→j<i→pods[j]? =some y→keyB x.Meta≠keyB y.Meta)
 |0,n+1,k,h1,_=>by
  rw[F19_l3,if_neg (by omega)]
  exact⟨_,rfl,.inr ⟨rfl,fun j y h2 h3=>by omega⟩⟩
 |m+1,n+1,k,h1,h2=>by
  rw[F19_l3]
  by_cases hk:k<i
  ·obtain⟨r,hr,hr2⟩:=ap_l3 pods h x hx i hi hl m n (k+1) (by omega) (by omega)
   have hkl:k<pods.length:=by omega
   rw[if_pos (by omega),rkey_t hx,Option.bind_some,rdI_at hkl,Option.bind_some,rkey_t (h _ (List.getElem_mem _)),Option.bind_some,wrapN (by omega)]
   by_cases hc:keyB x.Meta=keyB pods[k].Meta
   ·rw[if_pos hc];exact⟨_,rfl,.inl rfl⟩
   ·rw[if_neg hc]
    refine⟨r,hr,hr2.imp id fun⟨e,g⟩=>⟨e,fun j y h3 h4 h5=>?_⟩⟩
    by_cases hj:j=k
    ·subst hj;rw[List.getElem?_eq_getElem hkl]at h5;cases h5;exact hc
    ·exact g j y (by omega) h4 h5
  ·rw[if_neg (by omega)]
   exact⟨_,rfl,.inr ⟨rfl,fun j y h2 h3=>by omega⟩⟩
theorem ap_l1(pods:List Pod)(h:∀p∈pods,MW p.Meta)(hl:pods.length≤4000000):∀(xs:List Pod) (i:Nat),pods.drop i=xs→i≤pods.length→∃r,F19_l1 pods xs i=some r∧(r= .inl false∨r= .inr ()∧∀(k j:Nat) (x y:Pod),i≤k→j<k→pods[k]? =some x→pods[j]? =some y→keyB x.Meta≠keyB y.Meta)
 |[],i,e,hi=>by
  rw[F19_l1]
  refine⟨_,rfl,.inr ⟨rfl,fun k j x y h1 _ h3=>?_⟩⟩
  have:pods.length≤i:=by simpa using e
  have:=(List.getElem?_eq_some_iff.1 h3).1;omega
 |x::xs,i,e,hi=>by
  have hy:=drop_hd e
  have hlt:=(List.getElem?_eq_some_iff.1 hy).1
  obtain⟨r,h1,h2⟩:=ap_l3 pods h x (h x (List.mem_of_getElem? hy)) i hi hl i 1099511627776 0 (by omega) (by omega)
  obtain⟨r2,h3,h4⟩:=ap_l1 pods h hl xs (i+1) (drop_tl e) (by omega)
  rw[show((0:Nat):Int)=0 from rfl]at h1
  rw[F19_l1,h1,Option.bind_some]
  rcases h2 with rfl|⟨rfl,h5⟩
  ·exact⟨_,rfl,.inl rfl⟩
  ·refine⟨r2,h3,h4.imp id fun⟨e2,g⟩=>⟨e2,fun k j a b g1 g2 g3 g4=>?_⟩⟩
   by_cases hk:k=i
   ·subst hk;rw[hy]at g3;cases g3
    exact h5 j b (Nat.zero_le _) g2 g4
   ·exact g k j a b (by omega) g2 g3 g4
theorem apart_t{pods:List Pod}(h:∀p∈pods,MW p.Meta)(hl:pods.length≤4000000):∃r,F19 pods=some r∧(r=true→∀(k j:Nat) (x y:Pod),j<k→pods[k]? =some x→pods[j]? =some y→keyB x.Meta≠keyB y.Meta):=by
 obtain⟨r,h1,h2⟩:=ap_l1 pods h hl pods 0 (List.drop_zero ..) (Nat.zero_le _)
 rw[F19,ck_t (by omega),Option.bind_some,h1,Option.bind_some]
 rcases h2 with rfl|⟨rfl,h3⟩
 ·exact⟨_,rfl,fun h=>by cases h⟩
 ·exact⟨_,rfl,fun _ k j x y=>h3 k j x y (Nat.zero_le _)⟩
theorem first_at{pods:List Pod}(ha:∀(k j:Nat) (x y:Pod),j<k→pods[k]? =some x→pods[j]? =some y→keyB x.Meta≠keyB y.Meta){i:Nat}{p:Pod}(hp:pods[i]? =some p):∃a b,pods=a++p::b∧(∀q∈a,keyB q.Meta≠keyB p.Meta):=by
 have hlt:=(List.getElem?_eq_some_iff.1 hp).1
 refine⟨pods.take i,pods.drop (i+1),?_,fun q hq=>?_⟩
 ·have e:pods.drop i=p::pods.drop (i+1):=by
   rw[List.drop_eq_getElem_cons hlt]
   rw[List.getElem?_eq_getElem hlt]at hp;cases hp;rfl
  rw[←e,List.take_append_drop]
 ·obtain⟨j,hj,rfl⟩:=List.mem_iff_getElem.1 hq
  simp only[List.length_take]at hj
  have h2:j<i:=Nat.lt_of_lt_of_le hj (Nat.min_le_left _ _)
  exact fun he=>ha i j p _ h2 hp (by rw[List.getElem_take];exact List.getElem?_eq_getElem (by omega)) he.symm
theorem BudgetUnready_pure:BudgetUnready.Pure:=by
 intro l pods at_ now _ _ hat _ hw
 have h:EW l pods:=eW (by omega)
 have hl:=h.l;have hn:=h.n
 obtain⟨r,hr⟩:=heavy_ex h.b (by omega) (by omega:pods.length≤4000000)
 obtain⟨o,ho,ho2⟩:=ord_t (l:=l) (fun b hb=>by have:=h.d b hb;omega) (by omega)
 obtain⟨u,hu,hu2⟩:=apart_t h.p (by omega)
 rw[F6,hr,Option.bind_some]
 cases r with
 |true=>rw[if_pos rfl,Option.bind_some,if_pos rfl,awake_t];rfl
 |false=>
  rw[if_neg (by simp),ho,Option.bind_some,nb_not]
  cases o with
  |false=>rw[if_pos (show(!false)=true from rfl),Option.bind_some,if_pos rfl,awake_t];rfl
  |true=>
   rw[if_neg (by simp)]
   have hs:=ho2 rfl
   by_cases h0:(pods.length:Int)=0
   ·rw[if_pos h0,Option.bind_some,if_pos rfl,awake_t];rfl
   ·rw[if_neg h0,hu,Option.bind_some,Option.bind_some,nb_not]
    cases u with
    |false=>rw[if_pos (show(!false)=true from rfl),awake_t];rfl
    |true=>
     have ha:=hu2 rfl
     unfold ok8 at hat
     rw[if_neg (by simp),ck_t h0,Option.bind_some,wrapI (by omega) (by omega),Int.tmod_eq_emod_of_nonneg hat.1]
     have hm:0≤at_%(pods.length:Int)∧at_%(pods.length:Int)<pods.length:=⟨Int.emod_nonneg _ h0,Int.emod_lt_of_pos _ (by omega)⟩
     obtain⟨i,hi⟩:∃i:Nat,at_%(pods.length:Int)=i:=⟨(at_%(pods.length:Int)).toNat,by omega⟩
     rw[hi]at hm⊢
     have hlt:i<pods.length:=by omega
     rw[rdI_at hlt,Option.bind_some]
     have hp:pods[i]? =some pods[i]:=List.getElem?_eq_getElem hlt
     generalize pods[i]=p at hp
     have hpm:MW p.Meta:=h.p p (List.mem_of_getElem? hp)
     by_cases c1:p.Status.Ready=true
     ·rw[if_pos c1,Option.bind_some,if_pos rfl,awake_t];rfl
     rw[if_neg c1]
     by_cases c2:p.Meta.Deleting=true
     ·rw[if_pos c2,Option.bind_some,if_pos rfl,awake_t];rfl
     rw[if_neg c2]
     by_cases c3:p.Status.Phase=0∨p.Status.Phase=1
     ·have e3:(if¬(p.Status.Phase=0)then some (decide (¬(p.Status.Phase=1)))else some false)=some false:=by
       rcases c3 with c|c
       ·rw[if_neg (by simpa using c)]
       ·rw[if_pos (by omega)];simp[c]
      rw[e3,Option.bind_some,if_neg (by simp),rkey_t hpm,Option.bind_some]
      obtain⟨a,b,g1,g2⟩:=first_at ha hp
      have e1:=evict_p (now:=now) h g1 g2 rfl hs
      have hact:act p=true:=by
       unfold act
       rcases c3 with c|c<;>simp[c,c2]
      have hhea:hea p=false:=by unfold hea;simp[c1]
      have hal:allow l p=true:=by unfold allow;simp[hhea]
      have e2:ev l p (F14it (keyB p.Meta) now)=(l,0):=by
       unfold ev;rw[hact,hal,hhea];rfl
      rw[e1,e2,Option.bind_some]
      simp[all_t (l:=l) (fun b hb=>⟨(h.b b hb).m,by have:=h.d b hb;omega⟩) (by omega),awake_t]
     ·have e3:(if¬(p.Status.Phase=0)then some (decide (¬(p.Status.Phase=1)))else some false)=some true:=by
       rw[if_pos (fun c=>c3 (.inl c))]
       simp only[Option.some.injEq,decide_eq_true_eq]
       exact fun c=>c3 (.inr c)
      rw[e3,Option.bind_some,if_pos rfl,awake_t];rfl
end Go.Proofs.Ytedgocbpegllaaa
