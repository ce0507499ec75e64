/- The plain law. -/
import Derived.Test.YtedgocbpegllaaaBP
import Derived.Test.YtedgocbpegllaaaFP
import Derived.KernelRfl
set_option linter.unusedVariables false
set_option linter.unusedSimpArgs false
namespace Go.Proofs.Ytedgocbpegllaaa
open Go Go.Fw
set_option maxRecDepth 100000
set_option linter.unusedVariables false
set_option linter.unusedSimpArgs false
section
variable {α:Type}
end
theorem exb{α β:Type}{e:Option α}{f:α→Option β}(h:∃a,e=some a)(hf:∀a,e=some a→∃r,f a=some r):∃r,e.bind f=some r:=by
 obtain⟨a,ha⟩:=h;obtain⟨r,hr⟩:=hf a ha;exact⟨r,by rw[ha];exact hr⟩
theorem exif{α:Type}{p:Prop}[Decidable p]{a b:Option α}(h1:p→∃r,a=some r)(h2:¬p→∃r,b=some r):∃r,(if p then a else b)=some r:=by
 by_cases h:p
 ·rw[if_pos h];exact h1 h
 ·rw[if_neg h];exact h2 h
theorem exmap{α β:Type}{e:Option α}{f:α→β}(h:∃a,e=some a):∃r,e.map f=some r:=by
 obtain⟨a,ha⟩:=h;exact⟨f a,by rw[ha];rfl⟩
theorem exck{p:Prop}[Decidable p](h:p):∃r,ck p=some r:=⟨(),ck_t h⟩
theorem byI_ex{b:ByteArray}{i:Int}(h:0≤i)(h2:i<b.size):∃y,byI b i=some y:=by
 obtain⟨n,rfl⟩:∃n:Nat,i=n:=⟨i.toNat,by omega⟩
 have hs:n<b.size:=by omega
 exact⟨(b[n].toNat:Int),by unfold byI;rw[if_pos (by omega)];simp[hs]⟩
theorem rdI_ex{α:Type}{l:List α}{i:Int}(h:0≤i)(h2:i<l.length):∃y,rdI l i=some y:=by
 obtain⟨n,rfl⟩:∃n:Nat,i=n:=⟨i.toNat,by omega⟩
 exact⟨_,rdI_at (by omega)⟩
theorem apI_ex{α:Type}{xs ys:List α}(h:xs.length+ys.length≤4294967290):∃y,apI xs ys=some y:=⟨_,apI_t h⟩
theorem rdI_val{α:Type}{l:List α}{i:Nat}{y:α}(h:l[i]? =some y):rdI l (i:Int)=some y:=by rw[rdI_nat];exact h
theorem drop_hd{α:Type}{l:List α}{i:Nat}{x:α}{xs:List α}(e:l.drop i=x::xs):l[i]? =some x:=by rw[←List.head?_drop,e];rfl
theorem drop_tl{α:Type}{l:List α}{i:Nat}{x:α}{xs:List α}(e:l.drop i=x::xs):l.drop (i+1)=xs:=by
 rw[←List.drop_drop,e];rfl
theorem set_same{α:Type}:∀{l:List α} {i:Nat} {x:α},l[i]? =some x→l.set i x=l
 |[],_,_,h=>by simp at h
 |y::l,0,x,h=>by simp at h;simp[h]
 |y::l,i+1,x,h=>by simp at h;simp[set_same h]
theorem cl_t{α:Type}{l:List α}(h:l.length≤4294967290):cloneI l=some l:=if_pos h
theorem catI_t{a b:ByteArray}(h:a.size+b.size≤9223372036854775807):catI a b=some (a++b):=if_pos h
theorem bsize(a b:ByteArray):(a++b).size=a.size+b.size:=ByteArray.size_append
theorem wL_mem{α:Type}{w:α→Nat}{x:α}:∀{l:List α},x∈l→w x+1≤wL w l
 |[],h=>by cases h
 |y::l,h=>by
  unfold wL
  simp only[List.map_cons,List.sum_cons]
  rcases List.mem_cons.1 h with rfl|h
  ·omega
  ·have:=wL_mem (w:=w) h;unfold wL at this;omega
open Go Go.Fw
set_option maxRecDepth 100000
set_option linter.unusedVariables false
set_option linter.unusedSimpArgs false
def keyB(m:Meta):ByteArray:=(((m.Kind++(⟨#[47]⟩:ByteArray))++m.Namespace)++(⟨#[47]⟩:ByteArray))++m.Name
theorem sl1:(⟨#[47]⟩:ByteArray).size=1:=rfl
theorem KeyOf_t{m:Meta}(h:m.Kind.size+m.Namespace.size+m.Name.size≤4000000):F26 m=some (keyB m):=by
 rw[F26,F59,catI_t (by rw[sl1];omega),Option.bind_some,catI_t (by rw[bsize,sl1];omega),Option.bind_some,catI_t (by rw[bsize,bsize,sl1];omega),Option.bind_some,catI_t (by rw[bsize,bsize,bsize,sl1];omega)]
 rfl
theorem lget_l1(k:ByteArray):∀(l:List Label) (i:Nat),∃r,F75_l1 k l i=some r
 |[],i=>⟨_,by rw[F75_l1]⟩
 |x::l,i=>by
  rw[F75_l1]
  have ih:=lget_l1 k l (i+1)
  repeat'(first|exact⟨_,rfl⟩|exact ih|exact exck (by omega)|exact byI_ex (by omega) (by omega)|exact rdI_ex (by omega) (by omega)|exact apI_ex (by omega)|with_reducible refine exif (fun _=>?_) (fun _=>?_)|with_reducible refine exb ?_ (fun _ _=>?_)|with_reducible refine exmap ?_|split)
theorem lget_ex{l:List Label}(k:ByteArray)(hl:l.length≤4000000):∃r,F75 l k=some r:=by
 rw[F75]
 have g:=lget_l1 k l 0
 repeat'(first|exact⟨_,rfl⟩|exact g|exact exck (by omega)|exact byI_ex (by omega) (by omega)|exact rdI_ex (by omega) (by omega)|exact apI_ex (by omega)|with_reducible refine exif (fun _=>?_) (fun _=>?_)|with_reducible refine exb ?_ (fun _ _=>?_)|with_reducible refine exmap ?_|split)
theorem idx_l1(k:ByteArray):∀(l:List ByteArray) (i:Nat),∃r,F80_l1 k l i=some r
 |[],i=>⟨_,by rw[F80_l1]⟩
 |x::l,i=>by
  rw[F80_l1]
  have ih:=idx_l1 k l (i+1)
  repeat'(first|exact⟨_,rfl⟩|exact ih|exact exck (by omega)|exact byI_ex (by omega) (by omega)|exact rdI_ex (by omega) (by omega)|exact apI_ex (by omega)|with_reducible refine exif (fun _=>?_) (fun _=>?_)|with_reducible refine exb ?_ (fun _ _=>?_)|with_reducible refine exmap ?_|split)
theorem cont_ex{l:List ByteArray}(k:ByteArray)(hl:l.length≤4000000):∃r,F76 l k=some r:=by
 rw[F76,F80]
 have g:=idx_l1 k l 0
 repeat'(first|exact⟨_,rfl⟩|exact g|exact exck (by omega)|exact byI_ex (by omega) (by omega)|exact rdI_ex (by omega) (by omega)|exact apI_ex (by omega)|with_reducible refine exif (fun _=>?_) (fun _=>?_)|with_reducible refine exb ?_ (fun _ _=>?_)|with_reducible refine exmap ?_|split)
theorem holds_ex{r:Requirement}{l:List Label}(h1:r.Values.length≤4000000)(hl:l.length≤4000000):∃b,F70 r l=some b:=by
 rw[F70]
 have g:=lget_ex r.Key hl
 have g2:=fun k=>cont_ex (l:=r.Values) k h1
 repeat'(first|exact⟨_,rfl⟩|exact g|exact g2 _|exact exck (by omega)|exact byI_ex (by omega) (by omega)|exact rdI_ex (by omega) (by omega)|exact apI_ex (by omega)|with_reducible refine exif (fun _=>?_) (fun _=>?_)|with_reducible refine exb ?_ (fun _ _=>?_)|with_reducible refine exmap ?_|split)
theorem mat_l1{l:List Label}(hl:l.length≤4000000):∀(sel:List Requirement) (i:Nat),(∀r∈sel,r.Values.length≤4000000)→∃b,F61_l1 l sel i=some b
 |[],i,_=>⟨_,by rw[F61_l1]⟩
 |x::sel,i,h=>by
  rw[F61_l1]
  have ih:=mat_l1 hl sel (i+1) fun r hr=>h r (List.mem_cons_of_mem _ hr)
  have g:=holds_ex (h x (List.mem_cons_self ..)) hl
  repeat'(first|exact⟨_,rfl⟩|exact ih|exact g|exact exck (by omega)|exact byI_ex (by omega) (by omega)|exact rdI_ex (by omega) (by omega)|exact apI_ex (by omega)|with_reducible refine exif (fun _=>?_) (fun _=>?_)|with_reducible refine exb ?_ (fun _ _=>?_)|with_reducible refine exmap ?_|split)
def selOk(sel:List Requirement):Prop:=sel.length≤4000000∧∀r∈sel,r.Values.length≤4000000
def matB(sel:List Requirement)(l:List Label):Bool:=(F61 sel l).getD false
theorem mat_t{sel:List Requirement}{l:List Label}(h:selOk sel)(hl:l.length≤4000000):F61 sel l=some (matB sel l):=by
 have:∃b,F61 sel l=some b:=by
  rw[F61]
  have g:=mat_l1 hl sel 0 h.2
  have:=h.1
  repeat'(first|exact⟨_,rfl⟩|exact g|exact exck (by omega)|exact byI_ex (by omega) (by omega)|exact rdI_ex (by omega) (by omega)|exact apI_ex (by omega)|with_reducible refine exif (fun _=>?_) (fun _=>?_)|with_reducible refine exb ?_ (fun _ _=>?_)|with_reducible refine exmap ?_|split)
 obtain⟨b,hb⟩:=this
 unfold matB;rw[hb];rfl
structure MW(m:Meta):Prop where
 key:m.Kind.size+m.Namespace.size+m.Name.size≤4000000
 labels:m.Labels.length≤4000000
 owners:m.Owners.length≤4000000
 fins:m.Finalizers.length≤4000000
 mans:m.Managers.length≤4000000
 man:∀x∈m.Managers,x.Fields.length≤4000000
theorem mW{m:Meta}(h:wMeta m≤4000000):MW m:=by
 unfold wMeta at h
 have a1:=wL_len (w:=wLabel) (fun a=>by unfold wLabel;omega) m.Labels
 have a2:=wL_len (w:=wOwner) (fun a=>by unfold wOwner;omega) m.Owners
 have a3:=wL_len (w:=wS) (fun a=>by unfold wS;omega) m.Finalizers
 have a4:=wL_len (w:=wManager) (fun a=>by unfold wManager;omega) m.Managers
 refine⟨?_,by omega,by omega,by omega,by omega,fun x hx=>?_⟩
 ·unfold wS at h;omega
 ·have b1:=wL_mem (w:=wManager) hx
  unfold wManager at b1
  have b2:=wL_len (w:=wS) (fun a=>by unfold wS;omega) x.Fields
  unfold wManager at h
  omega
open Go Go.Fw
set_option maxRecDepth 100000
set_option linter.unusedVariables false
set_option linter.unusedSimpArgs false
def dis(l:List WorkItem)(k:ByteArray):Bool:=l.any fun x=>decide (x.Key=k)
def sel(b:Budget)(p:Pod):Bool:=decide (b.Meta.Namespace=p.Meta.Namespace)&&matB b.Selector p.Meta.Labels
def act(p:Pod):Bool:=(decide (p.Status.Phase=0)||decide (p.Status.Phase=1))&& !p.Meta.Deleting
def hea(p:Pod):Bool:=p.Status.Ready&&act p
structure BW(b:Budget):Prop where
 m:MW b.Meta
 s:selOk b.Selector
 d:b.Disrupted.length≤2000000
 mi:b.MinAvailable.length≤4000000
 ma:b.MaxUnavailable.length≤4000000
theorem bW{b:Budget}(h:wBudget b≤1500000):BW b:=by
 unfold wBudget at h
 have a1:=wL_len (w:=wRequirement) (fun a=>by unfold wRequirement;omega) b.Selector
 have a2:=wL_len (w:=wAmount) (fun a=>by unfold wAmount;omega) b.MinAvailable
 have a3:=wL_len (w:=wAmount) (fun a=>by unfold wAmount;omega) b.MaxUnavailable
 have a4:=wL_len (w:=wWorkItem) (fun a=>by unfold wWorkItem;omega) b.Disrupted
 refine⟨mW (by omega),⟨by omega,fun r hr=>?_⟩,by omega,by omega,by omega⟩
 have b1:=wL_mem (w:=wRequirement) hr
 unfold wRequirement at b1
 have b2:=wL_len (w:=wS) (fun a=>by unfold wS;omega) r.Values
 unfold wRequirement at h
 omega
theorem pW{p:Pod}(h:wPod p≤1500000):MW p.Meta:=mW (by unfold wPod at h;omega)
theorem pWs{l:List Pod}(h:wL wPod l≤1500000):∀p∈l,MW p.Meta:=fun p hp=>pW (by have:=wL_mem (w:=wPod) hp;omega)
theorem sel_t{b:Budget}{p:Pod}(hb:BW b)(hp:MW p.Meta):F29 b p=some (sel b p):=by
 rw[F29,mat_t hb.s hp.labels,sel]
 by_cases h:b.Meta.Namespace=p.Meta.Namespace<;>simp[h]
theorem act_t(p:Pod):F42 p=some (act p):=by
 rw[F42,act]
 by_cases h:p.Status.Phase=0<;>by_cases h2:p.Status.Phase=1<;>simp[h,h2,nb_not]
theorem hea_t(p:Pod):F30 p=some (hea p):=by
 rw[F30,act_t,hea]
 cases p.Status.Ready<;>rfl
theorem dis_l1(k:ByteArray):∀(l:List WorkItem) (i:Nat),(dis l k=true→∃j:Nat,F60_l1 k l i=some (.inl (j:Int)))∧(dis l k=false→F60_l1 k l i=some (.inr ()))
 |[],i=>⟨fun h=>(by cases h),fun _=>(by rw[F60_l1])⟩
 |x::l,i=>by
  have ih:=dis_l1 k l (i+1)
  rw[F60_l1,F63,Option.bind_some]
  by_cases h:x.Key=k
  ·rw[if_pos h]
   exact⟨fun _=>⟨i,rfl⟩,fun hd=>by simp[dis,h]at hd⟩
  ·rw[if_neg h]
   have e:dis (x::l) k=dis l k:=by simp[dis,h]
   rw[e];exact ih
theorem dis_t{l:List WorkItem}(k:ByteArray)(hl:l.length≤4000000):F62 l k=some (dis l k):=by
 rw[F62,F60,ck_t (by omega),Option.bind_some]
 have h:=dis_l1 k l 0
 cases hd:dis l k with
 |true=>obtain⟨j,hj⟩:=h.1 hd;rw[hj];simp
 |false=>rw[h.2 hd];rfl
theorem key_t{p:Pod}(h:MW p.Meta):F26 p.Meta=some (keyB p.Meta):=KeyOf_t h.key
theorem mans_l5(o:List Manager)(ho:∀x∈o,x.Fields.length≤4000000):∀(xs:List Manager) (i:Nat),o.drop i=xs→F24_l5 xs i o=some o
 |[],i,_=>by rw[F24_l5]
 |x::xs,i,e=>by
  have hx:=drop_hd e
  rw[F24_l5,rdI_val hx,Option.bind_some,cl_t (by have:=ho x (List.mem_of_getElem? hx);omega),Option.bind_some,Option.bind_some,Int.toNat_natCast]
  rw[set_same hx]
  exact mans_l5 o ho xs (i+1) (drop_tl e)
theorem reqs_l12(o:List Requirement)(ho:∀x∈o,x.Values.length≤4000000):∀(xs:List Requirement) (i:Nat),o.drop i=xs→F24_l12 xs i o=some o
 |[],i,_=>by rw[F24_l12]
 |x::xs,i,e=>by
  have hx:=drop_hd e
  rw[F24_l12,rdI_val hx,Option.bind_some,cl_t (by have:=ho x (List.mem_of_getElem? hx);omega),Option.bind_some,Option.bind_some,Int.toNat_natCast]
  rw[set_same hx]
  exact reqs_l12 o ho xs (i+1) (drop_tl e)
def parts(b:Budget):(List Label)×(List Owner)×(List ByteArray)×(List Manager)×(List Requirement)×(List Amount)×(List Amount)×(List WorkItem):=
 (b.Meta.Labels,b.Meta.Owners,b.Meta.Finalizers,b.Meta.Managers,b.Selector,b.MinAvailable,b.MaxUnavailable,b.Disrupted)
theorem copy_t{b:Budget}(h:BW b):F24 b=some (parts b):=by
 have h1:=h.m;have h2:=h1.labels;have h3:=h1.owners;have h4:=h1.fins;have h5:=h1.mans;have h6:=h.s.1;have h7:=h.d;have h8:=h.mi;have h9:=h.ma
 rw[F24,cl_t (by omega),Option.bind_some,cl_t (by omega),Option.bind_some,cl_t (by omega),Option.bind_some,cl_t (by omega),Option.bind_some,ck_t (by omega),Option.bind_some,mans_l5 _ h1.man _ 0 (List.drop_zero ..),Option.bind_some,
  cl_t (by omega),Option.bind_some,ck_t (by omega),Option.bind_some,reqs_l12 _ h.s.2 _ 0 (List.drop_zero ..),Option.bind_some,cl_t (by omega),Option.bind_some,cl_t (by omega),Option.bind_some,cl_t (by omega),Option.bind_some]
 rfl
theorem hv_l6(b:Budget)(hl:b.Selector.length≤4000000):∀(m k i:Nat),b.Selector.length≤i+m→i≤4000000→m<k→∃r,F8_l6 b k (i:Int)=some r
 |0,k+1,i,h1,_,_=>by rw[F8_l6,if_neg (by omega)];exact⟨_,rfl⟩
 |m+1,k+1,i,h1,h2,h3=>by
  rw[F8_l6]
  by_cases hi:(i:Int)<(b.Selector.length:Int)
  ·rw[if_pos hi,wrapN (by omega),rdI_at (by omega),Option.bind_some]
   have ih:=hv_l6 b hl m k (i+1) (by omega) (by omega) (by omega)
   split
   ·exact⟨_,rfl⟩
   ·exact ih
  ·rw[if_neg hi];exact⟨_,rfl⟩
theorem hv_l1:∀(l:List Budget) (i:Nat),(∀b∈l,BW b)→∃r,F8_l1 l i=some r
 |[],i,_=>⟨_,by rw[F8_l1]⟩
 |x::l,i,h=>by
  have hx:=h x (List.mem_cons_self ..)
  rw[F8_l1]
  have ih:=hv_l1 l (i+1) fun b hb=>h b (List.mem_cons_of_mem _ hb)
  have g:=hv_l6 x hx.s.1 x.Selector.length 1099511627776 0 (by omega) (by omega) (by have:=hx.s.1;omega)
  repeat'(first|exact⟨_,rfl⟩|exact ih|exact g|exact exck (by omega)|exact byI_ex (by omega) (by omega)|exact rdI_ex (by omega) (by omega)|exact apI_ex (by omega)|with_reducible refine exif (fun _=>?_) (fun _=>?_)|with_reducible refine exb ?_ (fun _ _=>?_)|with_reducible refine exmap ?_|split)
theorem hv_l11:∀(l:List Pod) (i:Nat),∃r,F8_l11 l i=some r
 |[],i=>⟨_,by rw[F8_l11]⟩
 |x::l,i=>by
  rw[F8_l11]
  have ih:=hv_l11 l (i+1)
  repeat'(first|exact⟨_,rfl⟩|exact ih|exact exck (by omega)|exact byI_ex (by omega) (by omega)|exact rdI_ex (by omega) (by omega)|exact apI_ex (by omega)|with_reducible refine exif (fun _=>?_) (fun _=>?_)|with_reducible refine exb ?_ (fun _ _=>?_)|with_reducible refine exmap ?_|split)
theorem heavy_ex{l:List Budget}{pods:List Pod}(h:∀b∈l,BW b)(hl:l.length≤4000000)(hp:pods.length≤4000000):∃r,F8 l pods=some r:=by
 rw[F8]
 have g1:=hv_l1 l 0 h
 have g2:=hv_l11 pods 0
 repeat'(first|exact⟨_,rfl⟩|exact g1|exact g2|exact exck (by omega)|exact byI_ex (by omega) (by omega)|exact rdI_ex (by omega) (by omega)|exact apI_ex (by omega)|with_reducible refine exif (fun _=>?_) (fun _=>?_)|with_reducible refine exb ?_ (fun _ _=>?_)|with_reducible refine exmap ?_|split)
theorem awake_t:F9=some true:=by rfl
open Go Go.Fw
set_option maxRecDepth 100000
set_option linter.unusedVariables false
set_option linter.unusedSimpArgs false
theorem get_put{α:Type}(k k':ByteArray)(v:α):∀l:List (ByteArray×α),getM k (putM k' v l)=if k'=k then some v else getM k l
 |[]=>by rw[putM,getM];rfl
 |e::r=>by
  rw[putM]
  by_cases h:e.1=k'
  ·rw[if_pos h,getM,getM]
   by_cases h2:k'=k
   ·rw[if_pos h2,if_pos h2]
   ·rw[if_neg h2,if_neg h2,if_neg (by rw[h];exact h2)]
  ·rw[if_neg h,getM,getM,get_put k k' v r]
   by_cases h2:e.1=k
   ·rw[if_pos h2,if_pos h2,if_neg (fun h3=>h (h2.trans h3.symm))]
   ·rw[if_neg h2,if_neg h2]
def stay(pods:List Pod)(k:ByteArray):Bool:=pods.any fun p=>decide (keyB p.Meta=k)&& !p.Meta.Deleting
theorem there_l3:∀(l:List Pod) (i:Nat) (m:List (ByteArray×Bool)),(∀p∈l,MW p.Meta)→∃m',F11_l3 l i m=some m'∧∀k,(getM k m').getD false=((getM k m).getD false||stay l k)
 |[],i,m,_=>⟨m,by rw[F11_l3],fun k=>by simp[stay]⟩
 |p::l,i,m,h=>by
  rw[F11_l3]
  have hp:=h p (List.mem_cons_self ..)
  have hr:=fun x hx=>h x (List.mem_cons_of_mem p hx)
  cases hd:p.Meta.Deleting with
  |true=>
   obtain⟨m',h1,h2⟩:=there_l3 l (i+1) m hr
   refine⟨m',by simpa[nb_not]using h1,fun k=>?_⟩
   rw[h2];simp[stay,hd]
  |false=>
   obtain⟨m',h1,h2⟩:=there_l3 l (i+1) (putM (keyB p.Meta) true m) hr
   refine⟨m',by simp only[nb_not,Bool.not_false,if_true];rw[key_t hp];exact h1,fun k=>?_⟩
   rw[h2,get_put]
   by_cases hk:keyB p.Meta=k
   ·simp[stay,hd,hk]
   ·simp[stay,hd,hk]
def clampT(n:Int):Int:=if(1000000000000:Int)<(if n<0 then 0 else n)then(1000000000000:Int)else(if n<0 then 0 else n)
theorem clampT_b(n:Int):0≤clampT n∧clampT n≤1000000000000:=by unfold clampT;split<;>(try split)<;>omega
def gone(pods:List Pod)(t:Int)(x:WorkItem):Bool:= !(stay pods x.Key)||decide (x.At<t-120)
theorem gone_t{pods:List Pod}{m:List (ByteArray×Bool)}{t:Int}(hm:∀k,(getM k m).getD false=stay pods k)(ht:0≤t∧t≤1000000000000)(x:WorkItem):F28 x t m=some (gone pods t x):=by
 rw[F28,hm,wrapI (by omega) (by omega),gone,nb_not]
 cases stay pods x.Key<;>simp
theorem find_v1{t:Int}{m:List (ByteArray×Bool)}{g:WorkItem→Bool}(hg:∀x,F28 x t m=some (g x))(o:List WorkItem):∀(xs:List WorkItem) (i:Nat),o.drop i=xs→
 (xs.all (fun x=> !g x)=true→F60v1_l1 t m o xs i=some (.inr ()))∧(xs.all (fun x=> !g x)=false→∃a x b,xs=a++x::b∧a.all (fun x=> !g x)=true∧g x=true∧F60v1_l1 t m o xs i=some (.inl ((i+a.length:Nat):Int)))
 |[],i,_=>⟨fun _=>(by rw[F60v1_l1]),fun h=>(by cases h)⟩
 |x::xs,i,e=>by
  have hx:=drop_hd e
  have ih:=find_v1 hg o xs (i+1) (drop_tl e)
  rw[F60v1_l1,rdI_val hx,Option.bind_some,hg,Option.bind_some]
  cases hgx:g x with
  |true=>
   refine⟨fun h=>?_,fun _=>⟨[],x,xs,rfl,rfl,hgx,by simp⟩⟩
   simp[hgx]at h
  |false=>
   simp only[Bool.false_eq_true,if_false]
   refine⟨fun h=>ih.1 (by simpa[hgx]using h),fun h=>?_⟩
   obtain⟨a,y,b,h1,h2,h3,h4⟩:=ih.2 (by simpa[hgx]using h)
   refine⟨x::a,y,b,by rw[h1];rfl,by simpa[hgx]using h2,h3,?_⟩
   rw[h4];simp only[List.length_cons];congr 3;omega
theorem del_l3{t:Int}{m:List (ByteArray×Bool)}{g:WorkItem→Bool}(hg:∀x,F28 x t m=some (g x)):∀(r:List WorkItem) (k:Nat) (a c:List WorkItem),a.length+c.length+r.length≤2000000→0<c.length→r.length<k→
 ∃c',F27_l3 t m k (a++c++r) (a.length:Nat) ((a.length+c.length:Nat):Int)=some (a++r.filter (fun x=> !g x)++c',((a.length+(r.filter (fun x=> !g x)).length:Nat):Int))∧(r.filter (fun x=> !g x)).length+c'.length=c.length+r.length
 |[],k+1,a,c,h1,h2,h3=>by
  refine⟨c,?_,by simp⟩
  rw[F27_l3,if_neg (by simp<;>omega)]
  simp
 |x::r,k+1,a,c,h1,h2,h3=>by
  obtain⟨c0,c,rfl⟩:∃c0 c1,c=c0::c1:=by cases c with
   |nil=>simp at h2
   |cons c0 c1=>exact⟨c0,c1,rfl⟩
  simp only[List.length_cons]at h1 h3
  rw[F27_l3,if_pos (by simp<;>omega)]
  have hx:(a++c0::c++x::r)[a.length+(c0::c).length]? =some x:=by
   rw[←List.length_append,List.getElem?_append_right (Nat.le_refl _),Nat.sub_self];rfl
  have h0:(a++c0::c++x::r)[a.length]? =some c0:=by
   rw[List.append_assoc,List.getElem?_append_right (Nat.le_refl _),Nat.sub_self];rfl
  rw[rdI_val hx,Option.bind_some,hg,Option.bind_some]
  cases hgx:g x with
  |true=>
   have ih:=del_l3 hg r k a (c0::c++[x]) (by simp;omega) (by simp) (by omega)
   obtain⟨c',h4,h5⟩:=ih
   refine⟨c',?_,by simp[hgx]at h5⊢;omega⟩
   simp only[nb_not,Bool.not_true,Bool.false_eq_true,if_false,Option.bind_some]
   rw[wrapN (by simp;omega)]
   simp only[List.filter_cons,hgx,Bool.not_true,Bool.false_eq_true,if_false]
   simp only[List.length_append,List.length_cons,List.length_nil,List.append_assoc,List.cons_append,List.nil_append,Nat.zero_add]at h4⊢
   rw[show a.length+(c.length+1)+1=a.length+(c.length+1+1)by omega,h4]
  |false=>
   have ih:=del_l3 hg r k (a++[x]) (c++[x]) (by simp;omega) (by simp) (by omega)
   obtain⟨c',h4,h5⟩:=ih
   refine⟨c',?_,by simp[hgx]at h5⊢;omega⟩
   simp only[nb_not,Bool.not_false,if_true]
   rw[rdI_val h0,Option.bind_some,Option.bind_some]
   simp only[]
   rw[wrapN (by omega),wrapN (by simp;omega),Int.toNat_natCast]
   have hs:(a++c0::c++x::r).set a.length x=a++[x]++(c++[x])++r:=by
    rw[List.append_assoc,List.set_append_right _ _ (Nat.le_refl _),Nat.sub_self];simp
   rw[hs]
   simp only[List.filter_cons,hgx,Bool.not_false,if_true]
   simp only[List.length_append,List.length_cons,List.length_nil,List.append_assoc,List.cons_append,List.nil_append,Nat.zero_add]at h4⊢
   rw[show a.length+(c.length+1)+1=a.length+1+(c.length+1)by omega,h4]
   congr 3;omega
theorem clrL_take{α:Type}(l:List α)(i n:Nat)(z:α)(h:i≤l.length):(clrL l i n z).take i=l.take i:=by
 unfold clrL
 rw[List.append_assoc,List.take_append_of_le_length (by simp;omega),List.take_take,Nat.min_self]
theorem del_t{t:Int}{m:List (ByteArray×Bool)}{g:WorkItem→Bool}(hg:∀x,F28 x t m=some (g x)){l:List WorkItem}(hl:l.length≤2000000):F27 l t m=some (l.filter fun x=> !g x):=by
 have h:=find_v1 hg l l 0 (List.drop_zero ..)
 rw[F27,F60v1,ck_t (by omega),Option.bind_some]
 cases ha:l.all (fun x=> !g x)with
 |true=>
  rw[h.1 ha]
  simp only[Option.bind_some,if_true]
  rw[List.filter_eq_self.2 (by simpa using ha)]
 |false=>
  obtain⟨a,x,b,h1,h2,h3,h4⟩:=h.2 ha
  rw[h4]
  simp only[Option.bind_some,Nat.zero_add]
  rw[if_neg (by omega),wrapN (by rw[h1]at hl;simp at hl;omega)]
  subst h1
  obtain⟨c',h5,h6⟩:=del_l3 hg b 1099511627776 a [x] (by simp at hl⊢;omega) (by simp) (by simp at hl;omega)
  have e1:a++x::b=a++[x]++b:=by simp
  have e2:((a.length+1:Nat):Int)=((a.length+[x].length:Nat):Int):=rfl
  rw[e2,e1,h5,Option.bind_some]
  simp only[]
  have hf:(a++[x]++b).filter (fun x=> !g x)=a++b.filter (fun x=> !g x):=by
   rw[List.filter_append,List.filter_append,List.filter_eq_self.2 (by simpa using h2)];simp[h3]
  rw[hf]
  generalize hw:b.filter (fun x=> !g x)=w at h5 h6⊢
  rw[slI_t (by simp<;>omega) (by simp),Option.bind_some]
  rw[show(0:Int)=((0:Nat):Int)from rfl,slI_t (Nat.zero_le _) ?_]
  ·simp only[Option.bind_some,Int.toNat_natCast,List.drop_zero,Nat.sub_zero]
   rw[clrL_take _ _ _ _ (by simp)]
   congr 1
   rw[←List.length_append,List.take_left]
  ·unfold clrL
   simp only[Int.toNat_natCast,List.length_append,List.length_take,List.length_drop,List.length_replicate]
   simp only[List.length_append]at*
   omega
open Go Go.Fw
set_option maxRecDepth 100000
set_option linter.unusedVariables false
set_option linter.unusedSimpArgs false
def clampN(n:Int):Int:=if(1000000000000000:Int)<(if n<0 then 0 else n)then(1000000000000000:Int)else(if n<0 then 0 else n)
theorem clampN_b(n:Int):0≤clampN n∧clampN n≤1000000000000000:=by unfold clampN;split<;>(try split)<;>omega
theorem mul_b{a b c:Int}(ha:0≤a)(hac:a≤c)(hb:0≤b):0≤a*b∧a*b≤c*b:=⟨Int.mul_nonneg ha hb,Int.mul_le_mul_of_nonneg_right hac hb⟩
theorem res_ex(a:Amount)(n:Int)(u:Bool):∃r,F64 a n u=some r∧0≤r∧r≤1000000000000000:=by
 have key:∀z:Int,0≤(if(1000000000000000:Int)<(if z<0 then 0 else z)then(1000000000000000:Int)else(if z<0 then 0 else z))∧(if(1000000000000000:Int)<(if z<0 then 0 else z)then(1000000000000000:Int)else(if z<0 then 0 else z))≤1000000000000000:=clampN_b
 have hex:∃r,F64 a n u=some r:=by
  rw[F64,F71,F71]
  repeat'(first|exact⟨_,rfl⟩|exact exck (by omega)|exact exck (by omega)|exact byI_ex (by omega) (by omega)|exact rdI_ex (by omega) (by omega)|exact apI_ex (by omega)|with_reducible refine exif (fun _=>?_) (fun _=>?_)|with_reducible refine exb ?_ (fun _ _=>?_)|with_reducible refine exmap ?_|split)
 obtain⟨r,hr⟩:=hex
 refine⟨r,hr,?_⟩
 rw[F64,F71,F71]at hr
 have hN:=key a.N
 have hE:=key n
 generalize (if(1000000000000000:Int)<(if a.N<0 then 0 else a.N)then(1000000000000000:Int)else(if a.N<0 then 0 else a.N))=N at hr hN
 generalize (if(1000000000000000:Int)<(if n<0 then 0 else n)then(1000000000000000:Int)else(if n<0 then 0 else n))=E at hr hE
 simp only[Option.bind_some]at hr
 rw[Int.tdiv_eq_ediv_of_nonneg hE.1,Int.tmod_eq_emod_of_nonneg hE.1]at hr
 split at hr
 ·cases hr;exact hN
 ·obtain⟨o4,ho4,hr⟩:=Option.bind_eq_some_iff.1 hr
  have hq:0≤E/100∧E/100≤10000000000000:=by omega
  have hm:0≤E%100∧E%100≤99:=by omega
  generalize E/100=q at hr ho4 hq
  generalize E%100=m at hr hm
  rw[wrapI (n:=q) (by omega) (by omega)]at hr ho4
  split at hr
  ·cases hr;omega
  ·rename_i h4
   have hqn:0≤q*N∧q*N≤1000000000000000:=by
    refine⟨Int.mul_nonneg hq.1 hN.1,?_⟩
    by_cases h0:0<q
    ·rw[if_pos h0,ck_t (by omega),Option.bind_some,Int.tdiv_eq_ediv_of_nonneg (by omega)]at ho4
     have h5:1000000000000000/q≤1000000000000000:=Int.ediv_le_self _ (by omega)
     have h6:0≤1000000000000000/q:=Int.ediv_nonneg (by omega) hq.1
     rw[wrapI (by omega) (by omega)]at ho4
     have h7:N≤1000000000000000/q:=by
      cases ho4
      simpa using h4
     rw[Int.mul_comm]
     exact(Int.le_ediv_iff_mul_le h0).1 h7
    ·have:q=0:=by omega
     rw[this];simp
   have hmn:=mul_b hm.1 hm.2 hN.1
   obtain⟨o8,ho8,hr⟩:=Option.bind_eq_some_iff.1 hr
   have hb8:0≤o8∧o8≤99000000000000099:=by
    rw[wrapI (n:=m*N) (by omega) (by omega)]at ho8
    split at ho8
    ·cases ho8;rw[wrapI (by omega) (by omega)];omega
    ·cases ho8;omega
   have hd:0≤o8.tdiv 100∧o8.tdiv 100≤1000000000000000:=by rw[Int.tdiv_eq_ediv_of_nonneg hb8.1];omega
   cases hr
   rw[wrapI (n:=q*N) (by omega) (by omega),wrapI (n:=o8.tdiv 100) (by omega) (by omega),wrapI (by omega) (by omega)]
   split<;>omega
def want(b:Budget)(e:Int):Int:=match b.MinAvailable,b.MaxUnavailable with
 |a::_,_=>(F64 a e true).getD 0
 |[],a::_=>if e-(F64 a e true).getD 0<0 then 0 else e-(F64 a e true).getD 0
 |[],[]=>0
theorem want_b(b:Budget){e:Int}(he:0≤e∧e≤1000000000000000):0≤want b e∧want b e≤1000000000000000:=by
 unfold want
 cases b.MinAvailable with
 |cons a _=>
  obtain⟨r,h1,h2⟩:=res_ex a e true
  simp only[h1];exact h2
 |nil=>
  cases b.MaxUnavailable with
  |cons a _=>
   obtain⟨r,h1,h2⟩:=res_ex a e true
   simp only[h1,Option.getD_some]
   split<;>omega
  |nil=>simp
theorem want_t{b:Budget}(he:0≤b.Expected∧b.Expected≤1000000000000000):F32 b=some (want b b.Expected):=by
 rw[F32,want]
 cases h1:b.MinAvailable with
 |cons a r=>
  obtain⟨r,h2,h3⟩:=res_ex a b.Expected true
  simp[rdI,h2]
 |nil=>
  cases h2:b.MaxUnavailable with
  |cons a r=>
   obtain⟨r,h3,h4⟩:=res_ex a b.Expected true
   simp[rdI,h3]
   rw[wrapI (by omega) (by omega)]
  |nil=>simp
def items(b:Budget)(pods:List Pod)(now:Int):List WorkItem:=b.Disrupted.filter fun x=> !(gone pods (clampT now) x)
def cntB(b:Budget)(d:List WorkItem)(p:Pod):Bool:=sel b p&&(hea p&& !(dis d (keyB p.Meta)))
theorem cnt_l11{b:Budget}(hb:BW b){d:List WorkItem}(hd:d.length≤2000000)(e:Int):∀(l:List Pod) (i n:Nat),(∀p∈l,MW p.Meta)→n+l.length≤4000000→F11_l11 (parts b) d b e l i (n:Int)=some ((n+(l.filter (cntB b d)).length:Nat):Int)
 |[],i,n,_,_=>by rw[F11_l11];simp
 |p::l,i,n,h,hl=>by
  have hp:=h p (List.mem_cons_self ..)
  have hr:=fun x hx=>h x (List.mem_cons_of_mem p hx)
  simp only[List.length_cons]at hl
  rw[F11_l11,sel_t hb hp,hea_t,key_t hp,wrapN (by omega)]
  have ih1:=cnt_l11 hb hd e l (i+1) (n+1) hr (by omega)
  have ih0:=cnt_l11 hb hd e l (i+1) n hr (by omega)
  simp only[Option.bind_some,F31,dis_t (keyB p.Meta) (show d.length≤4000000 by omega),List.filter_cons,cntB]
  rcases Bool.eq_false_or_eq_true (sel b p)with g1|g1<;>rcases Bool.eq_false_or_eq_true (hea p)with g2|g2<;>rcases Bool.eq_false_or_eq_true (dis d (keyB p.Meta))with g3|g3<;>simp only[g1,g2,g3,Bool.and_false,Bool.and_true,Bool.true_and,Bool.false_and,Bool.not_true,Bool.not_false,nb_not,if_true,if_false,Bool.false_eq_true,Option.bind_some,List.length_cons]<;>
   first|exact ih0|(rw[ih1];congr 2;omega)
structure St where
 healthy:Int
 desired:Int
 allowed:Int
 gone:List WorkItem
def stat(b:Budget)(pods:List Pod)(e now:Int):St:=
 ⟨((pods.filter (cntB b (items b pods now))).length:Int),want b (clampN e),if((pods.filter (cntB b (items b pods now))).length:Int)-want b (clampN e)<0 then 0 else((pods.filter (cntB b (items b pods now))).length:Int)-want b (clampN e),items b pods now⟩
theorem items_len(b:Budget)(pods:List Pod)(now:Int):(items b pods now).length≤b.Disrupted.length:=List.length_filter_le ..
theorem status_t{b:Budget}{pods:List Pod}{e now:Int}(hb:BW b)(hp:∀p∈pods,MW p.Meta)(hl:pods.length≤4000000):
 F11 b pods e now=some (b.Meta.Labels,b.Meta.Owners,b.Meta.Finalizers,b.Meta.Managers,b.Selector,b.MinAvailable,b.MaxUnavailable,(stat b pods e now).healthy,(stat b pods e now).desired,(stat b pods e now).allowed,(stat b pods e now).gone):=by
 obtain⟨m,hm,hm2⟩:=there_l3 pods 0 [] hp
 have hm3:∀k,(getM k m).getD false=stay pods k:=fun k=>by rw[hm2];simp[getM]
 have hd:=items_len b pods now
 have hbd:=hb.d
 rw[F11,copy_t hb,Option.bind_some,F25,Option.bind_some,ck_t (by omega),Option.bind_some,hm,Option.bind_some]
 have hdel:=del_t (gone_t hm3 (clampT_b now)) (l:=b.Disrupted) (by omega)
 unfold clampT at hdel
 have e1:(parts b).2.2.2.2.2.2.2=b.Disrupted:=rfl
 rw[e1,hdel,Option.bind_some,F25,Option.bind_some,Option.bind_some]
 have hc:=cnt_l11 hb (d:=items b pods now) (by omega) e pods 0 0 hp (by omega)
 have e2:b.Disrupted.filter (fun x=> !gone pods (if(1000000000000:Int)<(if now<0 then 0 else now)then(1000000000000:Int)else(if now<0 then 0 else now)) x)=items b pods now:=rfl
 rw[e2]
 rw[show((0:Nat):Int)=0 from rfl]at hc
 rw[hc,Option.bind_some,Nat.zero_add]
 have hf:=List.length_filter_le (cntB b (items b pods now)) pods
 rw[want_t (clampN_b e),Option.bind_some]
 have hw:=want_b b (clampN_b e)
 show some (_,_,_,_,_,_,_,_,want b (clampN e),(if IntKind.i64.wrap (_-want b (clampN e))<0 then 0 else IntKind.i64.wrap (_-want b (clampN e))),_)=_
 rw[wrapI (by omega) (by omega)]
 rfl
open Go Go.Fw
set_option maxRecDepth 100000
set_option linter.unusedVariables false
set_option linter.unusedSimpArgs false
theorem len_w{α:Type}{w:α→Nat}(hw:∀a,1≤w a){l:List α}{n:Nat}(h:wL w l≤n):l.length≤n:=by have:=wL_len hw l;omega
theorem wPod_pos(p:Pod):1≤wPod p:=by unfold wPod;omega
theorem BudgetNumbers_pure:BudgetNumbers.Pure:=by
 intro b pods e now _ _ _ _ hw
 have hb:BW b:=bW (by omega)
 have hp:=pWs (l:=pods) (by omega)
 have hl:pods.length≤4000000:=len_w wPod_pos (by omega)
 have hbs:∀x∈[b],BW x:=fun x hx=>by rw[List.mem_singleton.1 hx];exact hb
 obtain⟨r,hr⟩:=heavy_ex hbs (by simp) hl
 have hd:=items_len b pods now
 have hbd:=hb.d
 rw[F7,hr,Option.bind_some]
 cases r with
 |true=>rw[if_pos rfl,awake_t];rfl
 |false=>
  rw[if_neg (by simp),status_t hb hp hl,Option.bind_some]
  have hw2:=want_b b (clampN_b e)
  have hf:=List.length_filter_le (cntB b (items b pods now)) pods
  have h1:(stat b pods e now).healthy=((pods.filter (cntB b (items b pods now))).length:Int):=rfl
  have h2:(stat b pods e now).desired=want b (clampN e):=rfl
  have h3:(stat b pods e now).allowed=if(stat b pods e now).healthy-(stat b pods e now).desired<0 then 0 else(stat b pods e now).healthy-(stat b pods e now).desired:=rfl
  have h4:(stat b pods e now).gone.length≤b.Disrupted.length:=hd
  generalize stat b pods e now=s at h1 h2 h3 h4⊢
  have g1:0≤s.healthy∧s.healthy≤(pods.length:Int):=by omega
  have g2:0≤s.desired∧s.desired≤1000000000000000:=by omega
  have g3:0≤s.allowed:=by rw[h3];split<;>omega
  simp only[]
  rw[if_pos g3,if_pos g2.1,if_pos g1.1,if_pos g1.2,F22]
  simp only[Option.bind_some]
  rw[awake_t]
  have g5:(s.gone.length:Int)≤(b.Disrupted.length:Int):=by omega
  by_cases g4:s.allowed=0
  ·simp[g4,g5]
  ·have g6:s.allowed=s.healthy-s.desired:=by
    by_cases g:s.healthy-s.desired<0
    ·rw[if_pos g]at h3;exact absurd h3 g4
    ·rw[if_neg g]at h3;exact h3
   have g7:IntKind.i64.wrap (s.allowed+s.desired)=s.healthy:=by rw[wrapI (by omega) (by omega)];omega
   simp[g4,g5,g7]
end Go.Proofs.Ytedgocbpegllaaa
