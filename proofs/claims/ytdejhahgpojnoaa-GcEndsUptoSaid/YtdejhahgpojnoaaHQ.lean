/- The plain law. -/
import Derived.Test.YtdejhahgpojnoaaHP
import Derived.Test.YtdejhahgpojnoaaFP
import Derived.KernelRfl
set_option linter.unusedVariables false
set_option linter.unusedSimpArgs false
namespace Go.Proofs.Ytdejhahgpojnoaa
open Go Go.Fw
set_option maxRecDepth 100000
set_option linter.unusedVariables false
set_option linter.unusedSimpArgs false
section
variable {α:Type}
def S(c:α→Int)(l:List α):Prop:=l.Pairwise fun a b=>c b≤0→c a<0
def mid(a b:Int):Int:=IntKind.i64.wrap (shrV .u64 (IntKind.u64.wrap (IntKind.i64.wrap (a+b))) 1)
theorem mid_eq{a b:Nat}(h:a+b≤4000000):mid (a:Int) (b:Int)=(((a+b)/2:Nat):Int):=by
 unfold mid shrV
 rw[show IntKind.i64.wrap ((a:Int)+b)=(a:Int)+b from wrapI (by omega) (by omega)]
 have e:IntKind.u64.wrap ((a:Int)+b)=((a+b:Nat):Int):=by simp[IntKind.wrap,IntKind.bits,IntKind.signed];omega
 rw[e]
 have e2:((a+b:Nat):Int).fdiv (2^(min (1:Int).toNat IntKind.u64.bits))=(((a+b)/2:Nat):Int):=by
  show((a+b:Nat):Int).fdiv 2=_
  rw[Int.fdiv_eq_ediv_of_nonneg _ (by omega)];omega
 rw[e2,wrapI (by omega) (by omega)]
end
theorem scmp_neg(a b:ByteArray):scmp a b<0↔lt a b:=by
 unfold scmp
 by_cases h:lt a b
 ·simp[h]
 ·rw[if_neg h]
  by_cases h2:a=b
  ·rw[if_pos h2];simp[h]
  ·rw[if_neg h2];simp[h]
theorem lt_dec(a b:ByteArray):lt a b∨a=b∨lt b a:=by
 by_cases h:a=b
 ·exact .inr (.inl h)
 ·rcases lt_total h with h|h
  ·exact .inl h
  ·exact .inr (.inr h)
theorem rdI_val{α:Type}{l:List α}{i:Nat}{y:α}(h:l[i]? =some y):rdI l (i:Int)=some y:=by rw[rdI_nat];exact h
theorem catI_t{a b:ByteArray}(h:a.size+b.size≤9223372036854775807):catI a b=some (a++b):=if_pos h
theorem bsize(a b:ByteArray):(a++b).size=a.size+b.size:=ByteArray.size_append
theorem wL_mem{α:Type}{w:α→Nat}{x:α}:∀{l:List α},x∈l→w x+1≤wL w l
 |[],h=>by cases h
 |y::l,h=>by
  unfold wL
  simp only[List.map_cons,List.sum_cons]
  rcases List.mem_cons.1 h with rfl|h
  ·omega
  ·have:=wL_mem (w:=w) h;unfold wL at this;omega
open Go Go.Fw
set_option maxRecDepth 100000
set_option linter.unusedVariables false
set_option linter.unusedSimpArgs false
def keyB(m:Meta):ByteArray:=(((m.Kind++(⟨#[47]⟩:ByteArray))++m.Namespace)++(⟨#[47]⟩:ByteArray))++m.Name
theorem sl1:(⟨#[47]⟩:ByteArray).size=1:=rfl
theorem KeyOf_t{m:Meta}(h:m.Kind.size+m.Namespace.size+m.Name.size≤4000000):F26 m=some (keyB m):=by
 rw[F26,F49,catI_t (by rw[sl1];omega),Option.bind_some,catI_t (by rw[bsize,sl1];omega),Option.bind_some,catI_t (by rw[bsize,bsize,sl1];omega),Option.bind_some,catI_t (by rw[bsize,bsize,bsize,sl1];omega)]
 rfl
theorem rKeyOf_t{m:Meta}(h:m.Kind.size+m.Namespace.size+m.Name.size≤4000000):F30 m=some (keyB m):=KeyOf_t h
structure MW(m:Meta):Prop where
 key:m.Kind.size+m.Namespace.size+m.Name.size≤4000000
 labels:m.Labels.length≤4000000
 owners:m.Owners.length≤4000000
 fins:m.Finalizers.length≤4000000
 mans:m.Managers.length≤4000000
 man:∀x∈m.Managers,x.Fields.length≤4000000
theorem mW{m:Meta}(h:wMeta m≤4000000):MW m:=by
 unfold wMeta at h
 have a1:=wL_len (w:=wLabel) (fun a=>by unfold wLabel;omega) m.Labels
 have a2:=wL_len (w:=wOwner) (fun a=>by unfold wOwner;omega) m.Owners
 have a3:=wL_len (w:=wS) (fun a=>by unfold wS;omega) m.Finalizers
 have a4:=wL_len (w:=wManager) (fun a=>by unfold wManager;omega) m.Managers
 refine⟨?_,by omega,by omega,by omega,by omega,fun x hx=>?_⟩
 ·unfold wS at h;omega
 ·have b1:=wL_mem (w:=wManager) hx
  unfold wManager at b1
  have b2:=wL_len (w:=wS) (fun a=>by unfold wS;omega) x.Fields
  unfold wManager at h
  omega
theorem F14L{l:List Object}(h:l.length≤4294967290)(h2:(acE (acR l)).length≤4294967290):F14 l=some (acL (acR l).length (acR l)):=by
 unfold F14
 rw[ck_t ⟨h,h2⟩];rfl
theorem awake_t:F8=some true:=by
 set_option maxRecDepth 1000000 in
 kernel_rfl
open Go Go.Fw
set_option maxRecDepth 100000
set_option linter.unusedVariables false
set_option linter.unusedSimpArgs false
def refB(o:Object)(u:Int)(b:Bool):Bool:=o.Meta.Owners.any fun x=>decide (x.Uid=u)&&(x.Block||nb b)
def exB(l:List Object)(u:Int):Bool:=l.any fun o=>decide (o.Meta.Uid=u)
theorem heavy_l1:∀(l:List Object) (i:Nat),F7_l1 l i=some (.inl true)∨F7_l1 l i=some (.inr ())∧∀o∈l,o.Meta.Owners.length≤20∧o.Meta.Finalizers.length≤20
 |[],i=> .inr ⟨rfl,fun o h=>by cases h⟩
 |o::l,i=>by
  rw[F7_l1]
  by_cases h1:20<(o.Meta.Owners.length:Int)
  ·rw[if_pos h1];exact .inl rfl
  ·rw[if_neg h1]
   by_cases h2:20<(o.Meta.Finalizers.length:Int)
   ·exact .inl (by simp[h2])
   ·rcases heavy_l1 l (i+1)with h|⟨h,h'⟩
    ·exact .inl (by simp[h2,h])
    ·refine .inr ⟨by simp[h2,h],fun x hx=>?_⟩
     rcases List.mem_cons.1 hx with rfl|hx
     ·exact⟨by omega,by omega⟩
     ·exact h' x hx
structure Lt(l:List Object):Prop where
 len:l.length≤24
 own:∀o∈l,o.Meta.Owners.length≤20∧o.Meta.Finalizers.length≤20
theorem heavy_t{l:List Object}(h:l.length≤4000000):F7 l=some true∨F7 l=some false∧Lt l:=by
 unfold F7
 rw[ck_t (by omega),Option.bind_some]
 rcases heavy_l1 l 0 with h1|⟨h1,h2⟩
 ·rw[h1];exact .inl rfl
 ·rw[h1]
  by_cases h3:24<(l.length:Int)
  ·exact .inl (by simp[h3])
  ·exact .inr ⟨by simp[h3],⟨by omega,h2⟩⟩
theorem acE_len{l:List Object}(h:∀o∈l,o.Meta.Owners.length≤20∧o.Meta.Finalizers.length≤20):(acE (acR l)).length≤20*l.length:=by
 induction l with
 |nil=>simp[acE,acR]
 |cons o l ih=>
  have h1:=h o (List.mem_cons_self ..)
  have h2:=ih fun o ho=>h o (List.mem_cons_of_mem _ ho)
  simp only[acE,acR,List.map_cons,List.flatMap_cons,List.length_append,List.length_map,acP,List.length_cons]at h2⊢
  omega
theorem acy_t{l:List Object}(h:Lt l):F14 l=some (acL (acR l).length (acR l)):=by
 have h1:=acE_len h.own
 have h2:=h.len
 exact F14L (by omega) (by omega)
theorem lW{l:List Object}(h:(wL wObject) l≤1048577):l.length≤1048577∧∀o∈l,MW o.Meta:=by
 have h1:=wL_len (w:=wObject) (fun a=>by unfold wObject;omega) l
 refine⟨by omega,fun o ho=>mW ?_⟩
 have h2:=wL_mem (w:=wObject) ho
 have h3:wMeta o.Meta≤wObject o:=by unfold wObject;omega
 omega
open Go Go.Fw
set_option maxRecDepth 100000
set_option linter.unusedVariables false
set_option linter.unusedSimpArgs false
def Srt(l:List GcAction):Prop:=l.Pairwise fun a b=>¬lt b.Key a.Key
def Eqv(X Y:List GcAction):Prop:=∀k:ByteArray,X.filter (fun z=>decide (z.Key=k))=Y.filter (fun z=>decide (z.Key=k))
theorem Eqv.rf(X:List GcAction):Eqv X X:=fun _=>rfl
theorem Eqv.sy{X Y:List GcAction}(h:Eqv X Y):Eqv Y X:=fun k=>(h k).symm
theorem Eqv.tr{X Y Z:List GcAction}(h:Eqv X Y)(h2:Eqv Y Z):Eqv X Z:=fun k=>(h k).trans (h2 k)
theorem Eqv.app{X Y X' Y':List GcAction}(h:Eqv X Y)(h2:Eqv X' Y'):Eqv (X++X') (Y++Y'):=fun k=>by rw[List.filter_append,List.filter_append,h k,h2 k]
theorem Eqv.swap{X Y:List GcAction}(h:∀x∈X,∀y∈Y,x.Key≠y.Key):Eqv (X++Y) (Y++X):=fun k=>by
 rw[List.filter_append,List.filter_append]
 by_cases hx:∃x∈X,x.Key=k
 ·obtain⟨x,hx,rfl⟩:=hx
  have:Y.filter (fun z=>decide (z.Key=x.Key))=[]:=List.filter_eq_nil_iff.2 fun y hy=>by simpa using fun e=>h x hx y hy e.symm
  rw[this];simp
 ·have:X.filter (fun z=>decide (z.Key=k))=[]:=List.filter_eq_nil_iff.2 fun x hx'=>by simpa using fun e=>hx ⟨x,hx',e⟩
  rw[this];simp
theorem Eqv.perm{X Y:List GcAction}(h:Eqv X Y):X.Perm Y:=List.perm_iff_count.2 fun a=>by
 have key:∀Z:List GcAction,Z.count a=(Z.filter fun z=>decide (z.Key=a.Key)).count a:=fun Z=>by
  rw[List.count_filter (by simp)]
 rw[key X,key Y,h a.Key]
theorem le_tr{a b c:ByteArray}(h1:¬lt b a)(h2:¬lt c b):¬lt c a:=by
 intro h
 rcases lt_dec a b with h3|h3|h3
 ·exact h2 (lt_trans h h3)
 ·subst h3;exact h2 h
 ·exact h1 h3
theorem srt_uniq:∀{X Y:List GcAction},Srt X→Srt Y→Eqv X Y→X=Y
 |[],Y,_,_,h=>by have:=h.perm.length_eq;exact(List.length_eq_zero_iff.1 this.symm).symm
 |x::X,[],_,_,h=>by have:=h.perm.length_eq;simp at this
 |x::X,y::Y,hX,hY,h=>by
  have hX2:=List.pairwise_cons.1 hX
  have hY2:=List.pairwise_cons.1 hY
  have hxy:x.Key=y.Key:=by
   have h1:x∈y::Y:=h.perm.mem_iff.1 (List.mem_cons_self ..)
   have h2:y∈x::X:=h.perm.mem_iff.2 (List.mem_cons_self ..)
   have n1:¬lt x.Key y.Key:=by
    rcases List.mem_cons.1 h1 with e|h1
    ·rw[e];exact lt_irrefl _
    ·exact hY2.1 x h1
   have n2:¬lt y.Key x.Key:=by
    rcases List.mem_cons.1 h2 with e|h2
    ·rw[e];exact lt_irrefl _
    ·exact hX2.1 y h2
   exact lt_tri n1 n2
  have h0:=h x.Key
  rw[List.filter_cons,List.filter_cons,if_pos (by simp),if_pos (by simp[hxy])]at h0
  have e0:=List.cons_eq_cons.1 h0
  obtain⟨e1,e2⟩:=e0
  subst e1
  congr 1
  refine srt_uniq hX2.2 hY2.2 fun k=>?_
  have hk:=h k
  rw[List.filter_cons,List.filter_cons]at hk
  split at hk
  ·exact(List.cons_eq_cons.1 hk).2
  ·exact hk
def insG(e:GcAction):List GcAction→List GcAction
 |[]=>[e]
 |y::l=>if lt e.Key y.Key then e::y::l else y::insG e l
def isr(es:List GcAction):List GcAction:=es.foldl (fun l e=>insG e l) []
theorem insG_mem(e z:GcAction):∀l,z∈insG e l↔z=e∨z∈l
 |[]=>by simp[insG]
 |y::l=>by
  rw[insG];split
  ·simp
  ·simp only[List.mem_cons,insG_mem e z l]
   constructor
   ·rintro(h|h|h)
    ·exact .inr (.inl h)
    ·exact .inl h
    ·exact .inr (.inr h)
   ·rintro(h|h|h)
    ·exact .inr (.inl h)
    ·exact .inl h
    ·exact .inr (.inr h)
theorem insG_srt(e:GcAction):∀{l},Srt l→Srt (insG e l)
 |[],_=>List.pairwise_singleton ..
 |y::l,h=>by
  have h2:=List.pairwise_cons.1 h
  rw[insG]
  by_cases g:lt e.Key y.Key
  ·rw[if_pos g]
   refine List.pairwise_cons.2 ⟨fun z hz=>?_,h⟩
   rcases List.mem_cons.1 hz with rfl|hz
   ·exact fun h3=>lt_irrefl _ (lt_trans g h3)
   ·exact le_tr (b:=y.Key) (fun h3=>lt_irrefl _ (lt_trans g h3)) (h2.1 z hz)
  ·rw[if_neg g]
   refine List.pairwise_cons.2 ⟨fun z hz=>?_,insG_srt e h2.2⟩
   rcases(insG_mem e z l).1 hz with rfl|hz
   ·exact g
   ·exact h2.1 z hz
theorem insG_eqv(e:GcAction):∀{l},Srt l→Eqv (l++[e]) (insG e l)
 |[],_=>Eqv.rf _
 |y::l,h=>by
  have h2:=List.pairwise_cons.1 h
  rw[insG]
  by_cases g:lt e.Key y.Key
  ·rw[if_pos g]
   refine Eqv.swap (X:=y::l) (Y:=[e]) fun x hx z hz he=>?_
   rw[List.mem_singleton.1 hz]at he
   rcases List.mem_cons.1 hx with rfl|hx
   ·rw[he]at g;exact lt_irrefl _ g
   ·have:=h2.1 x hx;rw[he]at this;exact this g
  ·rw[if_neg g]
   exact Eqv.app (X:=[y]) (Eqv.rf _) (insG_eqv e h2.2)
theorem gsnoc{α:Type}{P:List α→Prop}(h0:P [])(h1:∀l a,P l→P (l++[a]))(l:List α):P l:=by
 have key:∀r:List α,P r.reverse:=fun r=>by
  induction r with
  |nil=>exact h0
  |cons a r ih=>rw[List.reverse_cons];exact h1 _ _ ih
 have:=key l.reverse
 rwa [List.reverse_reverse]at this
theorem isr_snoc(es:List GcAction)(e:GcAction):isr (es++[e])=insG e (isr es):=by unfold isr;rw[List.foldl_append];rfl
theorem isr_both:∀es:List GcAction,Srt (isr es)∧Eqv es (isr es):=fun es=>by
 refine gsnoc (P:=fun es=>Srt (isr es)∧Eqv es (isr es)) ⟨List.Pairwise.nil,Eqv.rf _⟩ (fun l a h=>?_) es
 rw[isr_snoc]
 exact⟨insG_srt a h.1,(Eqv.app h.2 (Eqv.rf [a])).tr (insG_eqv a h.1)⟩
theorem isr_len(es:List GcAction):(isr es).length=es.length:=(isr_both es).2.perm.length_eq.symm
theorem insG_all(e:GcAction):∀l:List GcAction,(∀z∈l,¬lt e.Key z.Key)→insG e l=l++[e]
 |[],_=>rfl
 |y::l,h=>by rw[insG,if_neg (h y (List.mem_cons_self ..)),insG_all e l fun z hz=>h z (List.mem_cons_of_mem _ hz)];rfl
theorem insG_snoc(e y:GcAction)(h:lt e.Key y.Key):∀l:List GcAction,insG e (l++[y])=insG e l++[y]
 |[]=>by
  show(if lt e.Key y.Key then e::[y]else _)=_
  rw[if_pos h];rfl
 |z::l=>by
  rw[List.cons_append,insG,insG]
  by_cases g:lt e.Key z.Key
  ·rw[if_pos g,if_pos g];rfl
  ·rw[if_neg g,if_neg g,insG_snoc e y h l];rfl
def dwn(e:GcAction):List GcAction→List GcAction→List GcAction
 |[],r=>e::r
 |y::ps,r=>if lt e.Key y.Key then dwn e ps (y::r)else(y::ps).reverse++e::r
theorem dwn_ins(e:GcAction):∀(ps r:List GcAction),Srt ps.reverse→dwn e ps r=insG e ps.reverse++r
 |[],r,_=>rfl
 |y::ps,r,h=>by
  rw[List.reverse_cons]at h
  have h2:=List.pairwise_append.1 h
  rw[dwn,List.reverse_cons]
  by_cases g:lt e.Key y.Key
  ·rw[if_pos g,dwn_ins e ps (y::r) h2.1,insG_snoc e y g,List.append_assoc];rfl
  ·rw[if_neg g,insG_all e _ fun z hz=>?_]
   ·simp
   ·rcases List.mem_append.1 hz with hz|hz
    ·exact le_tr (h2.2.2 z hz y (List.mem_singleton.2 rfl)) g
    ·rw[List.mem_singleton.1 hz];exact g
theorem sw_1{α:Type}(A r:List α)(y e:α):(A++y::e::r)[A.length+1]? =some e:=by rw[List.getElem?_append_right (by omega)];simp
theorem sw_0{α:Type}(A r:List α)(y:α):(A++y::r)[A.length]? =some y:=by simp
theorem sw_s1{α:Type}(A r:List α)(y e z:α):(A++y::e::r).set (A.length+1) z=A++y::z::r:=by rw[List.set_append_right _ _ (by omega)];simp
theorem sw_s0{α:Type}(A r:List α)(y z:α):(A++y::r).set A.length z=A++z::r:=by simp
theorem cmpG(x y:GcAction):F22 x y=some (scmp x.Key y.Key):=rfl
theorem ins_l3(e:GcAction)(P:List GcAction)(hP:P.length≤1000):∀(ps r:List GcAction) (k:Nat),ps.length<k→ps.length≤1000→F56_l3 (P.length:Int) k ((P++ps.reverse)++e::r) ((P++ps.reverse).length:Int)=some (P++dwn e ps r)
 |[],r,k+1,_,_=>by
  rw[F56_l3,if_neg (by simp)];simp[dwn]
 |y::ps,r,k+1,hk,hb=>by
  simp only[List.length_cons]at hk hb
  have hA:((P++(y::ps).reverse)++e::r)=(P++ps.reverse)++y::e::r:=by simp
  have hl:(P++(y::ps).reverse).length=(P++ps.reverse).length+1:=by simp;omega
  have ew:IntKind.i64.wrap ((((P++ps.reverse).length+1:Nat):Int)-1)=((P++ps.reverse).length:Int):=by rw[wrapI (by simp;omega) (by simp;omega)];omega
  rw[F56_l3,hA,hl,if_pos (by simp;omega),rdI_val (sw_1 _ _ _ _),Option.bind_some,ew,rdI_val (sw_0 _ _ _),Option.bind_some,cmpG,Option.bind_some,Option.bind_some,dwn]
  by_cases g:lt e.Key y.Key
  ·rw[decide_eq_true ((scmp_neg _ _).2 g),if_pos rfl,if_pos g]
   simp only[Option.bind_some,Int.toNat_natCast]
   rw[sw_s1,rdI_val (sw_0 _ _ _),Option.bind_some,sw_s0]
   exact ins_l3 e P hP ps (y::r) k (by omega) (by omega)
  ·rw[decide_eq_false (fun h=>g ((scmp_neg _ _).1 h)),if_neg (by simp),if_neg g]
   simp
theorem ins_l1(P:List GcAction)(hP:P.length≤1000)(Q:List GcAction)(es:List GcAction)(hb:es.length≤1000):∀(m i k:Nat),es.length=i+m→m<k→F56_l1 (P.length:Int) ((P.length+es.length:Nat):Int) k (P++(isr (es.take i)++(es.drop i++Q))) ((P.length+i:Nat):Int)=some (P++(isr es++Q))
 |0,i,k+1,h,_=>by
  rw[F56_l1,if_neg (by omega),List.drop_of_length_le (by omega),List.take_of_length_le (by omega),List.nil_append]
 |m+1,i,k+1,h,hk=>by
  have hi:i<es.length:=by omega
  have hsl:(isr (es.take i)).length=i:=by rw[isr_len,List.length_take];omega
  have e3:=ins_l3 es[i] P hP (isr (es.take i)).reverse (es.drop (i+1)++Q) 1099511627776 (by rw[List.length_reverse,hsl];omega) (by rw[List.length_reverse,hsl];omega)
  rw[List.reverse_reverse,List.length_append,hsl,List.append_assoc,←List.cons_append,←List.drop_eq_getElem_cons hi]at e3
  rw[F56_l1,if_pos (by omega),e3,Option.bind_some,wrapN (by omega),dwn_ins _ _ _ (by rw[List.reverse_reverse];exact(isr_both _).1),List.reverse_reverse,←isr_snoc]
  have et:es.take i++[es[i]]=es.take (i+1):=by rw[List.take_add_one,List.getElem?_eq_getElem hi];rfl
  rw[et]
  exact ins_l1 P hP Q es hb m (i+1) k (by omega) (by omega)
theorem insS_t{P es Q:List GcAction}{xs:List GcAction}{a b:Int}(hx:xs=P++(es++Q))(ha:a=(P.length:Int))(hb:b=((P.length+es.length:Nat):Int))(hP:P.length≤1000)(he:es.length≤1000):F56 xs a b=some (P++(isr es++Q)):=by
 subst hx ha hb
 have h1:F56_l1 (P.length:Int) ((P.length+es.length:Nat):Int) 1099511627776 (P++(es++Q)) ((P.length+1:Nat):Int)=some (P++(isr es++Q)):=by
  cases es with
  |nil=>
   rw[show(1099511627776:Nat)=1099511627775+1 from rfl,F56_l1,if_neg (by simp only[List.length_nil];omega)];rfl
  |cons e es=>
   have:=ins_l1 P hP Q (e::es) he es.length 1 1099511627776 (by simp;omega) (by simp only[List.length_cons]at he;omega)
   exact this
 rw[F56,F56i,wrapN (by omega),h1]
 simp only[Option.bind_some]
 rw[if_pos (by simp[isr_len])]
open Go Go.Fw
set_option maxRecDepth 100000
set_option linter.unusedVariables false
set_option linter.unusedSimpArgs false
theorem rd_at{α:Type}{A r:List α}{e:α}{j:Int}(h:j=(A.length:Int)):rdI (A++e::r) j=some e:=by
 subst h;exact rdI_val (sw_0 A r e)
theorem set_at{α:Type}{A r:List α}{e z:α}{j:Int}(h:j=(A.length:Int)):(A++e::r).set j.toNat z=A++z::r:=by
 subst h;rw[Int.toNat_natCast];exact sw_s0 A r e z
theorem swp_l1:∀(X Y:List GcAction) (k:Nat) (i a b n:Int) (U W Q:List GcAction),X.length=Y.length→X.length<k→U.length+X.length+W.length+Y.length≤1000000→0≤i→0≤a→0≤b→a+i=(U.length:Int)→b+i=((U.length+X.length+W.length:Nat):Int)→n=i+(X.length:Int)→F78_l1 a b n k (U++(X++(W++(Y++Q)))) i=some (U++(Y++(W++(X++Q))))
 |[],[],k+1,i,a,b,n,U,W,Q,_,_,_,_,_,_,ha,hb,hn=>by
  rw[F78_l1,if_neg (by simp at hn;omega)]
 |x::X,y::Y,k+1,i,a,b,n,U,W,Q,hl,hk,hm,hi,ha0,hb0,ha,hb,hn=>by
  simp only[List.length_cons]at hl hk hm hb hn
  have e1:IntKind.i64.wrap (b+i)=((U++(x::X++W)).length:Int):=by
   rw[wrapI (by omega) (by omega),hb];simp;omega
  have e2:IntKind.i64.wrap (a+i)=(U.length:Int):=by rw[wrapI (by omega) (by omega),ha]
  have f1:U++(x::X++(W++(y::Y++Q)))=(U++(x::X++W))++y::(Y++Q):=by simp
  have f2:U++(x::X++(W++(y::Y++Q)))=U++x::(X++(W++(y::Y++Q))):=by simp
  have r1:rdI (U++(x::X++(W++(y::Y++Q)))) (IntKind.i64.wrap (b+i))=some y:=by rw[f1];exact rd_at e1
  have r2:rdI (U++(x::X++(W++(y::Y++Q)))) (IntKind.i64.wrap (a+i))=some x:=by rw[f2];exact rd_at e2
  have s1:(U++(x::X++(W++(y::Y++Q)))).set (IntKind.i64.wrap (a+i)).toNat y=(U++(y::X++W))++y::(Y++Q):=by rw[f2,set_at e2];simp
  have e3:IntKind.i64.wrap (b+i)=((U++(y::X++W)).length:Int):=by rw[e1];simp
  have r3:rdI ((U++(y::X++W))++y::(Y++Q)) (IntKind.i64.wrap (b+i))=some y:=rd_at e3
  rw[F78_l1,if_pos (by omega),r1,Option.bind_some,r2,Option.bind_some,Option.bind_some,s1,r3,Option.bind_some,set_at e3]
  have ih:=swp_l1 X Y k (i+1) a b n (U++[y]) (W++[x]) Q (by omega) (by omega) (by simp;omega) (by omega) ha0 hb0 (by simp;omega) (by simp;omega) (by omega)
  rw[show IntKind.i64.wrap (i+1)=i+1 from wrapI (by omega) (by omega)]
  have g1:(U++(y::X++W))++x::(Y++Q)=(U++[y])++(X++((W++[x])++(Y++Q))):=by simp
  have g2:U++(y::Y++(W++(x::X++Q)))=(U++[y])++(Y++((W++[x])++(X++Q))):=by simp
  rw[g1,g2];exact ih
theorem swp_t{X Y U W Q:List GcAction}{xs:List GcAction}{a b n:Int}(hx:xs=U++(X++(W++(Y++Q))))(hl:X.length=Y.length)(hm:xs.length≤1000000)(ha:a=(U.length:Int))(hb:b=((U.length+X.length+W.length:Nat):Int))(hn:n=(X.length:Int)):
 F78 xs a b n=some (U++(Y++(W++(X++Q)))):=by
 subst hx
 simp only[List.length_append]at hm
 rw[F78,F78i,swp_l1 X Y 1099511627776 0 a b n U W Q hl (by omega) (by omega) (by omega) (by omega) (by omega) (by omega) (by omega) (by omega)]
 simp only[Option.bind_some]
 rw[if_pos (by simp;omega)]
theorem rot_l1:∀(N:Nat) (U V P Q:List GcAction) (k:Nat) (xs:List GcAction) (m i j:Int),U.length+V.length≤N→N<k→1≤U.length→1≤V.length→xs=P++(U++(V++Q))→xs.length≤1000000→m=((P.length+U.length:Nat):Int)→i=(U.length:Int)→j=(V.length:Int)→
 ((F71_l1 m k xs i j).bind fun o1=>(F78 o1.1 ((IntKind.i64.wrap (m-o1.2))) m o1.2).bind fun t6=>some t6)=some (P++(V++(U++Q)))
 |N,U,V,P,Q,0,xs,m,i,j,_,h,_,_,_,_,_,_,_=>by omega
 |N,U,V,P,Q,k+1,xs,m,i,j,hN,hk,hU,hV,hx,hm,em,ei,ej=>by
  have hlen:P.length+U.length+V.length≤1000000:=by rw[hx]at hm;simp only[List.length_append]at hm;omega
  have w1:IntKind.i64.wrap (m-i)=(P.length:Int):=by rw[wrapI (by omega) (by omega)];omega
  rw[F71_l1]
  by_cases hij:i=j
  ·rw[if_neg (by simpa using hij),Option.bind_some]
   simp only
   rw[w1,swp_t (U:=P) (X:=U) (W:=[]) (Y:=V) (Q:=Q) (by rw[hx];rfl) (by omega) hm rfl (by simp;omega) ei]
   rfl
  ·rw[if_pos hij]
   by_cases hlt:j<i
   ·rw[if_pos hlt]
    obtain⟨U1,U2,hU12,hU1⟩:∃U1 U2,U=U1++U2∧U1.length=V.length:=⟨U.take V.length,U.drop V.length,by simp,by rw[List.length_take];omega⟩
    have hUl:=congrArg List.length hU12
    rw[List.length_append]at hUl
    rw[w1,swp_t (U:=P) (X:=U1) (W:=U2) (Y:=V) (Q:=Q) (by rw[hx,hU12];simp) hU1 hm rfl (by omega) (by omega),Option.bind_some]
    rw[rot_l1 (N-1) U2 U1 (P++V) Q k _ m _ j (by omega) (by omega) (by omega) (by omega) (by simp) (by simp only[List.length_append];rw[hx]at hm;simp only[List.length_append]at hm;omega) (by simp only[List.length_append];omega) (by rw[wrapI (by omega) (by omega)];omega) (by omega)]
    rw[hU12];simp
   ·rw[if_neg hlt]
    obtain⟨V1,V2,hV12,hV2⟩:∃V1 V2,V=V1++V2∧V2.length=U.length:=⟨V.take (V.length-U.length),V.drop (V.length-U.length),by simp,by rw[List.length_drop];omega⟩
    have hVl:=congrArg List.length hV12
    rw[List.length_append]at hVl
    have w2:IntKind.i64.wrap (IntKind.i64.wrap (m+j)-i)=((P.length+U.length+V1.length:Nat):Int):=by
     rw[wrapI (n:=m+j) (by omega) (by omega),wrapI (by omega) (by omega)];omega
    rw[w1,w2,swp_t (U:=P) (X:=U) (W:=V1) (Y:=V2) (Q:=Q) (by rw[hx,hV12];simp) hV2.symm hm rfl rfl ei,Option.bind_some]
    rw[rot_l1 (N-1) V2 V1 P (U++Q) k _ m i _ (by omega) (by omega) (by omega) (by omega) (by simp) (by simp only[List.length_append];rw[hx]at hm;simp only[List.length_append]at hm;omega) (by omega) (by omega) (by rw[wrapI (by omega) (by omega)];omega)]
    rw[hV12];simp
theorem rot_t{U V P Q xs:List GcAction}{a m b:Int}(hU:1≤U.length)(hV:1≤V.length)(hx:xs=P++(U++(V++Q)))(hm:xs.length≤1000000)(ha:a=(P.length:Int))(em:m=((P.length+U.length:Nat):Int))(eb:b=((P.length+U.length+V.length:Nat):Int)):
 F71 xs a m b=some (P++(V++(U++Q))):=by
 have hlen:P.length+U.length+V.length≤1000000:=by rw[hx]at hm;simp only[List.length_append]at hm;omega
 rw[F71,F71i,rot_l1 (U.length+V.length) U V P Q 1099511627776 xs m _ _ (Nat.le_refl _) (by omega) hU hV hx hm em (by rw[wrapI (by omega) (by omega)];omega) (by rw[wrapI (by omega) (by omega)];omega),Option.bind_some]
 rw[if_pos (by rw[hx];simp;omega)]
def srch(f:Int→Option Bool):Nat→Int→Int→Option Int
 |0,_,_=>none
 |k+1,i,j=>if i<j then(f (mid i j)).bind fun t=>if t=true then srch f k (IntKind.i64.wrap (mid i j+1)) j else srch f k i (mid i j)else some i
theorem srch_spec{f:Int→Option Bool}{q:Nat→Bool}{lo hi:Nat}(hh:hi≤1000000)(hf:∀h:Nat,lo≤h→h<hi→f (h:Int)=some (q h)):∀(k i j:Nat),j-i<k→lo≤i→i≤j→j≤hi→(i=lo∨q (i-1)=true)→(j=hi∨q j=false)→
 ∃s:Nat,srch f k (i:Int) (j:Int)=some (s:Int)∧lo≤s∧s≤hi∧(s=lo∨q (s-1)=true)∧(s=hi∨q s=false)
 |0,i,j,h,_,_,_,_,_=>by omega
 |k+1,i,j,h,h1,h2,h3,h4,h5=>by
  unfold srch
  by_cases hij:i<j
  ·have hm:(i+j)/2<j:=by omega
   rw[if_pos (by omega),mid_eq (by omega),hf _ (by omega) (by omega),Option.bind_some]
   cases hq:q ((i+j)/2)with
   |true=>
    rw[if_pos rfl,wrapN (by omega)]
    exact srch_spec hh hf k _ j (by omega) (by omega) (by omega) h3 (.inr (by simpa using hq)) h5
   |false=>
    rw[if_neg (by simp)]
    exact srch_spec hh hf k i _ (by omega) h1 (by omega) (by omega) h4 (.inr hq)
  ·rw[if_neg (by omega)]
   have:i=j:=by omega
   subst this
   exact⟨i,rfl,h1,h3,h4,h5⟩
theorem l2_srch{xs:List GcAction}{a:Int}{z:GcAction}(hz:rdI xs a=some z):∀(k:Nat) (i j:Int),F57_l2 xs a k i j=srch (fun h=>(rdI xs h).bind fun y4=>some (decide (scmp y4.Key z.Key<0))) k i j
 |0,_,_=>rfl
 |k+1,i,j=>by
  rw[F57_l2,srch]
  split
  ·show(rdI xs (mid i j)).bind _=_
   cases rdI xs (mid i j)with
   |none=>rfl
   |some y=>
    simp only[Option.bind_some,hz,cmpG,decide_eq_true_eq]
    split
    ·exact l2_srch hz k _ j
    ·exact l2_srch hz k i _
  ·rfl
theorem l15_srch{xs:List GcAction}{m:Int}{z:GcAction}(hz:rdI xs m=some z):∀(k:Nat) (i j:Int),F57_l15 xs m k i j=srch (fun h=>(rdI xs h).bind fun y4=>some (decide (¬scmp z.Key y4.Key<0))) k i j
 |0,_,_=>rfl
 |k+1,i,j=>by
  rw[F57_l15,srch]
  split
  ·rw[hz,Option.bind_some]
   show(rdI xs (mid i j)).bind _=_
   cases rdI xs (mid i j)with
   |none=>rfl
   |some y=>
    simp only[Option.bind_some,cmpG,decide_eq_true_eq]
    split
    ·exact l15_srch hz k _ j
    ·exact l15_srch hz k i _
  ·rfl
theorem l29_srch(xs:List GcAction)(a m b:Int):∀(k:Nat) (i j:Int),F57_l29 xs a m b k i j=srch (fun h=>(rdI xs (IntKind.i64.wrap (IntKind.i64.wrap (IntKind.i64.wrap (mid a b+m)-1)-h))).bind fun y5=>(rdI xs h).bind fun y4=>some (decide (¬scmp y5.Key y4.Key<0))) k i j
 |0,_,_=>rfl
 |k+1,i,j=>by
  rw[F57_l29,srch]
  split
  ·show(rdI xs (IntKind.i64.wrap (IntKind.i64.wrap (IntKind.i64.wrap (mid a b+m)-1)-mid i j))).bind _=_
   cases rdI xs (IntKind.i64.wrap (IntKind.i64.wrap (IntKind.i64.wrap (mid a b+m)-1)-mid i j))with
   |none=>rfl
   |some z=>
    simp only[Option.bind_some]
    show(rdI xs (mid i j)).bind _=_
    cases rdI xs (mid i j)with
    |none=>rfl
    |some y=>
     simp only[Option.bind_some,cmpG,decide_eq_true_eq]
     split
     ·exact l29_srch xs a m b k _ j
     ·exact l29_srch xs a m b k i _
  ·rfl
theorem l8_t(e:GcAction):∀(B U Q:List GcAction) (k:Nat) (s a:Int),B.length<k→U.length+B.length≤1000000→a=(U.length:Int)→s=a+1+(B.length:Int)→F57_l8 s k (U++(e::B++Q)) a=some (U++(B++e::Q))
 |[],U,Q,k+1,s,a,_,_,ha,hs=>by
  rw[F57_l8,wrapI (by simp at hs;omega) (by simp at hs;omega),if_neg (by simp at hs;omega)];rfl
 |y::B,U,Q,k+1,s,a,hk,hm,ha,hs=>by
  simp only[List.length_cons]at hk hm hs
  rw[F57_l8,wrapI (n:=s-1) (by omega) (by omega),if_pos (by omega)]
  have w:IntKind.i64.wrap (a+1)=a+1:=wrapI (by omega) (by omega)
  have f1:U++(e::y::B++Q)=(U++[e])++y::(B++Q):=by simp
  have f2:U++(e::y::B++Q)=U++e::(y::B++Q):=by simp
  have g1:a+1=((U++[e]).length:Int):=by simp;omega
  have r1:rdI (U++(e::y::B++Q)) (a+1)=some y:=by rw[f1];exact rd_at g1
  have r2:rdI (U++(e::y::B++Q)) a=some e:=by rw[f2];exact rd_at ha
  have s1:(U++(e::y::B++Q)).set a.toNat y=(U++[y])++y::(B++Q):=by rw[f2,set_at ha];simp
  have g2:a+1=((U++[y]).length:Int):=by simp;omega
  rw[w,r1,Option.bind_some,r2,Option.bind_some,Option.bind_some,s1,rd_at g2,Option.bind_some,set_at g2]
  have ih:=l8_t e B (U++[y]) Q k s (a+1) (by omega) (by simp;omega) g2 (by omega)
  have g3:(U++[y])++e::(B++Q)=(U++[y])++(e::B++Q):=rfl
  rw[g3,ih];simp
theorem l21_t(e:GcAction)(U:List GcAction)(hU:U.length≤1000000):∀(ps Q:List GcAction) (k:Nat) (s j:Int),ps.length<k→ps.length≤1000000→s=(U.length:Int)→j=((U.length+ps.length:Nat):Int)→F57_l21 s k (U++(ps.reverse++e::Q)) j=some (U++(e::ps.reverse++Q))
 |[],Q,k+1,s,j,_,_,hs,hj=>by
  rw[F57_l21,if_neg (by simp at hj;omega)];rfl
 |y::ps,Q,k+1,s,j,hk,hb,hs,hj=>by
  simp only[List.length_cons]at hk hb hj
  have w:IntKind.i64.wrap (j-1)=j-1:=wrapI (by omega) (by omega)
  have f1:U++((y::ps).reverse++e::Q)=(U++ps.reverse)++y::e::Q:=by simp
  have f2:U++((y::ps).reverse++e::Q)=(U++(y::ps).reverse)++e::Q:=by simp
  have g1:j-1=((U++ps.reverse).length:Int):=by simp;omega
  have g2:j=((U++(y::ps).reverse).length:Int):=by simp;omega
  have r1:rdI (U++((y::ps).reverse++e::Q)) (j-1)=some y:=by rw[f1];exact rd_at g1
  have r2:rdI (U++((y::ps).reverse++e::Q)) j=some e:=by rw[f2];exact rd_at g2
  have s1:(U++((y::ps).reverse++e::Q)).set j.toNat y=(U++ps.reverse)++y::y::Q:=by rw[f2,set_at g2];simp
  rw[F57_l21,if_pos (by omega),w,r1,Option.bind_some,r2,Option.bind_some,Option.bind_some,s1,rd_at g1,Option.bind_some,set_at g1]
  have ih:=l21_t e U hU ps (y::Q) k s (j-1) (by omega) (by omega) hs (by omega)
  rw[List.append_assoc,ih];simp
open Go Go.Fw
set_option maxRecDepth 100000
set_option linter.unusedVariables false
set_option linter.unusedSimpArgs false
theorem le_lt{a b c:ByteArray}(h1:¬lt b a)(h2:lt b c):lt a c:=by
 rcases lt_dec a b with h3|h3|h3
 ·exact lt_trans h3 h2
 ·subst h3;exact h2
 ·exact(h1 h3).elim
theorem lt_le{a b c:ByteArray}(h1:lt a b)(h2:¬lt c b):lt a c:=by
 rcases lt_dec b c with h3|h3|h3
 ·exact lt_trans h1 h3
 ·subst h3;exact h1
 ·exact(h2 h3).elim
theorem srt_at{L:List GcAction}(h:Srt L){i j:Nat}{x y:GcAction}(hi:L[i]? =some x)(hj:L[j]? =some y)(hij:i≤j):¬lt y.Key x.Key:=by
 obtain⟨h1,e1⟩:=List.getElem?_eq_some_iff.1 hi
 obtain⟨h2,e2⟩:=List.getElem?_eq_some_iff.1 hj
 by_cases he:i=j
 ·subst he;rw[hi]at hj;cases hj;exact lt_irrefl _
 ·have:=List.pairwise_iff_getElem.1 h i j h1 h2 (by omega)
  rw[e1,e2]at this;exact this
theorem tk_at{L:List GcAction}{t:Nat}{x:GcAction}(h:x∈L.take t):∃i,i<t∧L[i]? =some x:=by
 obtain⟨i,hi⟩:=List.mem_iff_getElem?.1 h
 rw[List.getElem?_take]at hi
 split at hi
 ·exact⟨i,by assumption,hi⟩
 ·cases hi
theorem dr_at{L:List GcAction}{t:Nat}{x:GcAction}(h:x∈L.drop t):∃i,t≤i∧L[i]? =some x:=by
 obtain⟨i,hi⟩:=List.mem_iff_getElem?.1 h
 rw[List.getElem?_drop]at hi
 exact⟨t+i,by omega,hi⟩
theorem glue{A1 A2 B1 B2 R1 R2:List GcAction}(hA:Srt (A1++A2))(hB:Srt (B1++B2))(h1:∀x∈A1,∀y∈B2,¬lt y.Key x.Key)(h2:∀x∈B1,∀y∈A2,lt x.Key y.Key)
 (s1:Srt R1) (e1:Eqv (A1++B1) R1) (s2:Srt R2) (e2:Eqv (A2++B2) R2):Srt (R1++R2)∧Eqv ((A1++A2)++(B1++B2)) (R1++R2):=by
 have hA2:=(List.pairwise_append.1 hA).2.2
 have hB2:=(List.pairwise_append.1 hB).2.2
 constructor
 ·refine List.pairwise_append.2 ⟨s1,s2,fun x hx y hy=>?_⟩
  rcases List.mem_append.1 (e1.perm.mem_iff.2 hx)with hx|hx<;>rcases List.mem_append.1 (e2.perm.mem_iff.2 hy)with hy|hy
  ·exact hA2 x hx y hy
  ·exact h1 x hx y hy
  ·exact lt_asymm (h2 x hx y hy)
  ·exact hB2 x hx y hy
 ·have e3:Eqv (A2++B1) (B1++A2):=Eqv.swap fun x hx y hy e=>by
   have:=h2 y hy x hx;rw[e]at this;exact lt_irrefl _ this
  have e4:Eqv (A1++((A2++B1)++B2)) (A1++((B1++A2)++B2)):=Eqv.app (Eqv.rf _) (Eqv.app e3 (Eqv.rf _))
  have e5:Eqv ((A1++B1)++(A2++B2)) (R1++R2):=Eqv.app e1 e2
  have f1:(A1++A2)++(B1++B2)=A1++((A2++B1)++B2):=by simp
  have f2:A1++((B1++A2)++B2)=(A1++B1)++(A2++B2):=by simp
  rw[f1];rw[f2]at e4;exact e4.tr e5
theorem rdP{α:Type}{P L Q:List α}{i:Nat}{x:α}{j:Int}(h:L[i]? =some x)(hj:j=((P.length+i:Nat):Int)):rdI (P++(L++Q)) j=some x:=by
 subst hj
 refine rdI_val ?_
 have hi:=(List.getElem?_eq_some_iff.1 h).1
 rw[List.getElem?_append_right (by omega),List.getElem?_append_left (by omega),show P.length+i-P.length=i by omega];exact h
theorem srt_ends{A B:List GcAction}(hA:Srt A)(hB:Srt B)(h:A=[]∨B=[]):Srt (A++B):=by
 rcases h with rfl|rfl
 ·exact hB
 ·rw[List.append_nil];exact hA
theorem sym1{e:GcAction}{B P Q:List GcAction}(hm:P.length+1+B.length≤1000000)(hB:Srt B):∃R,((F57_l2 (P++([e]++(B++Q))) (P.length:Int) 1099511627776 ((P.length+1:Nat):Int) ((P.length+1+B.length:Nat):Int)).bind fun o2=>(F57_l8 o2 1099511627776 (P++([e]++(B++Q))) (P.length:Int)).bind fun o8=>some o8)=some (P++(R++Q))∧Srt R∧Eqv ([e]++B) R:=by
 have hz:rdI (P++([e]++(B++Q))) (P.length:Int)=some e:=rd_at rfl
 obtain⟨s,g1,g2,g3,g4,g5⟩:=srch_spec (f:=fun h=>(rdI (P++([e]++(B++Q))) h).bind fun y4=>some (decide (scmp y4.Key e.Key<0))) (q:=fun h=>match B[h-(P.length+1)]? with|some y=>decide (lt y.Key e.Key)|none=>false) (lo:=P.length+1) (hi:=P.length+1+B.length) hm (fun h h1 h2=>by
  have hb:B[h-(P.length+1)]? =some B[h-(P.length+1)]:=List.getElem?_eq_getElem (by omega)
  have hr:rdI (P++([e]++(B++Q))) (h:Int)=some B[h-(P.length+1)]:=by
   have:=rdP (P:=P++[e]) (Q:=Q) (j:=(h:Int)) hb (by simp;omega)
   rw[List.append_assoc]at this;exact this
  simp only[hr,hb,Option.bind_some,scmp_neg]) 1099511627776 (P.length+1) (P.length+1+B.length) (by omega) (Nat.le_refl _) (by omega) (Nat.le_refl _) (.inl rfl) (.inl rfl)
 rw[l2_srch hz,g1,Option.bind_some]
 have hlow:∀y∈B.take (s-(P.length+1)),lt y.Key e.Key:=fun y hy=>by
  obtain⟨i,hi,hy⟩:=tk_at hy
  rcases g4 with g4|g4
  ·omega
  ·split at g4
   ·rename_i z hz
    exact le_lt (srt_at hB hy hz (by omega)) (of_decide_eq_true g4)
   ·cases g4
 have hhigh:∀y∈B.drop (s-(P.length+1)),¬lt y.Key e.Key:=fun y hy=>by
  obtain⟨i,hi,hy⟩:=dr_at hy
  have hil:=(List.getElem?_eq_some_iff.1 hy).1
  rcases g5 with g5|g5
  ·omega
  ·have hb:B[s-(P.length+1)]? =some B[s-(P.length+1)]:=List.getElem?_eq_getElem (by omega)
   simp only[hb]at g5
   exact le_tr (of_decide_eq_false g5) (srt_at hB hb hy hi)
 have hBe:B.take (s-(P.length+1))++B.drop (s-(P.length+1))=B:=List.take_append_drop _ _
 refine⟨B.take (s-(P.length+1))++([e]++B.drop (s-(P.length+1))),?_,?_⟩
 ·have h8:=l8_t e (B.take (s-(P.length+1))) P (B.drop (s-(P.length+1))++Q) 1099511627776 (s:Int) (P.length:Int) (by rw[List.length_take];omega) (by rw[List.length_take];omega) rfl (by rw[List.length_take];omega)
  have f1:P++([e]++(B++Q))=P++(e::B.take (s-(P.length+1))++(B.drop (s-(P.length+1))++Q)):=by
   have:B.take (s-(P.length+1))++(B.drop (s-(P.length+1))++Q)=B++Q:=by rw[←List.append_assoc,hBe]
   show P++(e::(B++Q))=P++(e::(B.take (s-(P.length+1))++(B.drop (s-(P.length+1))++Q)))
   rw[this]
  rw[f1,h8];simp
 ·have hBs:=hB;rw[←hBe]at hBs
  have:=glue (A1:=[]) (A2:=[e]) (B1:=B.take (s-(P.length+1))) (B2:=B.drop (s-(P.length+1))) (R1:=B.take (s-(P.length+1))) (R2:=[e]++B.drop (s-(P.length+1))) (List.pairwise_singleton ..) hBs (fun x hx=>by cases hx) (fun x hx y hy=>by rw[List.mem_singleton.1 hy];exact hlow x hx) (List.pairwise_append.1 hBs).1 (Eqv.rf _) (List.pairwise_cons.2 ⟨fun y hy=>hhigh y hy,(List.pairwise_append.1 hBs).2.1⟩) (Eqv.rf _)
  rw[hBe]at this
  exact this
theorem sym2{e:GcAction}{A P Q:List GcAction}(hm:P.length+A.length+1≤1000000)(hA:Srt A):∃R,((F57_l15 (P++(A++([e]++Q))) ((P.length+A.length:Nat):Int) 1099511627776 (P.length:Int) ((P.length+A.length:Nat):Int)).bind fun o15=>(F57_l21 o15 1099511627776 (P++(A++([e]++Q))) ((P.length+A.length:Nat):Int)).bind fun o21=>some o21)=some (P++(R++Q))∧Srt R∧Eqv (A++[e]) R:=by
 have hz:rdI (P++(A++([e]++Q))) ((P.length+A.length:Nat):Int)=some e:=by
  rw[←List.append_assoc];exact rd_at (by simp)
 obtain⟨s,g1,g2,g3,g4,g5⟩:=srch_spec (f:=fun h=>(rdI (P++(A++([e]++Q))) h).bind fun y4=>some (decide (¬scmp e.Key y4.Key<0))) (q:=fun h=>match A[h-P.length]? with|some y=>decide (¬lt e.Key y.Key)|none=>false) (lo:=P.length) (hi:=P.length+A.length) (by omega) (fun h h1 h2=>by
  have hb:A[h-P.length]? =some A[h-P.length]:=List.getElem?_eq_getElem (by omega)
  have hr:rdI (P++(A++([e]++Q))) (h:Int)=some A[h-P.length]:=rdP hb (by omega)
  simp only[hr,hb,Option.bind_some,scmp_neg]) 1099511627776 P.length (P.length+A.length) (by omega) (Nat.le_refl _) (by omega) (Nat.le_refl _) (.inl rfl) (.inl rfl)
 rw[l15_srch hz,g1,Option.bind_some]
 have hlow:∀y∈A.take (s-P.length),¬lt e.Key y.Key:=fun y hy=>by
  obtain⟨i,hi,hy⟩:=tk_at hy
  rcases g4 with g4|g4
  ·omega
  ·split at g4
   ·rename_i z hz
    exact le_tr (srt_at hA hy hz (by omega)) (of_decide_eq_true g4)
   ·cases g4
 have hhigh:∀y∈A.drop (s-P.length),lt e.Key y.Key:=fun y hy=>by
  obtain⟨i,hi,hy⟩:=dr_at hy
  have hil:=(List.getElem?_eq_some_iff.1 hy).1
  rcases g5 with g5|g5
  ·omega
  ·have hb:A[s-P.length]? =some A[s-P.length]:=List.getElem?_eq_getElem (by omega)
   simp only[hb]at g5
   exact lt_le (Decidable.not_not.1 (of_decide_eq_false g5)) (srt_at hA hb hy hi)
 have hAe:A.take (s-P.length)++A.drop (s-P.length)=A:=List.take_append_drop _ _
 refine⟨(A.take (s-P.length)++[e])++A.drop (s-P.length),?_,?_⟩
 ·have h8:=l21_t e (P++A.take (s-P.length)) (by rw[List.length_append,List.length_take];omega) (A.drop (s-P.length)).reverse Q 1099511627776 (s:Int) ((P.length+A.length:Nat):Int) (by rw[List.length_reverse,List.length_drop];omega) (by rw[List.length_reverse,List.length_drop];omega) (by rw[List.length_append,List.length_take];omega) (by rw[List.length_append,List.length_take,List.length_reverse,List.length_drop];omega)
  rw[List.reverse_reverse]at h8
  have f1:P++(A++([e]++Q))=(P++A.take (s-P.length))++(A.drop (s-P.length)++e::Q):=by
   rw[List.append_assoc,←List.append_assoc (A.take _),hAe];rfl
  rw[f1,h8];simp
 ·have hAs:=hA;rw[←hAe]at hAs
  have:=glue (A1:=A.take (s-P.length)) (A2:=A.drop (s-P.length)) (B1:=[e]) (B2:=[]) (R1:=A.take (s-P.length)++[e]) (R2:=A.drop (s-P.length)) hAs (List.pairwise_singleton ..) (fun x hx y hy=>by cases hy) (fun x hx y hy=>by rw[List.mem_singleton.1 hx];exact hhigh y hy) (List.pairwise_append.2 ⟨(List.pairwise_append.1 hAs).1,List.pairwise_singleton ..,fun x hx y hy=>by rw[List.mem_singleton.1 hy];exact hlow x hx⟩) (Eqv.rf _) (List.pairwise_append.1 hAs).2.1 (by rw[List.append_nil];exact Eqv.rf _)
  rw[hAe,List.append_nil]at this
  exact this
set_option maxHeartbeats 4000000 in
theorem sym_t:∀(N fuel:Nat) (A B P Q xs:List GcAction) (a m b:Int),A.length+B.length≤N→N<fuel→1≤A.length→1≤B.length→xs=P++(A++(B++Q))→xs.length≤1000000→a=(P.length:Int)→m=((P.length+A.length:Nat):Int)→b=((P.length+A.length+B.length:Nat):Int)→Srt A→Srt B→
 ∃R,F57k fuel xs a m b=some (P++(R++Q))∧Srt R∧Eqv (A++B) R
 |N,0,A,B,P,Q,xs,a,m,b,_,h,_,_,_,_,_,_,_,_,_=>by omega
 |N,fuel+1,A,B,P,Q,xs,a,m,b,hN,hk,hA1,hB1,hx,hm,ea,em,eb,hA,hB=>by
  subst hx ea em eb
  have hlen:P.length+A.length+B.length+Q.length≤1000000:=by simp only[List.length_append]at hm;omega
  have close:∀R:List GcAction,F57i (F57k fuel) (P++(A++(B++Q))) (P.length:Int) ((P.length+A.length:Nat):Int) ((P.length+A.length+B.length:Nat):Int)=some (P++(R++Q))→Eqv (A++B) R→F57k (fuel+1) (P++(A++(B++Q))) (P.length:Int) ((P.length+A.length:Nat):Int) ((P.length+A.length+B.length:Nat):Int)=some (P++(R++Q)):=by
   intro R h1 h2
   have:=h2.perm.length_eq
   rw[List.length_append]at this
   show F57 (F57k fuel) _ _ _ _=_
   rw[F57,h1,Option.bind_some,if_pos (by simp only[List.length_append];omega)]
  have w1:IntKind.i64.wrap (((P.length+A.length:Nat):Int)-(P.length:Int))=(A.length:Int):=by rw[wrapI (by omega) (by omega)];omega
  have w2:IntKind.i64.wrap (((P.length+A.length+B.length:Nat):Int)-((P.length+A.length:Nat):Int))=(B.length:Int):=by rw[wrapI (by omega) (by omega)];omega
  by_cases hA2:A.length=1
  ·obtain⟨e,rfl⟩:=List.length_eq_one_iff.1 hA2
   obtain⟨R,r1,r2,r3⟩:=sym1 (e:=e) (P:=P) (Q:=Q) (by simp only[List.length_singleton]at hlen;omega) hB
   refine⟨R,close R ?_ r3,r2,r3⟩
   rw[F57i,w1,if_pos (by simp)]
   exact r1
  by_cases hB2:B.length=1
  ·obtain⟨e,rfl⟩:=List.length_eq_one_iff.1 hB2
   obtain⟨R,r1,r2,r3⟩:=sym2 (e:=e) (P:=P) (Q:=Q) (by simp only[List.length_singleton]at hlen;omega) hA
   refine⟨R,close R ?_ r3,r2,r3⟩
   rw[F57i,w1,if_neg (by omega),w2,if_pos (by simp)]
   exact r1
  obtain⟨h,hh⟩:∃h,h=(A.length+B.length)/2:=⟨_,rfl⟩
  have wm:IntKind.i64.wrap (shrV .u64 (IntKind.u64.wrap (IntKind.i64.wrap ((P.length:Int)+((P.length+A.length+B.length:Nat):Int)))) 1)=((P.length+h:Nat):Int):=by
   show mid (P.length:Int) ((P.length+A.length+B.length:Nat):Int)=_
   rw[mid_eq (by omega)];congr 1;omega
  have wn:IntKind.i64.wrap (((P.length+h:Nat):Int)+((P.length+A.length:Nat):Int))=((P.length+h+(P.length+A.length):Nat):Int):=by rw[wrapI (by omega) (by omega)];omega
  obtain⟨lo,hi,hlo,hhi,hlh,h1,h2,ho⟩:∃lo hi:Nat,P.length≤lo∧hi≤P.length+A.length∧lo≤hi∧(lo=P.length∨lo+B.length=P.length+h)∧(hi=P.length+A.length∨hi=P.length+h)∧((∀c:Nat,lo≤c→c<hi→c+1≤P.length+h∧P.length+h<c+1+B.length)∧
   (if((P.length+h:Nat):Int)<((P.length+A.length:Nat):Int)then some (IntKind.i64.wrap (((P.length+h+(P.length+A.length):Nat):Int)-((P.length+A.length+B.length:Nat):Int)),((P.length+h:Nat):Int))else some ((P.length:Int),((P.length+A.length:Nat):Int)))=some ((lo:Int),(hi:Int))):=by
   by_cases hc:h<A.length
   ·refine⟨P.length+h-B.length,P.length+h,by omega,by omega,by omega,.inr (by omega),.inr rfl,fun c c1 c2=>⟨by omega,by omega⟩,?_⟩
    rw[if_pos (by omega),wrapI (by omega) (by omega)];congr 2;omega
   ·refine⟨P.length,P.length+A.length,by omega,by omega,by omega,.inl rfl,.inl rfl,fun c c1 c2=>⟨by omega,by omega⟩,?_⟩
    rw[if_neg (by omega)]
  obtain⟨hrange,ho⟩:=ho
  obtain⟨s,g1,g2,g3,g4,g5⟩:=srch_spec (f:=fun c=>(rdI (P++(A++(B++Q))) (IntKind.i64.wrap (IntKind.i64.wrap (IntKind.i64.wrap (mid (P.length:Int) ((P.length+A.length+B.length:Nat):Int)+((P.length+A.length:Nat):Int))-1)-c))).bind fun y5=>(rdI (P++(A++(B++Q))) c).bind fun y4=>some (decide (¬scmp y5.Key y4.Key<0))) (q:=fun c=>match A[c-P.length]?,B[P.length+h-1-c]? with|some x,some y=>decide (¬lt y.Key x.Key)|_,_=>false) (lo:=lo) (hi:=hi) (by omega) (fun c c1 c2=>by
   have hr:=hrange c c1 c2
   have hb1:A[c-P.length]? =some A[c-P.length]:=List.getElem?_eq_getElem (by omega)
   have hb2:B[P.length+h-1-c]? =some B[P.length+h-1-c]:=List.getElem?_eq_getElem (by omega)
   have hr1:rdI (P++(A++(B++Q))) (c:Int)=some A[c-P.length]:=rdP hb1 (by omega)
   have hr2:rdI (P++(A++(B++Q))) (IntKind.i64.wrap (IntKind.i64.wrap (IntKind.i64.wrap (mid (P.length:Int) ((P.length+A.length+B.length:Nat):Int)+((P.length+A.length:Nat):Int))-1)-(c:Int)))=some B[P.length+h-1-c]:=by
    rw[show mid (P.length:Int) ((P.length+A.length+B.length:Nat):Int)=((P.length+h:Nat):Int)from wm,wn,wrapI (n:=_-1) (by omega) (by omega),wrapI (by omega) (by omega),←List.append_assoc P A]
    exact rdP hb2 (by rw[List.length_append];omega)
   simp only[hr1,hr2,hb1,hb2,Option.bind_some,scmp_neg]) 1099511627776 lo hi (by omega) (Nat.le_refl _) hlh (Nat.le_refl _) (.inl rfl) (.inl rfl)
  obtain⟨t,ht⟩:∃t,s=P.length+t:=⟨s-P.length,by omega⟩
  obtain⟨u,hu⟩:∃u,h=t+u:=⟨h-t,by
   rcases h2 with h2|h2
   ·by_cases hst:s=hi
    ·by_cases hlo2:lo=hi
     ·rcases h1 with h1|h1<;>omega
     ·have:=hrange (hi-1) (by omega) (by omega);omega
    ·have:=hrange s g2 (by omega);omega
   ·omega⟩
  have htA:t≤A.length:=by omega
  have huB:u≤B.length:=by
   rcases h1 with h1|h1
   ·by_cases hst:s=lo
    ·by_cases hlo2:lo=hi
     ·rcases h2 with h2|h2<;>omega
     ·have:=hrange lo (by omega) (by omega);omega
    ·have:=hrange (s-1) (by omega) (by omega);omega
   ·omega
  have hAe:A.take t++A.drop t=A:=List.take_append_drop _ _
  have hBe:B.take u++B.drop u=B:=List.take_append_drop _ _
  have l1:(A.take t).length=t:=by rw[List.length_take];omega
  have l2:(A.drop t).length=A.length-t:=List.length_drop
  have l3:(B.take u).length=u:=by rw[List.length_take];omega
  have l4:(B.drop u).length=B.length-u:=List.length_drop
  generalize hq1:A.take t=A1 at hAe l1
  generalize hq2:A.drop t=A2 at hAe l2
  generalize hq3:B.take u=B1 at hBe l3
  generalize hq4:B.drop u=B2 at hBe l4
  have c1:∀x∈A1,∀y∈B2,¬lt y.Key x.Key:=fun x hx y hy=>by
   subst hq1;subst hq4
   obtain⟨i,hi1,hi2⟩:=tk_at hx
   obtain⟨j,hj1,hj2⟩:=dr_at hy
   have hjl:=(List.getElem?_eq_some_iff.1 hj2).1
   rcases g4 with g4|g4
   ·rcases h1 with h1|h1<;>omega
   ·split at g4
    ·rename_i x' y' hx' hy'
     have q1:=srt_at hA hi2 hx' (by omega)
     have q2:=srt_at hB hy' hj2 (by omega)
     exact le_tr (le_tr q1 (of_decide_eq_true g4)) q2
    ·cases g4
  have c2:∀x∈B1,∀y∈A2,lt x.Key y.Key:=fun x hx y hy=>by
   subst hq3;subst hq2
   obtain⟨i,hi1,hi2⟩:=tk_at hx
   obtain⟨j,hj1,hj2⟩:=dr_at hy
   have hjl:=(List.getElem?_eq_some_iff.1 hj2).1
   rcases g5 with g5|g5
   ·rcases h2 with h2|h2<;>omega
   ·have hb1:A[s-P.length]? =some A[s-P.length]:=List.getElem?_eq_getElem (by omega)
    have hb2:B[P.length+h-1-s]? =some B[P.length+h-1-s]:=List.getElem?_eq_getElem (by omega)
    simp only[hb1,hb2]at g5
    have q0:=Decidable.not_not.1 (of_decide_eq_false g5)
    have q1:=srt_at hA hb1 hj2 (by omega)
    have q2:=srt_at hB hi2 hb2 (by omega)
    exact lt_le (le_lt q2 q0) q1
  have hAs:Srt (A1++A2):=by rw[hAe];exact hA
  have hBs:Srt (B1++B2):=by rw[hBe];exact hB
  have sA:=List.pairwise_append.1 hAs
  have sB:=List.pairwise_append.1 hBs
  have left:∀Q',(P++(A1++(B1++Q'))).length≤1000000→∃R1,((if(P.length:Int)<(s:Int)then some (decide ((s:Int)<((P.length+h:Nat):Int)))else some false).bind fun o41=>if o41=true then(F57k fuel (P++(A1++(B1++Q'))) (P.length:Int) (s:Int) ((P.length+h:Nat):Int)).bind fun t44=>some t44 else some (P++(A1++(B1++Q'))))=some (P++(R1++Q'))∧Srt R1∧Eqv (A1++B1) R1:=by
   intro Q' hm'
   by_cases hc:0<t∧0<u
   ·obtain⟨R1,r1,r2,r3⟩:=sym_t (N-1) fuel A1 B1 P Q' _ (P.length:Int) (s:Int) ((P.length+h:Nat):Int) (by omega) (by omega) (by omega) (by omega) rfl hm' rfl (by omega) (by omega) sA.1 sB.1
    refine⟨R1,?_,r2,r3⟩
    rw[if_pos (by omega),Option.bind_some,if_pos (by rw[decide_eq_true_eq];omega),r1];rfl
   ·refine⟨A1++B1,?_,srt_ends sA.1 sB.1 ?_,Eqv.rf _⟩
    ·by_cases h0:0<t
     ·rw[if_pos (by omega),Option.bind_some,if_neg (by rw[decide_eq_true_eq];omega),List.append_assoc]
     ·rw[if_neg (by omega),Option.bind_some,if_neg (by simp),List.append_assoc]
    ·by_cases h0:0<t
     ·exact .inr (List.length_eq_zero_iff.1 (by omega))
     ·exact .inl (List.length_eq_zero_iff.1 (by omega))
  have right:∀P',P'.length=P.length+h→(P'++(A2++(B2++Q))).length≤1000000→∃R2,((if((P.length+h:Nat):Int)<((P.length+A.length+u:Nat):Int)then some (decide (((P.length+A.length+u:Nat):Int)<((P.length+A.length+B.length:Nat):Int)))else some false).bind fun o45=>if o45=true then(F57k fuel (P'++(A2++(B2++Q))) ((P.length+h:Nat):Int) ((P.length+A.length+u:Nat):Int) ((P.length+A.length+B.length:Nat):Int)).bind fun t48=>some t48 else some (P'++(A2++(B2++Q))))=some (P'++(R2++Q))∧Srt R2∧Eqv (A2++B2) R2:=by
   intro P' hP' hm'
   by_cases hc:t<A.length∧u<B.length
   ·obtain⟨R1,r1,r2,r3⟩:=sym_t (N-1) fuel A2 B2 P' Q _ ((P.length+h:Nat):Int) ((P.length+A.length+u:Nat):Int) ((P.length+A.length+B.length:Nat):Int) (by omega) (by omega) (by omega) (by omega) rfl hm' (by omega) (by omega) (by omega) sA.2.1 sB.2.1
    refine⟨R1,?_,r2,r3⟩
    rw[if_pos (by omega),Option.bind_some,if_pos (by rw[decide_eq_true_eq];omega),r1];rfl
   ·refine⟨A2++B2,?_,srt_ends sA.2.1 sB.2.1 ?_,Eqv.rf _⟩
    ·by_cases h0:t<A.length
     ·rw[if_pos (by omega),Option.bind_some,if_neg (by rw[decide_eq_true_eq];omega),List.append_assoc]
     ·rw[if_neg (by omega),Option.bind_some,if_neg (by simp),List.append_assoc]
    ·by_cases h0:t<A.length
     ·exact .inr (List.length_eq_zero_iff.1 (by omega))
     ·exact .inl (List.length_eq_zero_iff.1 (by omega))
  have hrot:((if(s:Int)<((P.length+A.length:Nat):Int)then some (decide (((P.length+A.length:Nat):Int)<((P.length+A.length+u:Nat):Int)))else some false).bind fun o36=>if o36=true then(F71 (P++(A++(B++Q))) (s:Int) ((P.length+A.length:Nat):Int) ((P.length+A.length+u:Nat):Int)).bind fun t39=>some t39 else some (P++(A++(B++Q))))=some (P++(A1++(B1++(A2++(B2++Q))))):=by
   have hxs:P++(A++(B++Q))=(P++A1)++(A2++(B1++(B2++Q))):=by rw[←hAe,←hBe];simp
   by_cases hc:t<A.length∧0<u
   ·rw[if_pos (by omega),Option.bind_some,if_pos (by rw[decide_eq_true_eq];omega),rot_t (U:=A2) (V:=B1) (P:=P++A1) (Q:=B2++Q) (by omega) (by omega) hxs hm (by rw[List.length_append];omega) (by rw[List.length_append];omega) (by rw[List.length_append];omega)]
    simp
   ·have he:P++(A++(B++Q))=P++(A1++(B1++(A2++(B2++Q)))):=by
     by_cases h0:t<A.length
     ·have:B1=[]:=List.length_eq_zero_iff.1 (by omega)
      subst this
      rw[hxs];simp
     ·have:A2=[]:=List.length_eq_zero_iff.1 (by omega)
      subst this
      rw[hxs];simp
    by_cases h0:t<A.length
    ·rw[if_pos (by omega),Option.bind_some,if_neg (by rw[decide_eq_true_eq];omega),he]
    ·rw[if_neg (by omega),Option.bind_some,if_neg (by simp),he]
  have hlenA:=congrArg List.length hAe
  have hlenB:=congrArg List.length hBe
  rw[List.length_append]at hlenA hlenB
  obtain⟨R1,r1,r2,r3⟩:=left (A2++(B2++Q)) (by simp only[List.length_append];omega)
  have hR1:=r3.perm.length_eq
  rw[List.length_append]at hR1
  obtain⟨R2,q1,q2,q3⟩:=right (P++R1) (by rw[List.length_append];omega) (by simp only[List.length_append];omega)
  have hg:=glue hAs hBs c1 c2 r2 r3 q2 q3
  rw[hAe,hBe]at hg
  refine⟨R1++R2,close _ ?_ hg.2,hg.1,hg.2⟩
  have we:IntKind.i64.wrap (((P.length+h+(P.length+A.length):Nat):Int)-(s:Int))=((P.length+A.length+u:Nat):Int):=by rw[wrapI (by omega) (by omega)];omega
  rw[F57i,w1,if_neg (by omega),w2,if_neg (by omega),wm,wn,ho,Option.bind_some]
  simp only
  rw[l29_srch,g1,Option.bind_some,we,hrot,Option.bind_some,r1,Option.bind_some]
  rw[←List.append_assoc,q1,List.append_assoc,List.append_assoc]
open Go Go.Fw
set_option maxRecDepth 100000
set_option linter.unusedVariables false
set_option linter.unusedSimpArgs false
theorem stable_t{es:List GcAction}(hb:es.length≤24):F42 es (es.length:Int)=some (isr es):=by
 have big:(1099511627776:Nat)=1099511627774+1+1:=rfl
 have key:∃R,F42i es (es.length:Int)=some R∧Srt R∧Eqv es R:=by
  by_cases g:20≤es.length
  ·obtain⟨X,Y,hXY,hX⟩:∃X Y,es=X++Y∧X.length=20:=⟨es.take 20,es.drop 20,by simp,by rw[List.length_take];omega⟩
   have hYl:=congrArg List.length hXY
   rw[List.length_append]at hYl
   have s1:F56 es 0 20=some (isr X++Y):=by
    have:=insS_t (P:=[]) (es:=X) (Q:=Y) (xs:=es) (a:=0) (b:=20) (by rw[hXY];rfl) rfl (by simp[hX]) (by simp) (by omega)
    simpa using this
   have s2:F56 (isr X++Y) 20 (es.length:Int)=some (isr X++isr Y):=by
    have:=insS_t (P:=isr X) (es:=Y) (Q:=[]) (xs:=isr X++Y) (a:=20) (b:=(es.length:Int)) (by simp) (by rw[isr_len];omega) (by rw[isr_len];omega) (by rw[isr_len];omega) (by omega)
    simpa using this
   have hE:Eqv es (isr X++isr Y):=by rw[hXY];exact Eqv.app (isr_both X).2 (isr_both Y).2
   have h1:F42_l1 (es.length:Int) 1099511627776 es 0 20=some (isr X++Y,20):=by
    rw[big,F42_l1,if_pos (by omega),s1,Option.bind_some,show IntKind.i64.wrap (20+20)=40 from rfl,F42_l1,if_neg (by omega)]
   by_cases g2:20<es.length
   ·obtain⟨R,r1,r2,r3⟩:=sym_t 1000 1099511627776 (isr X) (isr Y) [] [] (isr X++isr Y) 0 20 (es.length:Int) (by rw[isr_len,isr_len];omega) (by omega) (by rw[isr_len];omega) (by rw[isr_len];omega) (by simp) (by rw[List.length_append,isr_len,isr_len];omega) rfl (by rw[isr_len];simp;omega) (by rw[isr_len,isr_len];simp;omega) (isr_both X).1 (isr_both Y).1
    rw[List.nil_append,List.append_nil]at r1
    refine⟨R,?_,r2,hE.tr r3⟩
    have h7:F42_l7 20 (es.length:Int) 1099511627776 (isr X++isr Y) 0 40=some (isr X++isr Y,0):=by
     rw[big,F42_l7,if_neg (by omega)]
    have h5:F42_l5 (es.length:Int) 1099511627776 (isr X++isr Y) 20=some R:=by
     conv=>lhs;arg 2;rw[show(1099511627776:Nat)=1099511627775+1 from rfl]
     rw[F42_l5,if_pos (by omega),show IntKind.i64.wrap (2*20)=40 from rfl,h7,Option.bind_some]
     simp only[show IntKind.i64.wrap (0+20)=20 from rfl,show IntKind.i64.wrap (20*2)=40 from rfl]
     rw[if_pos (by omega),r1]
     simp only[Option.bind_some]
     conv=>lhs;arg 2;rw[show(1099511627775:Nat)=1099511627774+1 from rfl]
     rw[F42_l5,if_neg (by omega)]
    rw[F42i,h1,Option.bind_some]
    simp only
    rw[s2,Option.bind_some,h5];rfl
   ·have hY:Y=[]:=List.length_eq_zero_iff.1 (by omega)
    subst hY
    refine⟨isr X++isr [],?_,?_,hE⟩
    ·have h5:F42_l5 (es.length:Int) 1099511627776 (isr X++isr []) 20=some (isr X++isr []):=by
      conv=>lhs;arg 2;rw[show(1099511627776:Nat)=1099511627775+1 from rfl]
      rw[F42_l5,if_neg (by omega)]
     rw[F42i,h1,Option.bind_some]
     simp only
     rw[s2,Option.bind_some,h5];rfl
    ·show Srt (isr X++[])
     rw[List.append_nil];exact(isr_both X).1
  ·refine⟨isr es,?_,(isr_both es).1,(isr_both es).2⟩
   have s1:F56 es 0 (es.length:Int)=some (isr es):=by
    have:=insS_t (P:=[]) (es:=es) (Q:=[]) (xs:=es) (a:=0) (b:=(es.length:Int)) (by simp) rfl (by simp) (by simp) (by omega)
    simpa using this
   have h1:F42_l1 (es.length:Int) 1099511627776 es 0 20=some (es,0):=by
    rw[big,F42_l1,if_neg (by omega)]
   have h5:F42_l5 (es.length:Int) 1099511627776 (isr es) 20=some (isr es):=by
    conv=>lhs;arg 2;rw[show(1099511627776:Nat)=1099511627775+1 from rfl]
    rw[F42_l5,if_neg (by omega)]
   rw[F42i,h1,Option.bind_some]
   simp only
   rw[s1,Option.bind_some,h5];rfl
 obtain⟨R,r1,r2,r3⟩:=key
 have he:R=isr es:=srt_uniq r2 (isr_both es).1 (r3.sy.tr (isr_both es).2)
 subst he
 rw[F42,r1,Option.bind_some,if_pos (isr_len es)]
theorem sortG_t{es:List GcAction}(hb:es.length≤24):F21 es=some (isr es):=by
 rw[F21,F21i,stable_t hb]
 simp only[Option.bind_some]
 rw[if_pos (isr_len es)]
open Go Go.Fw
set_option maxRecDepth 100000
set_option linter.unusedVariables false
set_option linter.unusedSimpArgs false
def hasB(l:List ByteArray)(k:ByteArray):Bool:=l.any fun y=>decide (y=k)
theorem index_l1(k:ByteArray):∀(l:List ByteArray) (i:Nat),(hasB l k=true∧∃j:Nat,F54_l1 k l i=some (.inl (j:Int)))∨(hasB l k=false∧F54_l1 k l i=some (.inr ()))
 |[],i=> .inr ⟨rfl,rfl⟩
 |y::l,i=>by
  rw[F54_l1]
  unfold hasB
  rw[List.any_cons]
  by_cases h:k=y
  ·rw[if_pos h];exact .inl ⟨by simp[h],i,rfl⟩
  ·rw[if_neg h]
   have h':decide (y=k)=false:=decide_eq_false fun e=>h e.symm
   rw[h',Bool.false_or]
   exact index_l1 k l (i+1)
theorem contains_t{l:List ByteArray}(k:ByteArray)(h:l.length≤4000000):F35 l k=some (hasB l k):=by
 unfold F35 F54
 rw[ck_t (by omega),Option.bind_some]
 rcases index_l1 k l 0 with⟨h1,j,h2⟩|⟨h1,h2⟩
 ·rw[h1,h2];simp
 ·rw[h1,h2];rfl
def kOrph:ByteArray:=⟨#[111,114,112,104,97,110,45,100,101,112,101,110,100,101,110,116,115]⟩
def kFore:ByteArray:=⟨#[102,111,114,101,103,114,111,117,110,100,45,100,101,108,101,116,105,111,110]⟩
def wtB(o:Object)(k:ByteArray):Bool:=o.Meta.Deleting&&hasB o.Meta.Finalizers k
def dlB(l:List Object)(u:Int)(k:ByteArray):Bool:=l.any fun o=>decide (o.Meta.Uid=u)&&wtB o k
def nedB(l:List Object)(u:Int)(b:Bool):Bool:=l.any fun o=>refB o u b
theorem fin_t{o:Object}(k:ByteArray)(h:o.Meta.Finalizers.length≤4000000):F41 k o=some (wtB o k):=by
 unfold F41 wtB
 cases hd:o.Meta.Deleting with
 |true=>rw[if_pos rfl,contains_t k h];rfl
 |false=>rfl
def V(m:List (Int×TState))(u:Int):TState:=(getM u m).getD ⟨false,false,false,false,false⟩
theorem getputT{α:Type}(k k':Int)(v:α):∀m:List (Int×α),getM k (putM k' v m)=if k'=k then some v else getM k m
 |[]=>by simp[putM,getM]
 |e::r=>by
  simp only[putM]
  by_cases h:e.1=k'
  ·rw[if_pos h]
   simp only[getM]
   by_cases h2:k'=k
   ·rw[if_pos h2,if_pos h2]
   ·rw[if_neg h2,if_neg h2,if_neg (by rw[h];exact h2)]
  ·rw[if_neg h]
   simp only[getM]
   by_cases h2:e.1=k
   ·rw[if_pos h2,if_pos h2,if_neg (fun e=>h (h2.trans e.symm))]
   ·rw[if_neg h2,if_neg h2]
    exact getputT k k' v r
theorem V_put(m:List (Int×TState))(k u:Int)(v:TState):V (putM k v m) u=if k=u then v else V m u:=by
 unfold V;rw[getputT];split<;>rfl
def orS(a b:TState):TState:=⟨a.exists_||b.exists_,a.orphans||b.orphans,a.foreground||b.foreground,a.depended||b.depended,a.blocked||b.blocked⟩
def st1(l:List Object)(u:Int):TState:=⟨exB l u,dlB l u kOrph,dlB l u kFore,false,false⟩
theorem states_l1:∀(l:List Object) (n:Nat) (m:List (Int×TState)),(∀o∈l,MW o.Meta)→∃m',F19_l1 l n m=some m'∧∀u,V m' u=orS (V m u) (st1 l u)
 |[],n,m,_=>⟨m,rfl,fun u=>by simp[orS,st1,exB,dlB]⟩
 |o::l,n,m,hm=>by
  have ho:=hm o (List.mem_cons_self ..)
  have e1:(if(((getM o.Meta.Uid m).getD (⟨false,false,false,false,false⟩:TState)).orphans)=true then some true else(if o.Meta.Deleting=true then(F35 o.Meta.Finalizers kOrph).bind fun t6=>some t6 else some false))=some ((V m o.Meta.Uid).orphans||wtB o kOrph):=by
   show(if(V m o.Meta.Uid).orphans=true then _ else _)=_
   cases h:(V m o.Meta.Uid).orphans with
   |true=>rfl
   |false=>
    rw[if_neg (by simp),Bool.false_or];unfold wtB
    cases hd:o.Meta.Deleting with
    |true=>rw[if_pos rfl,contains_t _ ho.fins];rfl
    |false=>rfl
  have e2:(if(((getM o.Meta.Uid m).getD (⟨false,false,false,false,false⟩:TState)).foreground)=true then some true else(if o.Meta.Deleting=true then(F35 o.Meta.Finalizers kFore).bind fun t6=>some t6 else some false))=some ((V m o.Meta.Uid).foreground||wtB o kFore):=by
   show(if(V m o.Meta.Uid).foreground=true then _ else _)=_
   cases h:(V m o.Meta.Uid).foreground with
   |true=>rfl
   |false=>
    rw[if_neg (by simp),Bool.false_or];unfold wtB
    cases hd:o.Meta.Deleting with
    |true=>rw[if_pos rfl,contains_t _ ho.fins];rfl
    |false=>rfl
  obtain⟨m',h1,h2⟩:=states_l1 l (n+1) (putM o.Meta.Uid ⟨true,(V m o.Meta.Uid).orphans||wtB o kOrph,(V m o.Meta.Uid).foreground||wtB o kFore,(V m o.Meta.Uid).depended,(V m o.Meta.Uid).blocked⟩ m) fun o ho=>hm o (List.mem_cons_of_mem _ ho)
  refine⟨m',?_,fun u=>?_⟩
  ·rw[F19_l1]
   unfold kOrph at e1
   unfold kFore at e2
   rw[e1,Option.bind_some,e2,Option.bind_some]
   exact h1
  ·rw[h2,V_put]
   by_cases h:o.Meta.Uid=u
   ·subst h
    rw[if_pos rfl]
    simp[orS,st1,exB,dlB,Bool.or_assoc]
   ·rw[if_neg h]
    simp[orS,st1,exB,dlB,h]
def st3(l:List Owner)(u:Int):TState:=⟨false,false,false,l.any (fun x=>decide (x.Uid=u)),l.any (fun x=>decide (x.Uid=u)&&x.Block)⟩
theorem states_l14:∀(l:List Owner) (n:Nat) (m:List (Int×TState)),∃m',F19_l14 l n m=some m'∧∀u,V m' u=orS (V m u) (st3 l u)
 |[],n,m=>⟨m,rfl,fun u=>by simp[orS,st3]⟩
 |x::l,n,m=>by
  have e1:(if(((getM x.Uid m).getD (⟨false,false,false,false,false⟩:TState)).blocked)=true then some true else some x.Block)=some ((V m x.Uid).blocked||x.Block):=by
   show(if(V m x.Uid).blocked=true then _ else _)=_
   cases h:(V m x.Uid).blocked<;>rfl
  obtain⟨m',h1,h2⟩:=states_l14 l (n+1) (putM x.Uid ⟨(V m x.Uid).exists_,(V m x.Uid).orphans,(V m x.Uid).foreground,true,(V m x.Uid).blocked||x.Block⟩ m)
  refine⟨m',?_,fun u=>?_⟩
  ·rw[F19_l14,e1,Option.bind_some];exact h1
  ·rw[h2,V_put]
   by_cases h:x.Uid=u
   ·subst h
    rw[if_pos rfl]
    simp[orS,st3,Bool.or_assoc]
   ·rw[if_neg h]
    simp[orS,st3,h]
def st2(l:List Object)(u:Int):TState:=⟨false,false,false,nedB l u false,nedB l u true⟩
theorem st2_cons(o:Object)(l:List Object)(u:Int):st2 (o::l) u=orS (st3 o.Meta.Owners u) (st2 l u):=by
 simp[st2,st3,orS,nedB,refB,nb]
theorem states_l12:∀(l:List Object) (n:Nat) (m:List (Int×TState)),(∀o∈l,MW o.Meta)→∃m',F19_l12 l n m=some m'∧∀u,V m' u=orS (V m u) (st2 l u)
 |[],n,m,_=>⟨m,rfl,fun u=>by simp[orS,st2,nedB]⟩
 |o::l,n,m,hm=>by
  have ho:=hm o (List.mem_cons_self ..)
  obtain⟨m1,a1,a2⟩:=states_l14 o.Meta.Owners 0 m
  obtain⟨m',h1,h2⟩:=states_l12 l (n+1) m1 fun o ho=>hm o (List.mem_cons_of_mem _ ho)
  have:=ho.owners
  refine⟨m',?_,fun u=>?_⟩
  ·rw[F19_l12,ck_t (by omega),Option.bind_some,a1,Option.bind_some];exact h1
  ·rw[h2,a2,st2_cons];simp[orS,Bool.or_assoc]
def stB(l:List Object)(u:Int):TState:=⟨exB l u,dlB l u kOrph,dlB l u kFore,nedB l u false,nedB l u true⟩
theorem states_t{l:List Object}(hm:∀o∈l,MW o.Meta)(hl:l.length≤4000000):∃m,F19 l=some m∧∀u,V m u=stB l u:=by
 obtain⟨m1,a1,a2⟩:=states_l1 l 0 [] hm
 obtain⟨m2,b1,b2⟩:=states_l12 l 0 m1 hm
 refine⟨m2,?_,fun u=>?_⟩
 ·unfold F19
  rw[ck_t (by omega),Option.bind_some,a1,Option.bind_some,Option.bind_some,b1];rfl
 ·rw[b2,a2];simp[orS,st1,st2,stB,V,getM]
theorem fnd_gen{G:List Owner→Nat→Option (Int ⊕ Unit)}{p:Owner→Bool}(h0:∀i,G [] i=some (.inr ()))(h1:∀x l i,G (x::l) i=if p x=true then some (.inl (i:Int))else G l (i+1)):∀(l:List Owner) (i:Nat),
 (∃(j:Nat) (x:Owner),l.find? p=some x∧l[j]? =some x∧G l i=some (.inl ((i+j:Nat):Int)))∨(l.find? p=none∧G l i=some (.inr ()))
 |[],i=> .inr ⟨rfl,h0 i⟩
 |x::l,i=>by
  rw[h1,List.find?_cons]
  cases hp:p x with
  |true=>exact .inl ⟨0,x,rfl,rfl,rfl⟩
  |false=>
   rcases fnd_gen h0 h1 l (i+1)with⟨j,y,q1,q2,q3⟩|⟨q1,q2⟩
   ·exact .inl ⟨j+1,y,q1,q2,by rw[if_neg (by simp),q3];congr 3;omega⟩
   ·exact .inr ⟨q1,by rw[if_neg (by simp),q2]⟩
def zOw:Owner:=⟨(⟨#[]⟩:ByteArray),(⟨#[]⟩:ByteArray),0,false,false⟩
def frs(p:Owner→Bool)(o:Object):Owner×Bool:=match o.Meta.Owners.find? p with|some x=>(x,true)|none=>(zOw,false)
theorem frs_gen{G:List Owner→Nat→Option (Int ⊕ Unit)}{p:Owner→Bool}{o:Object}(ho:o.Meta.Owners.length≤4000000)(h0:∀i,G [] i=some (.inr ()))(h1:∀x l i,G (x::l) i=if p x=true then some (.inl (i:Int))else G l (i+1)):
 ((((ck (0≤o.Meta.Owners.length∧o.Meta.Owners.length≤4294967290)).bind fun _=>G o.Meta.Owners 0:Option (Int ⊕ Unit)).bind fun o1=>match o1 with|Sum.inl f=>some f|Sum.inr _=>some (-1)).bind fun t1=>(if t1<0 then some (zOw,false)else(rdI o.Meta.Owners t1).bind fun y3=>some (y3,true)))=some (frs p o):=by
 rw[ck_t (by omega),Option.bind_some]
 unfold frs
 rcases fnd_gen h0 h1 o.Meta.Owners 0 with⟨j,x,q1,q2,q3⟩|⟨q1,q2⟩
 ·rw[q3,q1,Option.bind_some,Option.bind_some,if_neg (by omega),Nat.zero_add,rdI_val q2];rfl
 ·rw[q2,q1];rfl
theorem first0{o:Object}(ho:o.Meta.Owners.length≤4000000)(m:List (Int×TState)):F36 o m=some (frs (fun x=> !(V m x.Uid).exists_) o):=by
 refine frs_gen (G:=F55_l1 m) ho (fun i=>rfl) fun x l i=>?_
 rw[F55_l1]
 rfl
theorem first1{o:Object}(ho:o.Meta.Owners.length≤4000000)(m:List (Int×TState)):F36v1 o m=some (frs (fun x=>(V m x.Uid).exists_) o):=by
 refine frs_gen (G:=F55v1_l1 m) ho (fun i=>rfl) fun x l i=>?_
 rw[F55v1_l1]
 rfl
theorem first2{o:Object}(ho:o.Meta.Owners.length≤4000000)(m:List (Int×TState)):F36v2 o m=some (frs (fun x=>(V m x.Uid).orphans) o):=by
 refine frs_gen (G:=F55v2_l1 m) ho (fun i=>rfl) fun x l i=>?_
 rw[F55v2_l1]
 rfl
theorem first3{o:Object}(ho:o.Meta.Owners.length≤4000000)(m:List (Int×TState)):F36v3 o m=some (frs (fun x=>x.Block&&(V m x.Uid).foreground) o):=by
 refine frs_gen (G:=F55v3_l1 m) ho (fun i=>rfl) fun x l i=>?_
 rw[F55v3_l1,F40]
 cases hb:x.Block<;>rfl
def mss(l:List Object)(o:Object):Owner×Bool:=frs (fun x=> !exB l x.Uid) o
def liv(l:List Object)(o:Object):Bool:=o.Meta.Owners.any fun x=>exB l x.Uid
def orp(l:List Object)(o:Object):Owner×Bool:=frs (fun x=>dlB l x.Uid kOrph) o
def prp(l:List Object)(o:Object):Bool:=o.Meta.Owners.any fun x=>x.Block&&dlB l x.Uid kFore
def act(l:List Object)(o:Object):GcAction×Bool:=
 if(mss l o).2=true∧liv l o=true then(⟨3,keyB o.Meta,o.Meta.Uid,(mss l o).1.Uid,⟨#[]⟩⟩,true)
 else if(mss l o).2=true∧o.Meta.Deleting=false then(⟨1,keyB o.Meta,o.Meta.Uid,0,⟨#[]⟩⟩,true)
 else if(orp l o).2=true then(⟨3,keyB o.Meta,o.Meta.Uid,(orp l o).1.Uid,⟨#[]⟩⟩,true)
 else if o.Meta.Deleting=false∧prp l o=true then(⟨4,keyB o.Meta,o.Meta.Uid,0,⟨#[]⟩⟩,true)
 else if wtB o kOrph=true∧nedB l o.Meta.Uid false=false then(⟨2,keyB o.Meta,o.Meta.Uid,0,kOrph⟩,true)
 else if wtB o kFore=true∧nedB l o.Meta.Uid true=false then(⟨2,keyB o.Meta,o.Meta.Uid,0,kFore⟩,true)
 else(⟨0,⟨#[]⟩,0,0,⟨#[]⟩⟩,false)
theorem frs_any(p:Owner→Bool)(o:Object):(frs p o).2=o.Meta.Owners.any p:=by
 unfold frs
 cases h:o.Meta.Owners.find? p with
 |some x=>
  have h1:=List.find?_some h
  have h2:=List.mem_of_find?_eq_some h
  exact(List.any_eq_true.2 ⟨x,h2,h1⟩).symm
 |none=>
  rw[List.find?_eq_none]at h
  symm
  rw[List.any_eq_false]
  exact h
theorem action_t{l:List Object}{m:List (Int×TState)}(hV:∀u,V m u=stB l u){o:Object}(ho:MW o.Meta):F20 o m=some (act l o):=by
 have hV':∀u,(getM u m).getD (⟨false,false,false,false,false⟩:TState)=stB l u:=hV
 unfold F20
 rw[KeyOf_t ho.key,Option.bind_some,first0 ho.owners,Option.bind_some,first1 ho.owners,Option.bind_some,first2 ho.owners,Option.bind_some,first3 ho.owners,Option.bind_some]
 have f1:frs (fun x=> !(V m x.Uid).exists_) o=mss l o:=by unfold mss;congr 1;funext x;rw[hV];rfl
 have f2:(frs (fun x=>(V m x.Uid).exists_) o).2=liv l o:=by
  rw[frs_any];unfold liv;congr 1;funext x;rw[hV];rfl
 have f3:frs (fun x=>(V m x.Uid).orphans) o=orp l o:=by unfold orp;congr 1;funext x;rw[hV];rfl
 have f4:(frs (fun x=>x.Block&&(V m x.Uid).foreground) o).2=prp l o:=by
  rw[frs_any];unfold prp;congr 1;funext x;rw[hV];rfl
 rw[f1,f2,f3,f4,hV']
 have w1:=fin_t (o:=o) kOrph ho.fins
 have w2:=fin_t (o:=o) kFore ho.fins
 unfold kOrph at w1
 unfold kFore at w2
 rw[w1,w2]
 unfold act
 simp only[stB]
 have z1:wtB o ⟨#[111,114,112,104,97,110,45,100,101,112,101,110,100,101,110,116,115]⟩=wtB o kOrph:=rfl
 have z2:wtB o ⟨#[102,111,114,101,103,114,111,117,110,100,45,100,101,108,101,116,105,111,110]⟩=wtB o kFore:=rfl
 rw[z1,z2]
 cases hd:o.Meta.Deleting<;>cases h1:(mss l o).2<;>cases h2:liv l o<;>cases h3:(orp l o).2<;>cases h4:prp l o<;>cases h5:wtB o kOrph<;>cases h6:nedB l o.Meta.Uid false<;>cases h7:wtB o kFore<;>cases h8:nedB l o.Meta.Uid true<;>rfl
open Go Go.Fw
set_option maxRecDepth 100000
set_option linter.unusedVariables false
set_option linter.unusedSimpArgs false
def acts(l:List Object):List Object→List GcAction
 |[]=>[]
 |o::r=>if(act l o).2=true then(act l o).1::acts l r else acts l r
theorem acts_len(l:List Object):∀r,(acts l r).length≤r.length
 |[]=>Nat.le_refl _
 |o::r=>by have:=acts_len l r;unfold acts;split<;>simp<;>omega
theorem plan_l2{l:List Object}{m:List (Int×TState)}(hV:∀u,V m u=stB l u):∀(r:List Object) (n:Nat) (a:List GcAction),(∀o∈r,MW o.Meta)→a.length+r.length≤1000→F10_l2 m r n a=some (a++acts l r)
 |[],n,a,_,_=>by rw[F10_l2];simp[acts]
 |o::r,n,a,hm,hl=>by
  simp only[List.length_cons]at hl
  rw[F10_l2,action_t hV (hm o (List.mem_cons_self ..)),Option.bind_some]
  unfold acts
  cases h:(act l o).2 with
  |true=>
   rw[if_pos rfl,apI_t (by simp;omega)]
   simp only[Option.bind_some]
   rw[plan_l2 hV r (n+1) _ (fun o ho=>hm o (List.mem_cons_of_mem _ ho)) (by simp;omega)]
   simp
  |false=>
   rw[if_neg (by simp),Option.bind_some,plan_l2 hV r (n+1) a (fun o ho=>hm o (List.mem_cons_of_mem _ ho)) (by omega)]
   rfl
def planB(l:List Object):List GcAction:=isr (acts l l)
theorem plan_t{l:List Object}(hm:∀o∈l,MW o.Meta)(hl:l.length≤24):F10 l=some (planB l):=by
 obtain⟨m,m1,m2⟩:=states_t hm (by omega)
 have h:=acts_len l l
 unfold F10
 rw[m1,Option.bind_some,ck_t (by omega),Option.bind_some,plan_l2 m2 l 0 [] hm (by simp;omega),Option.bind_some,List.nil_append,sortG_t (by omega)]
 rfl
theorem planB_len(l:List Object):(planB l).length≤l.length:=by unfold planB;rw[isr_len];exact acts_len l l
open Go Go.Fw
set_option maxRecDepth 100000
set_option linter.unusedVariables false
set_option linter.unusedSimpArgs false
def wo(l:List ByteArray)(k:ByteArray):List ByteArray:=l.filter fun y=>decide (y≠k)
theorem without_l1(k:ByteArray):∀(l:List ByteArray) (n:Nat) (a:List ByteArray),a.length+l.length≤4000000→F33_l1 k l n a=some (a++wo l k)
 |[],n,a,_=>by rw[F33_l1];simp[wo]
 |y::l,n,a,h=>by
  simp only[List.length_cons]at h
  rw[F33_l1]
  unfold wo
  by_cases hy:y=k
  ·rw[if_neg (by simpa using hy),Option.bind_some,without_l1 k l (n+1) a (by omega),List.filter_cons,if_neg (by simpa using hy)];rfl
  ·rw[if_pos hy,apI_t (by simp;omega)]
   simp only[Option.bind_some]
   rw[without_l1 k l (n+1) _ (by simp;omega),List.filter_cons,if_pos (by simpa using hy)]
   simp[wo]
theorem without_t{l:List ByteArray}(k:ByteArray)(h:l.length≤4000000):F33 l k=some (wo l k):=by
 unfold F33
 rw[ck_t (by omega),Option.bind_some,without_l1 k l 0 [] (by simpa using h)];rfl
def okF(l:List ByteArray):Prop:=(∀y∈l,y=kOrph∨y=kFore)∧l.Nodup
structure Pl(l:List Object):Prop where
 pos:∀o∈l,0<o.Meta.Uid
 fin:∀o∈l,okF o.Meta.Finalizers
 dis:l.Pairwise fun a b=>a.Meta.Uid≠b.Meta.Uid∧keyB a.Meta≠keyB b.Meta
theorem plain_l13{l:List Object}(hm:∀o∈l,MW o.Meta)(hl:l.length≤1000000){o:Object}(ho:MW o.Meta)(n:Nat)(hn:n≤l.length):∀(m i k:Nat),n=i+m→m<k→
 F16_l13 n l o k (i:Int)=some (.inl (.inl false))∨F16_l13 n l o k (i:Int)=some (.inr ())∧∀j,i≤j→j<n→∀y,l[j]? =some y→y.Meta.Uid≠o.Meta.Uid∧keyB y.Meta≠keyB o.Meta
 |m,i,0,_,h=>by omega
 |0,i,k+1,h,_=>by
  refine .inr ⟨by rw[F16_l13,if_neg (by omega)],fun j h1 h2=>by omega⟩
 |m+1,i,k+1,h,hk=>by
  have hi:i<l.length:=by omega
  have hy:l[i]? =some l[i]:=List.getElem?_eq_getElem hi
  have hmy:=hm _ (List.getElem_mem hi)
  rw[F16_l13,if_pos (by omega),rdI_val hy,Option.bind_some]
  by_cases h1:(l[i]).Meta.Uid=o.Meta.Uid
  ·rw[if_pos h1];exact .inl rfl
  ·rw[if_neg h1,rKeyOf_t hmy.key,Option.bind_some,rKeyOf_t ho.key,Option.bind_some,Option.bind_some]
   by_cases h2:keyB (l[i]).Meta=keyB o.Meta
   ·rw[decide_eq_true h2];exact .inl rfl
   ·rw[decide_eq_false h2,if_neg (by simp),wrapN (by omega)]
    rcases plain_l13 hm hl ho n hn m (i+1) k (by omega) (by omega)with q|⟨q,q2⟩
    ·exact .inl q
    ·refine .inr ⟨q,fun j h3 h4 y hj=>?_⟩
     by_cases hji:j=i
     ·subst hji;rw[hy]at hj;cases hj;exact⟨h1,h2⟩
     ·exact q2 j (by omega) h4 y hj
theorem fin_ok{f:List ByteArray}(hf:f.length≤4000000):∃b,((F33 f kOrph).bind fun t5=>(F33 t5 kFore).bind fun t6=>(if 0<(t6.length:Int)then some true else(if 2<(f.length:Int)then some true else(if(f.length:Int)=2 then(rdI f 0).bind fun y10=>(rdI f 1).bind fun y11=>some (decide (y10=y11))else some false))))=some b∧(b=false→okF f):=by
 have h1:(wo f kOrph).length≤f.length:=List.length_filter_le _ _
 rw[without_t kOrph hf,Option.bind_some,without_t kFore (by omega),Option.bind_some]
 by_cases h2:0<((wo (wo f kOrph) kFore).length:Int)
 ·rw[if_pos h2];exact⟨_,rfl,by simp⟩
 ·rw[if_neg h2]
  have he:wo (wo f kOrph) kFore=[]:=List.length_eq_zero_iff.1 (by omega)
  have hk:∀y∈f,y=kOrph∨y=kFore:=fun y hy=>by
   by_cases hy1:y=kOrph
   ·exact .inl hy1
   ·by_cases hy2:y=kFore
    ·exact .inr hy2
    ·have:y∈wo (wo f kOrph) kFore:=List.mem_filter.2 ⟨List.mem_filter.2 ⟨hy,by simpa using hy1⟩,by simpa using hy2⟩
     rw[he]at this;cases this
  by_cases h3:2<(f.length:Int)
  ·rw[if_pos h3];exact⟨_,rfl,by simp⟩
  ·rw[if_neg h3]
   match f,h3,hk with
   |[],_,hk=>exact⟨false,by simp,fun _=>⟨hk,List.nodup_nil⟩⟩
   |[a],_,hk=>exact⟨false,by simp,fun _=>⟨hk,by simp⟩⟩
   |[a,b],_,hk=>
    refine⟨decide (a=b),?_,fun h=>⟨hk,?_⟩⟩
    ·rw[if_pos (by rfl)];rfl
    ·have:=of_decide_eq_false h
     simp[this]
   |a::b::c::r,h3,_=>simp at h3;omega
theorem plain_l1{l:List Object}(hm:∀o∈l,MW o.Meta)(hl:l.length≤1000000):∀(m i:Nat),l.length=i+m→F16_l1 l (l.drop i) i=some (.inl false)∨F16_l1 l (l.drop i) i=some (.inr ())∧(∀o∈l.drop i,0<o.Meta.Uid∧okF o.Meta.Finalizers)∧∀j a x y,i≤j→a<j→l[a]? =some x→l[j]? =some y→x.Meta.Uid≠y.Meta.Uid∧keyB x.Meta≠keyB y.Meta
 |0,i,h=>by
  rw[List.drop_of_length_le (by omega)]
  refine .inr ⟨rfl,(fun o ho=>by cases ho),fun j a x y h1 h2 h3 h4=>?_⟩
  have:=(List.getElem?_eq_some_iff.1 h4).1;omega
 |m+1,i,h=>by
  have hi:i<l.length:=by omega
  have hy:l[i]? =some l[i]:=List.getElem?_eq_getElem hi
  have hmy:=hm _ (List.getElem_mem hi)
  rw[List.drop_eq_getElem_cons hi,F16_l1]
  by_cases h1:(l[i]).Meta.Uid≤0
  ·rw[if_pos h1];exact .inl rfl
  ·rw[if_neg h1]
   obtain⟨b,b1,b2⟩:=fin_ok hmy.fins
   unfold kOrph kFore at b1
   rw[b1,Option.bind_some]
   cases b with
   |true=>exact .inl rfl
   |false=>
    rw[if_neg (by simp)]
    rcases plain_l13 hm hl hmy i (by omega) i 0 1099511627776 (by omega) (by omega)with q|⟨q,q2⟩
    ·rw[show((0:Nat):Int)=0 from rfl]at q
     rw[q];exact .inl rfl
    ·rw[show((0:Nat):Int)=0 from rfl]at q
     rw[q,Option.bind_some]
     rcases plain_l1 hm hl m (i+1) (by omega)with r1|⟨r1,s1,s2⟩
     ·exact .inl r1
     ·refine .inr ⟨r1,fun o ho=>?_,fun j a x y h3 h4 h5 h6=>?_⟩
      ·rcases List.mem_cons.1 ho with rfl|ho
       ·exact⟨by omega,b2 rfl⟩
       ·exact s1 o ho
      ·by_cases hji:j=i
       ·subst hji;rw[hy]at h6;cases h6
        exact q2 a (by omega) h4 x h5
       ·exact s2 j a x y (by omega) h4 h5 h6
theorem plain_t{l:List Object}(hm:∀o∈l,MW o.Meta)(hl:l.length≤1000000):∃b,F16 l=some b∧(b=true→Pl l):=by
 have h:=plain_l1 hm hl l.length 0 (by omega)
 rw[List.drop_zero]at h
 unfold F16
 rw[ck_t (by omega),Option.bind_some]
 rcases h with h|⟨h,s1,s2⟩
 ·rw[h];exact⟨false,rfl,by simp⟩
 ·rw[h]
  refine⟨true,rfl,fun _=>⟨fun o ho=>(s1 o ho).1,fun o ho=>(s1 o ho).2,List.pairwise_iff_getElem.2 fun i j hi hj hij=>?_⟩⟩
  exact s2 j i _ _ (Nat.zero_le _) hij (List.getElem?_eq_getElem hi) (List.getElem?_eq_getElem hj)
theorem act_key{l:List Object}{o:Object}(h:(act l o).2=true):(act l o).1.Key=keyB o.Meta∧(act l o).1.Uid=o.Meta.Uid:=by
 revert h
 unfold act
 repeat' split
 all_goals simp
theorem acts_mem{l:List Object}{z:GcAction}:∀{r:List Object},z∈acts l r↔∃o∈r,(act l o).2=true∧z=(act l o).1
 |[]=>by simp[acts]
 |o::r=>by
  unfold acts
  have ih:=acts_mem (l:=l) (z:=z) (r:=r)
  split
  ·rename_i h
   rw[List.mem_cons,ih]
   constructor
   ·rintro(e|⟨o',h1,h2⟩)
    ·exact⟨o,List.mem_cons_self ..,h,e⟩
    ·exact⟨o',List.mem_cons_of_mem _ h1,h2⟩
   ·rintro⟨o',h1,h2,h3⟩
    rcases List.mem_cons.1 h1 with rfl|h1
    ·exact .inl h3
    ·exact .inr ⟨o',h1,h2,h3⟩
  ·rename_i h
   rw[ih]
   constructor
   ·rintro⟨o',h1,h2⟩;exact⟨o',List.mem_cons_of_mem _ h1,h2⟩
   ·rintro⟨o',h1,h2,h3⟩
    rcases List.mem_cons.1 h1 with rfl|h1
    ·exact(h h2).elim
    ·exact⟨o',h1,h2,h3⟩
theorem plan_mem{l:List Object}{z:GcAction}:z∈planB l↔∃o∈l,(act l o).2=true∧z=(act l o).1:=by
 unfold planB
 rw[←(isr_both (acts l l)).2.perm.mem_iff,acts_mem]
open Go Go.Fw
set_option maxRecDepth 100000
set_option linter.unusedVariables false
set_option linter.unusedSimpArgs false
def updO(o:Object)(d:Bool)(ow:List Owner)(fi:List ByteArray):Object:=⟨(⟨o.Meta.Kind,o.Meta.Namespace,o.Meta.Name,o.Meta.Uid,o.Meta.Version,o.Meta.Generation,o.Meta.Created,d,o.Meta.DeleteAt,o.Meta.Labels,ow,fi,o.Meta.Managers⟩:Meta),o.Spec,o.Status⟩
def disO(l:List Owner)(u:Int):List Owner:=l.filter fun x=>decide (x.Uid≠u)
def carB(o:Object)(a:GcAction):Object×Bool:=
 if a.Kind=1 then(if o.Meta.Finalizers=[]then(o,false)else(updO o true o.Meta.Owners o.Meta.Finalizers,true))
 else if a.Kind=4 then(updO o true o.Meta.Owners (wo o.Meta.Finalizers kFore++[kFore]),true)
 else if a.Kind=2 then(if wo o.Meta.Finalizers a.Name=[]∧o.Meta.Deleting=true then(o,false)else(updO o o.Meta.Deleting o.Meta.Owners (wo o.Meta.Finalizers a.Name),true))
 else if a.Kind=3 then(updO o o.Meta.Deleting (disO o.Meta.Owners a.Owner) o.Meta.Finalizers,true)
 else(updO o o.Meta.Deleting o.Meta.Owners o.Meta.Finalizers,true)
theorem wo_len(l:List ByteArray)(k:ByteArray):(wo l k).length≤l.length:=List.length_filter_le _ _
theorem carry_l17(a:GcAction):∀(l:List Owner) (n:Nat) (r:List Owner),r.length+l.length≤4000000→F34_l17 a l n r=some (r++disO l a.Owner)
 |[],n,r,_=>by rw[F34_l17];simp[disO]
 |x::l,n,r,h=>by
  simp only[List.length_cons]at h
  rw[F34_l17]
  unfold disO
  by_cases hx:x.Uid=a.Owner
  ·rw[if_neg (by simpa using hx),Option.bind_some,carry_l17 a l (n+1) r (by omega),List.filter_cons,if_neg (by simpa using hx)];rfl
  ·rw[if_pos hx,apI_t (by simp;omega)]
   simp only[Option.bind_some]
   rw[carry_l17 a l (n+1) _ (by simp;omega),List.filter_cons,if_pos (by simpa using hx)]
   simp[disO]
theorem tv_eta(v:TValue):(⟨v.Kind,v.N,v.S,v.List_,v.Fields⟩:TValue)=v:=by cases v;rfl
theorem carry_t{o:Object}(ho:MW o.Meta)(a:GcAction):F34 o a=some (carB o a):=by
 have h1:=ho.fins
 have h2:=ho.owners
 have hw:=wo_len o.Meta.Finalizers kFore
 have e4:(F33 o.Meta.Finalizers ((⟨#[102,111,114,101,103,114,111,117,110,100,45,100,101,108,101,116,105,111,110]⟩:ByteArray)))=some (wo o.Meta.Finalizers kFore):=without_t kFore h1
 unfold F34
 by_cases k1:a.Kind=1
 ·by_cases hf:o.Meta.Finalizers=[]
  ·have hR:carB o a=(o,false):=by unfold carB;rw[if_pos k1,if_pos hf]
   rw[hR,if_pos k1,decide_eq_true k1,Option.bind_some,if_pos rfl,if_pos k1,hf]
   rfl
  ·have hR:carB o a=(updO o true o.Meta.Owners o.Meta.Finalizers,true):=by unfold carB;rw[if_pos k1,if_neg hf]
   have:¬((o.Meta.Finalizers.length:Int)=0):=fun h=>hf (List.length_eq_zero_iff.1 (by omega))
   rw[hR,if_pos k1,decide_eq_true k1,Option.bind_some,if_pos rfl,if_pos k1,decide_eq_false this]
   simp only[Option.bind_some]
   rw[if_neg (by simp),if_neg (by omega)]
   rfl
 ·by_cases k4:a.Kind=4
  ·have hR:carB o a=(updO o true o.Meta.Owners (wo o.Meta.Finalizers kFore++[kFore]),true):=by unfold carB;rw[if_neg k1,if_pos k4]
   rw[hR,if_neg k1,decide_eq_true k4,Option.bind_some,if_pos rfl,if_neg k1]
   simp only[Option.bind_some]
   rw[if_neg (by simp),if_pos k4,e4,Option.bind_some,apI_t (by simp;omega)]
   rfl
  ·rw[if_neg k1,decide_eq_false k4,Option.bind_some,if_neg (by simp)]
   by_cases k2:a.Kind=2
   ·rw[if_pos k2,without_t a.Name h1]
    simp only[Option.bind_some]
    by_cases hf:wo o.Meta.Finalizers a.Name=[]
    ·cases hd:o.Meta.Deleting with
     |true=>
      have hR:carB o a=(o,false):=by unfold carB;rw[if_neg k1,if_neg k4,if_pos k2,if_pos ⟨hf,hd⟩]
      rw[hR,hf];rfl
     |false=>
      have hR:carB o a=(updO o false o.Meta.Owners [],true):=by unfold carB;rw[if_neg k1,if_neg k4,if_pos k2,if_neg (by rw[hd];simp),hf,hd]
      rw[hR,hf];rfl
    ·have hR:carB o a=(updO o o.Meta.Deleting o.Meta.Owners (wo o.Meta.Finalizers a.Name),true):=by unfold carB;rw[if_neg k1,if_neg k4,if_pos k2,if_neg (fun h=>hf h.1)]
     have:¬(((wo o.Meta.Finalizers a.Name).length:Int)=0):=fun h=>hf (List.length_eq_zero_iff.1 (by omega))
     rw[hR,if_neg this,Option.bind_some,if_neg (by simp)]
     rfl
   ·rw[if_neg k2]
    by_cases k3:a.Kind=3
    ·have hR:carB o a=(updO o o.Meta.Deleting (disO o.Meta.Owners a.Owner) o.Meta.Finalizers,true):=by unfold carB;rw[if_neg k1,if_neg k4,if_neg k2,if_pos k3]
     rw[hR,if_pos k3,ck_t (by omega),Option.bind_some,carry_l17 a _ 0 [] (by simpa using h2)]
     rfl
    ·have hR:carB o a=(updO o o.Meta.Deleting o.Meta.Owners o.Meta.Finalizers,true):=by unfold carB;rw[if_neg k1,if_neg k4,if_neg k2,if_neg k3]
     rw[hR,if_neg k3];rfl
def mtB(o:Object)(z:GcAction):Bool:=decide (z.Key=keyB o.Meta)&&decide (z.Uid=o.Meta.Uid)
def rn1(o:Object)(p:List GcAction)(acc:Object×Bool):Object×Bool:=p.foldl (fun acc z=>if mtB o z=true then carB o z else acc) acc
theorem round_l4{o:Object}(ho:MW o.Meta):∀(p:List GcAction) (n:Nat) (x:Object) (b:Bool),F17_l4 o p n x b=some (rn1 o p (x,b))
 |[],n,x,b=>by
  rw[F17_l4]
  simp only[tv_eta]
  rfl
 |z::p,n,x,b=>by
  have e:((F30 o.Meta).bind fun t8=>(if z.Key=t8 then some (decide (z.Uid=o.Meta.Uid))else some false))=some (mtB o z):=by
   rw[rKeyOf_t ho.key,Option.bind_some]
   unfold mtB
   by_cases h:z.Key=keyB o.Meta
   ·rw[if_pos h,decide_eq_true h,Bool.true_and]
   ·rw[if_neg h,decide_eq_false h,Bool.false_and]
  rw[F17_l4,e,Option.bind_some]
  unfold rn1
  rw[List.foldl_cons]
  cases h:mtB o z with
  |true=>
   rw[if_pos rfl,carry_t ho,Option.bind_some]
   simp only[Option.bind_some,tv_eta]
   exact round_l4 ho p (n+1) (carB o z).1 (carB o z).2
  |false=>
   rw[if_neg (by simp)]
   simp only[Option.bind_some,tv_eta]
   exact round_l4 ho p (n+1) x b
theorem rn1_same{o:Object}{z0:GcAction}:∀{p:List GcAction} {acc:Object×Bool},(∀z∈p,mtB o z=true→z=z0)→rn1 o p acc=if p.any (mtB o)=true then carB o z0 else acc
 |[],acc,_=>rfl
 |z::p,acc,h=>by
  unfold rn1
  rw[List.foldl_cons,List.any_cons]
  have ih:=rn1_same (p:=p) (acc:=if mtB o z=true then carB o z else acc) fun w hw=>h w (List.mem_cons_of_mem _ hw)
  unfold rn1 at ih
  rw[ih]
  cases hz:mtB o z with
  |true=>
   rw[h z (List.mem_cons_self ..) hz]
   simp
  |false=>simp
def nxt(l:List Object)(o:Object):Object×Bool:=if(act l o).2=true then carB o (act l o).1 else(o,true)
def rndO(l:List Object):List Object→List Object
 |[]=>[]
 |o::r=>if(nxt l o).2=true then(nxt l o).1::rndO l r else rndO l r
structure Iv(l:List Object):Prop where
 len:l.length≤24
 mw:∀o∈l,MW o.Meta
 dis:l.Pairwise fun a b=>a.Meta.Uid≠b.Meta.Uid∧keyB a.Meta≠keyB b.Meta
theorem iv_uniq{l:List Object}(h:Iv l){x y:Object}(hx:x∈l)(hy:y∈l)(e:x.Meta.Uid=y.Meta.Uid):x=y:=by
 obtain⟨i,hi,rfl⟩:=List.mem_iff_getElem.1 hx
 obtain⟨j,hj,rfl⟩:=List.mem_iff_getElem.1 hy
 have hp:=List.pairwise_iff_getElem.1 h.dis
 by_cases h1:i<j
 ·exact((hp i j hi hj h1).1 e).elim
 ·by_cases h2:j<i
  ·exact((hp j i hj hi h2).1 e.symm).elim
  ·have:i=j:=by omega
   subst this;rfl
theorem rn_nxt{l:List Object}(h:Iv l){o:Object}(ho:o∈l):rn1 o (planB l) (o,true)=nxt l o:=by
 rw[rn1_same (z0:=(act l o).1) fun z hz hm=>by
  obtain⟨o',h1,h2,rfl⟩:=plan_mem.1 hz
  unfold mtB at hm
  rw[Bool.and_eq_true]at hm
  have:=of_decide_eq_true hm.2
  rw[(act_key h2).2]at this
  rw[iv_uniq h h1 ho this]]
 unfold nxt
 by_cases ha:(act l o).2=true
 ·rw[if_pos ha,if_pos]
  rw[List.any_eq_true]
  refine⟨(act l o).1,plan_mem.2 ⟨o,ho,ha,rfl⟩,?_⟩
  unfold mtB
  rw[(act_key ha).1,(act_key ha).2];simp
 ·rw[if_neg ha,if_neg]
  rw[List.any_eq_true]
  rintro⟨z,hz,hm⟩
  obtain⟨o',h1,h2,rfl⟩:=plan_mem.1 hz
  unfold mtB at hm
  rw[Bool.and_eq_true]at hm
  have:=of_decide_eq_true hm.2
  rw[(act_key h2).2]at this
  rw[iv_uniq h h1 ho this]at h2
  exact ha h2
theorem round_l1{l:List Object}(h:Iv l)(hp:(planB l).length≤4000000):∀(r:List Object) (n:Nat) (a:List Object),(∀o∈r,o∈l)→a.length+r.length≤1000→F17_l1 (planB l) r n a=some (a++rndO l r)
 |[],n,a,_,_=>by rw[F17_l1];simp[rndO]
 |o::r,n,a,hr,hb=>by
  simp only[List.length_cons]at hb
  have ho:=hr o (List.mem_cons_self ..)
  rw[F17_l1,ck_t (by omega),Option.bind_some,round_l4 (h.mw o ho),Option.bind_some,rn_nxt h ho]
  unfold rndO
  cases hq:(nxt l o).2 with
  |true=>
   rw[if_pos rfl,apI_t (by simp;omega)]
   simp only[Option.bind_some,tv_eta]
   refine Eq.trans (b:=some (a++[(nxt l o).1]++rndO l r)) (round_l1 h hp r (n+1) (a++[(nxt l o).1]) (fun o ho=>hr o (List.mem_cons_of_mem _ ho)) (by simp;omega)) ?_
   simp
  |false=>
   rw[if_neg (by simp),Option.bind_some,if_neg (by simp)]
   exact round_l1 h hp r (n+1) a (fun o ho=>hr o (List.mem_cons_of_mem _ ho)) (by omega)
theorem round_t{l:List Object}(h:Iv l):F17 l (planB l)=some (rndO l l):=by
 have h1:=planB_len l
 have h2:=h.len
 unfold F17
 rw[ck_t (by omega),Option.bind_some,round_l1 h (by omega) l 0 [] (fun o h=>h) (by simp;omega)]
 rfl
def mo(o:Object):Nat:=o.Meta.Owners.length+o.Meta.Finalizers.length+(if o.Meta.Deleting=true then 0 else 2)
def tot(l:List Object):Nat:=(l.map mo).sum
theorem frs_mem{p:Owner→Bool}{o:Object}(h:(frs p o).2=true):(frs p o).1∈o.Meta.Owners:=by
 unfold frs at h⊢
 cases hh:o.Meta.Owners.find? p with
 |some x=>exact List.mem_of_find?_eq_some hh
 |none=>rw[hh]at h;cases h
theorem dis_len{l:List Owner}{x:Owner}(h:x∈l):(disO l x.Uid).length+1≤l.length:=by
 unfold disO
 have:(l.filter fun y=>decide (y.Uid≠x.Uid)).length<l.length:=by
  rw[←List.countP_eq_length_filter]
  refine Nat.lt_of_le_of_ne List.countP_le_length fun e=>?_
  rw[List.countP_eq_length]at e
  have:=e x h
  simp at this
 omega
theorem wo_lt{l:List ByteArray}{k:ByteArray}(h:hasB l k=true):(wo l k).length+1≤l.length:=by
 unfold wo
 obtain⟨y,hy,e⟩:=List.any_eq_true.1 h
 have e:=of_decide_eq_true e
 have:(l.filter fun z=>decide (z≠k)).length<l.length:=by
  rw[←List.countP_eq_length_filter]
  refine Nat.lt_of_le_of_ne List.countP_le_length fun e2=>?_
  rw[List.countP_eq_length]at e2
  have:=e2 y hy
  simp[e]at this
 omega
theorem nxt_mo{l:List Object}{o:Object}(h:(act l o).2=true):1≤mo o∧((nxt l o).2=true→mo (nxt l o).1+1≤mo o):=by
 have key:∀z:GcAction,(act l o).1=z→1≤mo o∧((carB o z).2=true→mo (carB o z).1+1≤mo o):=by
  intro z hz
  revert h hz
  unfold act
  split
  ·rename_i h1
   intro _ hz;subst hz
   have hm:=frs_mem h1.1
   have:=dis_len hm
   unfold carB mo updO
   simp only[mss]
   refine⟨by omega,fun _=>?_⟩
   simp
   omega
  ·split
   ·rename_i h1
    intro _ hz;subst hz
    have hd:=h1.2
    unfold carB mo
    simp only[if_true]
    refine⟨by rw[if_neg (by simp[hd])];omega,?_⟩
    split
    ·simp
    ·intro _;simp[updO,hd]
   ·split
    ·rename_i h1
     intro _ hz;subst hz
     have hm:=frs_mem h1
     have:=dis_len hm
     unfold carB mo updO
     simp only[orp]
     refine⟨by omega,fun _=>?_⟩
     simp
     omega
    ·split
     ·rename_i h1
      intro _ hz;subst hz
      have hd:=h1.1
      have:=wo_len o.Meta.Finalizers kFore
      unfold carB mo updO
      refine⟨by rw[if_neg (by simp[hd])];omega,fun _=>?_⟩
      simp[hd]
      omega
     ·split
      ·rename_i h1
       intro _ hz;subst hz
       have hw:=h1.1
       unfold wtB at hw
       rw[Bool.and_eq_true]at hw
       have:=wo_lt hw.2
       unfold carB mo
       refine⟨by omega,?_⟩
       simp only[show¬((2:Int)=1)by decide,show¬((2:Int)=4)by decide,if_false,if_true]
       split
       ·simp
       ·intro _;simp[updO,hw.1];omega
      ·split
       ·rename_i h1
        intro _ hz;subst hz
        have hw:=h1.1
        unfold wtB at hw
        rw[Bool.and_eq_true]at hw
        have:=wo_lt hw.2
        unfold carB mo
        refine⟨by omega,?_⟩
        simp only[show¬((2:Int)=1)by decide,show¬((2:Int)=4)by decide,if_false,if_true]
        split
        ·simp
        ·intro _;simp[updO,hw.1];omega
       ·intro h;simp at h
 unfold nxt
 rw[if_pos h]
 exact key _ rfl
theorem nxt_le{l:List Object}{o:Object}(h:(nxt l o).2=true):mo (nxt l o).1≤mo o:=by
 by_cases ha:(act l o).2=true
 ·have:=(nxt_mo ha).2 h;omega
 ·unfold nxt;rw[if_neg ha];exact Nat.le_refl _
theorem rnd_tot{l:List Object}:∀r:List Object,tot (rndO l r)≤tot r∧((∃o∈r,(act l o).2=true)→tot (rndO l r)+1≤tot r)
 |[]=>⟨Nat.le_refl _,by simp⟩
 |o::r=>by
  obtain⟨h1,h2⟩:=rnd_tot (l:=l) r
  have ht:tot (o::r)=mo o+tot r:=by simp[tot]
  unfold rndO
  by_cases hq:(nxt l o).2=true
  ·have h3:=nxt_le hq
   have ht2:tot ((nxt l o).1::rndO l r)=mo (nxt l o).1+tot (rndO l r):=by simp[tot]
   rw[if_pos hq,ht,ht2]
   refine⟨by omega,?_⟩
   rintro⟨x,hx,ha⟩
   rcases List.mem_cons.1 hx with rfl|hx
   ·have:=(nxt_mo ha).2 hq;omega
   ·have:=h2 ⟨x,hx,ha⟩;omega
  ·rw[if_neg hq,ht]
   refine⟨by omega,?_⟩
   rintro⟨x,hx,ha⟩
   have h4:1≤mo o:=by
    by_cases hb:(act l o).2=true
    ·exact(nxt_mo hb).1
    ·exfalso;apply hq;unfold nxt;rw[if_neg hb]
   omega
theorem tot_mem{o:Object}:∀{l:List Object},o∈l→mo o≤tot l
 |x::l,h=>by
  have ht:tot (x::l)=mo x+tot l:=by simp[tot]
  rcases List.mem_cons.1 h with rfl|h
  ·omega
  ·have:=tot_mem h;omega
theorem car_same(o:Object)(z:GcAction):(carB o z).1.Meta.Kind=o.Meta.Kind∧(carB o z).1.Meta.Namespace=o.Meta.Namespace∧(carB o z).1.Meta.Name=o.Meta.Name∧(carB o z).1.Meta.Uid=o.Meta.Uid∧(carB o z).1.Meta.Labels=o.Meta.Labels∧(carB o z).1.Meta.Managers=o.Meta.Managers:=by
 unfold carB
 repeat' split
 all_goals exact⟨rfl,rfl,rfl,rfl,rfl,rfl⟩
theorem nxt_same(l:List Object)(o:Object):(nxt l o).1.Meta.Kind=o.Meta.Kind∧(nxt l o).1.Meta.Namespace=o.Meta.Namespace∧(nxt l o).1.Meta.Name=o.Meta.Name∧(nxt l o).1.Meta.Uid=o.Meta.Uid∧(nxt l o).1.Meta.Labels=o.Meta.Labels∧(nxt l o).1.Meta.Managers=o.Meta.Managers:=by
 unfold nxt
 split
 ·exact car_same o _
 ·exact⟨rfl,rfl,rfl,rfl,rfl,rfl⟩
theorem nxt_key(l:List Object)(o:Object):keyB (nxt l o).1.Meta=keyB o.Meta:=by
 obtain⟨h1,h2,h3,_⟩:=nxt_same l o
 unfold keyB;rw[h1,h2,h3]
theorem rnd_mem{l:List Object}{x:Object}:∀{r:List Object},x∈rndO l r→∃o∈r,(nxt l o).2=true∧x=(nxt l o).1
 |o::r,h=>by
  unfold rndO at h
  split at h
  ·rename_i hq
   rcases List.mem_cons.1 h with rfl|h
   ·exact⟨o,List.mem_cons_self ..,hq,rfl⟩
   ·obtain⟨o',h1,h2⟩:=rnd_mem h;exact⟨o',List.mem_cons_of_mem _ h1,h2⟩
  ·obtain⟨o',h1,h2⟩:=rnd_mem h;exact⟨o',List.mem_cons_of_mem _ h1,h2⟩
theorem rnd_len{l:List Object}:∀r:List Object,(rndO l r).length≤r.length
 |[]=>Nat.le_refl _
 |o::r=>by have:=rnd_len (l:=l) r;unfold rndO;split<;>simp<;>omega
theorem rnd_dis{l:List Object}:∀{r:List Object},(r.Pairwise fun a b=>a.Meta.Uid≠b.Meta.Uid∧keyB a.Meta≠keyB b.Meta)→(rndO l r).Pairwise fun a b=>a.Meta.Uid≠b.Meta.Uid∧keyB a.Meta≠keyB b.Meta
 |[],_=>List.Pairwise.nil
 |o::r,h=>by
  have h2:=List.pairwise_cons.1 h
  unfold rndO
  split
  ·refine List.pairwise_cons.2 ⟨fun x hx=>?_,rnd_dis h2.2⟩
   obtain⟨o',h3,_,rfl⟩:=rnd_mem hx
   rw[(nxt_same l o).2.2.2.1,(nxt_same l o').2.2.2.1,nxt_key,nxt_key]
   exact h2.1 o' h3
  ·exact rnd_dis h2.2
theorem rnd_iv{l:List Object}(h:Iv l)(ht:tot l≤4000000):Iv (rndO l l):=by
 refine⟨Nat.le_trans (rnd_len l) h.len,fun x hx=>?_,rnd_dis h.dis⟩
 obtain⟨o,h1,h2,rfl⟩:=rnd_mem hx
 have hw:=h.mw o h1
 obtain⟨e1,e2,e3,e4,e5,e6⟩:=nxt_same l o
 have hmo:mo (nxt l o).1≤4000000:=Nat.le_trans (nxt_le h2) (Nat.le_trans (tot_mem h1) ht)
 unfold mo at hmo
 exact⟨by rw[e1,e2,e3];exact hw.key,by rw[e5];exact hw.labels,by omega,by omega,by rw[e6];exact hw.mans,by rw[e6];exact hw.man⟩
theorem ends_l13:∀(N k:Nat) (l:List Object) (n:Int),Iv l→tot l≤N→N<k→N≤4000000→(tot l:Int)≤n→n≤4000000→∃l',F5_l13 k l n (planB l)=some (l',planB l')∧Iv l'∧planB l'=[]
 |N,0,l,n,_,_,h,_,_,_=>by omega
 |N,k+1,l,n,hI,hN,hk,hb,hn,hn2=>by
  rw[F5_l13]
  by_cases hp:planB l=[]
  ·refine⟨l,?_,hI,hp⟩
   rw[if_neg (by rw[hp];simp),Option.bind_some,if_neg (by simp)]
  ·have hpos:0<(planB l).length:=List.length_pos_iff.2 hp
   obtain⟨z,hz⟩:=List.exists_mem_of_ne_nil _ hp
   obtain⟨o,h1,h2,_⟩:=plan_mem.1 hz
   have ht:=(rnd_tot (l:=l) l).2 ⟨o,h1,h2⟩
   have hI2:=rnd_iv hI (by omega)
   rw[if_pos (by omega),Option.bind_some,decide_eq_true (by omega),if_pos rfl,round_t hI,Option.bind_some,plan_t hI2.mw hI2.len,Option.bind_some,wrapI (by omega) (by omega)]
   exact ends_l13 (N-1) k _ _ hI2 (by omega) (by omega) (by omega) (by omega) (by omega)
theorem ends_l9:∀(l:List Object) (n:Nat) (a:Int),0≤a→a+(l.map fun o=>o.Meta.Owners.length+o.Meta.Finalizers.length).sum≤4000000→F5_l9 l n a=some (a+(l.map fun o=>o.Meta.Owners.length+o.Meta.Finalizers.length).sum)
 |[],n,a,_,_=>by rw[F5_l9];simp
 |o::l,n,a,h,h2=>by
  simp only[List.map_cons,List.sum_cons]at h2⊢
  rw[F5_l9,wrapI (n:=a+_) (by omega) (by omega),wrapI (by omega) (by omega),ends_l9 l (n+1) _ (by omega) (by omega)]
  congr 1;omega
theorem ends_l26{o:Object}{w:Owner}{k:Nat}(hw:o.Meta.Owners[k]? =some w):∀(l:List Object) (n:Nat) (b:Bool),F5_l26 (k:Int) o l n b=some (b&&l.all fun y=>decide (y.Meta.Uid≠w.Uid))
 |[],n,b=>by rw[F5_l26];simp
 |y::l,n,b=>by
  rw[F5_l26,rdI_val hw]
  cases b with
  |true=>rw[if_pos rfl,Option.bind_some,Option.bind_some,ends_l26 hw l (n+1),List.all_cons,Bool.true_and]
  |false=>rw[if_neg (by simp),Option.bind_some,ends_l26 hw l (n+1)];simp
theorem ends_l24{o13:List Object×List GcAction}(hl:o13.1.length≤1000000){o:Object}(ho:o.Meta.Owners.length≤4000000):∀(m i k:Nat) (b:Bool),o.Meta.Owners.length=i+m→m<k→F5_l24 o13 o k b (i:Int)=some (b&&(o.Meta.Owners.drop i).all fun w=>o13.1.all fun y=>decide (y.Meta.Uid≠w.Uid))
 |m,i,0,b,_,h=>by omega
 |0,i,k+1,b,h,_=>by rw[F5_l24,if_neg (by omega),List.drop_of_length_le (by omega)];simp
 |m+1,i,k+1,b,h,hk=>by
  have hi:i<o.Meta.Owners.length:=by omega
  rw[F5_l24,if_pos (by omega),ck_t (by omega),Option.bind_some,ends_l26 (List.getElem?_eq_getElem hi),Option.bind_some,wrapN (by omega),ends_l24 hl ho m (i+1) k _ (by omega) (by omega),List.drop_eq_getElem_cons hi,List.all_cons,Bool.and_assoc]
theorem ends_l20{o13:List Object×List GcAction}(hl:o13.1.length≤1000000):∀(r:List Object) (n:Nat),(∀o∈r,o.Meta.Owners.length≤4000000∧¬(o.Meta.Owners≠[]∧o.Meta.Deleting=false∧(o.Meta.Owners.all fun w=>o13.1.all fun y=>decide (y.Meta.Uid≠w.Uid))=true))→F5_l20 o13 r n=some (.inr ())
 |[],n,_=>rfl
 |o::r,n,h=>by
  obtain⟨h1,h2⟩:=h o (List.mem_cons_self ..)
  have e:(if 0<(o.Meta.Owners.length:Int)then some (nb o.Meta.Deleting)else some false)=some (decide (0<o.Meta.Owners.length)&& !o.Meta.Deleting):=by
   by_cases h0:0<o.Meta.Owners.length
   ·rw[if_pos (by omega),decide_eq_true h0,Bool.true_and];rfl
   ·rw[if_neg (by omega),decide_eq_false h0,Bool.false_and]
  have h24:=ends_l24 hl h1 o.Meta.Owners.length 0 1099511627776 (decide (0<o.Meta.Owners.length)&& !o.Meta.Deleting) (by omega) (by omega)
  rw[List.drop_zero,show((0:Nat):Int)=0 from rfl]at h24
  rw[F5_l20,e,Option.bind_some,h24,Option.bind_some,if_neg]
  ·exact ends_l20 hl r (n+1) fun o ho=>h o (List.mem_cons_of_mem _ ho)
  ·intro hh
   simp only[Bool.and_eq_true,decide_eq_true_eq,Bool.not_eq_true']at hh
   refine h2 ⟨fun e=>?_,hh.1.2,hh.2⟩
   rw[e]at hh;simp at hh
theorem lost_act{l:List Object}{o:Object}(h1:o.Meta.Owners≠[])(h2:o.Meta.Deleting=false)(h3:(o.Meta.Owners.all fun w=>l.all fun y=>decide (y.Meta.Uid≠w.Uid))=true):(act l o).2=true:=by
 have hex:∀w∈o.Meta.Owners,exB l w.Uid=false:=fun w hw=>by
  have:=List.all_eq_true.1 h3 w hw
  unfold exB
  rw[List.any_eq_false]
  intro y hy
  have:=List.all_eq_true.1 this y hy
  simpa using this
 have hm:(mss l o).2=true:=by
  unfold mss
  rw[frs_any,List.any_eq_true]
  obtain⟨w,hw⟩:=List.exists_mem_of_ne_nil _ h1
  exact⟨w,hw,by rw[hex w hw];rfl⟩
 unfold act
 split
 ·rfl
 ·rw[if_pos ⟨hm,h2⟩]
theorem GcEnds_pure:GcEnds.Pure:=by
 intro l _ hw
 obtain⟨hl,hm⟩:=lW (l:=l) (by omega)
 unfold F5
 rcases heavy_t (l:=l) (by omega)with h|⟨h,hL⟩
 ·rw[h,Option.bind_some,if_pos rfl,Option.bind_some,if_pos rfl,awake_t];rfl
 ·have h24:=hL.len
  obtain⟨b,b1,b2⟩:=plain_t hm (by omega)
  rw[h,Option.bind_some,if_neg (by simp),b1,Option.bind_some]
  cases b with
  |false=>rw[if_pos (show nb false=true from rfl),Option.bind_some,if_pos rfl,awake_t];rfl
  |true=>
   have hP:=b2 rfl
   rw[if_neg (by simp[nb]),acy_t hL,Option.bind_some,Option.bind_some]
   cases hc:acL (acR l).length (acR l)with
   |false=>rw[if_pos (show nb false=true from rfl),awake_t];rfl
   |true=>
    rw[if_neg (by simp[nb])]
    have hI:Iv l:=⟨h24,hm,hP.dis⟩
    have hs:∀r:List Object,(∀o∈r,o.Meta.Owners.length≤20∧o.Meta.Finalizers.length≤20)→(r.map fun o=>o.Meta.Owners.length+o.Meta.Finalizers.length).sum≤40*r.length∧tot r≤(r.map fun o=>o.Meta.Owners.length+o.Meta.Finalizers.length).sum+2*r.length:=by
     intro r
     induction r with
     |nil=>intro _;simp[tot]
     |cons o r ih=>
      intro h
      obtain⟨i1,i2⟩:=ih fun o ho=>h o (List.mem_cons_of_mem _ ho)
      have:=h o (List.mem_cons_self ..)
      have ht:tot (o::r)=mo o+tot r:=by simp[tot]
      have hmo:mo o≤o.Meta.Owners.length+o.Meta.Finalizers.length+2:=by unfold mo;split<;>omega
      simp only[List.map_cons,List.sum_cons,List.length_cons]
      omega
    obtain⟨s1,s2⟩:=hs l hL.own
    have w4:IntKind.i64.wrap (4*(l.length:Int))=4*(l.length:Int):=wrapI (by omega) (by omega)
    rw[ck_t (by omega),Option.bind_some,w4,ends_l9 l 0 _ (by omega) (by omega),Option.bind_some,plan_t hm h24,Option.bind_some]
    obtain⟨l',e1,e2,e3⟩:=ends_l13 4000000 1099511627776 l (4*(l.length:Int)+(l.map fun o=>o.Meta.Owners.length+o.Meta.Finalizers.length).sum) hI (by omega) (by omega) (by omega) (by omega) (by omega)
    rw[e1,Option.bind_some]
    have h24':=e2.len
    simp only
    rw[e3,if_neg (by simp),ck_t (by omega),Option.bind_some,ends_l20 (by simp only;omega) l' 0 (fun o ho=>⟨(e2.mw o ho).owners,fun hh=>?_⟩)]
    ·simp only[Option.bind_some]
     rw[awake_t];rfl
    ·have ha:=lost_act (l:=l') hh.1 hh.2.1 hh.2.2
     have:(act l' o).1∈planB l':=plan_mem.2 ⟨o,ho,ha,rfl⟩
     rw[e3]at this;cases this
end Go.Proofs.Ytdejhahgpojnoaa
