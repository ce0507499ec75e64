/- The plain law. -/
import Derived.Test.YtdejhahgpojnoaaBP
import Derived.Test.YtdejhahgpojnoaaFP
import Derived.KernelRfl
set_option linter.unusedVariables false
set_option linter.unusedSimpArgs false
namespace Go.Proofs.Ytdejhahgpojnoaa
open Go Go.Fw
set_option maxRecDepth 100000
set_option linter.unusedVariables false
set_option linter.unusedSimpArgs false
section
variable {α:Type}
end
theorem rdI_val{α:Type}{l:List α}{i:Nat}{y:α}(h:l[i]? =some y):rdI l (i:Int)=some y:=by rw[rdI_nat];exact h
theorem catI_t{a b:ByteArray}(h:a.size+b.size≤9223372036854775807):catI a b=some (a++b):=if_pos h
theorem bsize(a b:ByteArray):(a++b).size=a.size+b.size:=ByteArray.size_append
theorem wL_mem{α:Type}{w:α→Nat}{x:α}:∀{l:List α},x∈l→w x+1≤wL w l
 |[],h=>by cases h
 |y::l,h=>by
  unfold wL
  simp only[List.map_cons,List.sum_cons]
  rcases List.mem_cons.1 h with rfl|h
  ·omega
  ·have:=wL_mem (w:=w) h;unfold wL at this;omega
open Go Go.Fw
set_option maxRecDepth 100000
set_option linter.unusedVariables false
set_option linter.unusedSimpArgs false
def keyB(m:Meta):ByteArray:=(((m.Kind++(⟨#[47]⟩:ByteArray))++m.Namespace)++(⟨#[47]⟩:ByteArray))++m.Name
theorem sl1:(⟨#[47]⟩:ByteArray).size=1:=rfl
theorem KeyOf_t{m:Meta}(h:m.Kind.size+m.Namespace.size+m.Name.size≤4000000):F26 m=some (keyB m):=by
 rw[F26,F49,catI_t (by rw[sl1];omega),Option.bind_some,catI_t (by rw[bsize,sl1];omega),Option.bind_some,catI_t (by rw[bsize,bsize,sl1];omega),Option.bind_some,catI_t (by rw[bsize,bsize,bsize,sl1];omega)]
 rfl
theorem rKeyOf_t{m:Meta}(h:m.Kind.size+m.Namespace.size+m.Name.size≤4000000):F30 m=some (keyB m):=KeyOf_t h
structure MW(m:Meta):Prop where
 key:m.Kind.size+m.Namespace.size+m.Name.size≤4000000
 labels:m.Labels.length≤4000000
 owners:m.Owners.length≤4000000
 fins:m.Finalizers.length≤4000000
 mans:m.Managers.length≤4000000
 man:∀x∈m.Managers,x.Fields.length≤4000000
theorem mW{m:Meta}(h:wMeta m≤4000000):MW m:=by
 unfold wMeta at h
 have a1:=wL_len (w:=wLabel) (fun a=>by unfold wLabel;omega) m.Labels
 have a2:=wL_len (w:=wOwner) (fun a=>by unfold wOwner;omega) m.Owners
 have a3:=wL_len (w:=wS) (fun a=>by unfold wS;omega) m.Finalizers
 have a4:=wL_len (w:=wManager) (fun a=>by unfold wManager;omega) m.Managers
 refine⟨?_,by omega,by omega,by omega,by omega,fun x hx=>?_⟩
 ·unfold wS at h;omega
 ·have b1:=wL_mem (w:=wManager) hx
  unfold wManager at b1
  have b2:=wL_len (w:=wS) (fun a=>by unfold wS;omega) x.Fields
  unfold wManager at h
  omega
theorem bless_lt:∀x y:List UInt8,Op.bytesLess x y=decide (x<y)
 |[],[]=>by simp[Op.bytesLess]
 |[],b::y=>by simp[Op.bytesLess]
 |a::x,[]=>by simp[Op.bytesLess]
 |a::x,b::y=>by
  rw[Op.bytesLess,bless_lt x y,Bool.eq_iff_iff]
  simp only[Bool.or_eq_true,decide_eq_true_eq,Bool.and_eq_true,beq_iff_eq,List.cons_lt_cons_iff]
theorem toList_bl(b:ByteArray):b.toList=bl b:=by
 rw[show bl b=b.data.toList from rfl];exact Go.ByteArray.toList_eq b
theorem lt_bl(a b:ByteArray):lt a b↔bl a<bl b:=by
 unfold lt;rw[toList_bl,toList_bl,bless_lt];simp
theorem sortL_perm(xs:List ByteArray):(sortL xs).Perm xs:=by
 have h:=(List.mergeSort_perm (xs.map bl) (fun x y=>decide (x≤y))).map lb
 rw[List.map_map]at h
 have e:xs.map (lb∘bl)=xs:=by
  have:(lb∘bl)=id:=funext lb_bl
  rw[this,List.map_id]
 rw[e]at h;rw[sortL_eq];exact h
theorem sortL_mem(z:ByteArray)(xs:List ByteArray):z∈sortL xs↔z∈xs:=(sortL_perm xs).mem_iff
theorem sortL_pw(xs:List ByteArray):(sortL xs).Pairwise fun a b=>¬lt b a:=by
 have h:=List.pairwise_mergeSort (le:=fun x y:List UInt8=>decide (x≤y)) (fun a b c h1 h2=>by simp only[decide_eq_true_eq]at*;exact List.le_trans h1 h2) (fun a b=>by simp only[Bool.or_eq_true,decide_eq_true_eq];exact List.le_total a b) (xs.map bl)
 rw[sortL_eq,List.pairwise_map]
 refine h.imp fun{a b} hab=>?_
 rw[lt_bl,bl_lb,bl_lb]
 simp only[decide_eq_true_eq]at hab
 exact List.not_lt.2 hab
def keep(xs:List ByteArray)(j:Nat):Bool:=j==0||decide (xs[j]?≠xs[j-1]?)
theorem compL_eq(xs:List ByteArray):compL xs=((List.range xs.length).filter (keep xs)).filterMap (xs[·]?):=by
 have hk:∀j∈List.range xs.length,Lib.keeps (xs.map bl).toArray j=keep xs j:=by
  intro j hj
  have hj:=List.mem_range.1 hj
  unfold Lib.keeps keep
  by_cases h0:j=0
  ·simp[h0]
  ·have h1:j-1<xs.length:=by omega
   rw[getElem!_pos _ j (by simpa using hj),getElem!_pos _ (j-1) (by simpa using h1),List.getElem?_eq_getElem hj,List.getElem?_eq_getElem h1]
   simp only[List.getElem_toArray,List.getElem_map,ne_eq,Option.some.injEq]
   have:(bl xs[j]=bl xs[j-1])↔xs[j]=xs[j-1]:=⟨fun e=>by rw[←lb_bl xs[j],e,lb_bl],fun e=>by rw[e]⟩
   simp[this,h0]
 unfold compL Lib.compact Lib.compactUpTo
 rw[List.length_map,List.filter_congr hk,List.map_map]
 rw[←List.filterMap_eq_map]
 have fc:∀(l:List Nat) (f g:Nat→Option ByteArray),(∀j∈l,f j=g j)→l.filterMap f=l.filterMap g:=by
  intro l f g
  induction l with
  |nil=>intro _;rfl
  |cons x l ih=>
   intro h
   rw[List.filterMap_cons,List.filterMap_cons,h x (List.mem_cons_self ..),ih fun j hj=>h j (List.mem_cons_of_mem _ hj)]
 refine fc _ _ _ fun j hj=>?_
 have hj:=List.mem_range.1 (List.mem_filter.1 hj).1
 simp only[Function.comp]
 rw[getElem!_pos _ j (by simpa using hj),List.getElem?_eq_getElem hj]
 simp[lb_bl]
theorem compL_mem(z:ByteArray)(xs:List ByteArray):z∈compL xs↔z∈xs:=by
 rw[compL_eq,List.mem_filterMap]
 constructor
 ·rintro⟨j,_,h⟩;exact List.mem_of_getElem? h
 ·intro h
  obtain⟨i,hi,e⟩:=List.mem_iff_getElem.1 h
  have key:∀i,xs[i]? =some z→∃j,j≤i∧xs[j]? =some z∧keep xs j=true:=by
   intro i
   induction i with
   |zero=>intro h;exact⟨0,Nat.le_refl _,h,rfl⟩
   |succ i ih=>
    intro h
    by_cases hp:xs[i]? =some z
    ·obtain⟨j,h1,h2⟩:=ih hp;exact⟨j,by omega,h2⟩
    ·exact⟨i+1,Nat.le_refl _,h,by unfold keep;rw[h,Nat.add_sub_cancel];simp[Ne.symm hp]⟩
  obtain⟨j,h1,h2,h3⟩:=key i (by rw[List.getElem?_eq_getElem hi,e])
  exact⟨j,List.mem_filter.2 ⟨List.mem_range.2 (by omega),h3⟩,h2⟩
theorem compL_pw{xs:List ByteArray}(h:xs.Pairwise fun a b=>¬lt b a):(compL xs).Pairwise lt:=by
 rw[compL_eq,List.pairwise_filterMap]
 have hr:((List.range xs.length).filter (keep xs)).Pairwise (·<·):=List.pairwise_lt_range.filter _
 refine List.Pairwise.imp_of_mem (fun{j k} hj hk hjk=>?_) hr
 intro a ha b hb
 have hkk:=(List.mem_filter.1 hk).2
 have hp:=List.pairwise_iff_getElem.1 h
 obtain⟨hjl,ea⟩:=List.getElem?_eq_some_iff.1 ha
 obtain⟨hkl,eb⟩:=List.getElem?_eq_some_iff.1 hb
 have h1:¬lt b a:=by rw[←ea,←eb];exact hp j k hjl hkl hjk
 refine lt_of_not h1 fun e=>?_
 unfold keep at hkk
 have hk0:k≠0:=by omega
 simp only[Bool.or_eq_true,beq_iff_eq,hk0,false_or,decide_eq_true_eq]at hkk
 apply hkk
 have hk1:k-1<xs.length:=by omega
 rw[List.getElem?_eq_getElem hkl,List.getElem?_eq_getElem hk1]
 congr 1
 by_cases hjk1:j=k-1
 ·subst hjk1;rw[ea,eb,e]
 ·have g1:=hp j (k-1) hjl hk1 (by omega)
  have g2:=hp (k-1) k hk1 hkl (by omega)
  rw[ea,←e]at g1
  rw[eb]at g2⊢
  exact lt_tri g2 g1
theorem pw_uniq:∀{a b:List ByteArray},a.Pairwise lt→b.Pairwise lt→(∀z,z∈a↔z∈b)→a=b
 |[],[],_,_,_=>rfl
 |[],y::b,_,_,h=>by have:=(h y).2 (List.mem_cons_self ..);cases this
 |x::a,[],_,_,h=>by have:=(h x).1 (List.mem_cons_self ..);cases this
 |x::a,y::b,ha,hb,h=>by
  have ha2:=List.pairwise_cons.1 ha
  have hb2:=List.pairwise_cons.1 hb
  have hxy:x=y:=by
   rcases List.mem_cons.1 ((h x).1 (List.mem_cons_self ..))with e|hx
   ·exact e
   ·rcases List.mem_cons.1 ((h y).2 (List.mem_cons_self ..))with e|hy
    ·exact e.symm
    ·exact(lt_asymm (hb2.1 x hx) (ha2.1 y hy)).elim
  subst hxy
  congr 1
  refine pw_uniq ha2.2 hb2.2 fun z=>⟨fun hz=>?_,fun hz=>?_⟩
  ·rcases List.mem_cons.1 ((h z).1 (List.mem_cons_of_mem _ hz))with e|hz2
   ·exact(lt_irrefl x (e▸ha2.1 z hz)).elim
   ·exact hz2
  ·rcases List.mem_cons.1 ((h z).2 (List.mem_cons_of_mem _ hz))with e|hz2
   ·exact(lt_irrefl x (e▸hb2.1 z hz)).elim
   ·exact hz2
theorem F14L{l:List Object}(h:l.length≤4294967290)(h2:(acE (acR l)).length≤4294967290):F14 l=some (acL (acR l).length (acR l)):=by
 unfold F14
 rw[ck_t ⟨h,h2⟩];rfl
theorem awake_t:F8=some true:=by
 set_option maxRecDepth 1000000 in
 kernel_rfl
open Go Go.Fw
set_option maxRecDepth 100000
set_option linter.unusedVariables false
set_option linter.unusedSimpArgs false
def refB(o:Object)(u:Int)(b:Bool):Bool:=o.Meta.Owners.any fun x=>decide (x.Uid=u)&&(x.Block||nb b)
theorem refs1_t(x:Owner)(u:Int)(b:Bool):F48 x u b=some (decide (x.Uid=u)&&(x.Block||nb b)):=by
 unfold F48
 by_cases h:x.Uid=u
 ·rw[if_pos h]
  cases hb:x.Block<;>simp[h,hb]
 ·rw[if_neg h];simp[h]
theorem idxv4(u:Int)(b:Bool):∀(l:List Owner) (i:Nat),∃r,F55v4_l1 u b l i=some r∧(match r with| .inl j=>0≤j| .inr _=>False)=(l.any (fun x=>decide (x.Uid=u)&&(x.Block||nb b))=true)∧∀j,r= .inl j→0≤j
 |[],i=>⟨_,rfl,by simp,fun j h=>by cases h⟩
 |x::l,i=>by
  rw[F55v4_l1,refs1_t,Option.bind_some,List.any_cons]
  cases h:(decide (x.Uid=u)&&(x.Block||nb b))with
  |true=>exact⟨_,rfl,by simp,fun j h=>by cases h;omega⟩
  |false=>
   obtain⟨r,h1,h2,h3⟩:=idxv4 u b l (i+1)
   exact⟨r,h1,by rw[h2,Bool.false_or],h3⟩
theorem refers_t{o:Object}(h:o.Meta.Owners.length≤4000000)(u:Int)(b:Bool):F25 o u b=some (refB o u b):=by
 unfold F25 F47 F55v4
 obtain⟨r,h1,h2,h3⟩:=idxv4 u b o.Meta.Owners 0
 rw[ck_t (by omega),Option.bind_some,h1,Option.bind_some]
 unfold refB
 cases r with
 |inl j=>
  have hj:=h3 j rfl
  have:o.Meta.Owners.any (fun x=>decide (x.Uid=u)&&(x.Block||nb b))=true:=h2.mp hj
  rw[this];simp[hj]
 |inr _=>
  have:¬o.Meta.Owners.any (fun x=>decide (x.Uid=u)&&(x.Block||nb b))=true:=fun hh=>h2.mpr hh
  rw[Bool.not_eq_true]at this
  rw[this];rfl
theorem rrefs_l1(u:Int)(b:Bool):∀(l:List Owner) (i:Nat),F29_l1 u b l i=some (if l.any (fun x=>decide (x.Uid=u)&&(x.Block||nb b))=true then .inl true else .inr ())
 |[],i=>rfl
 |x::l,i=>by
  have e:(if x.Uid=u then(if x.Block=true then some true else some (nb b))else some false)=some (decide (x.Uid=u)&&(x.Block||nb b)):=by
   by_cases h:x.Uid=u
   ·rw[if_pos h];cases hb:x.Block<;>simp[h]
   ·rw[if_neg h];simp[h]
  rw[F29_l1,e,Option.bind_some,List.any_cons]
  cases h:(decide (x.Uid=u)&&(x.Block||nb b))with
  |true=>rfl
  |false=>rw[if_neg (by simp),rrefs_l1 u b l (i+1),Bool.false_or]
theorem rrefers_t{o:Object}(h:o.Meta.Owners.length≤4000000)(u:Int)(b:Bool):F29 o u b=some (refB o u b):=by
 unfold F29
 rw[ck_t (by omega),Option.bind_some,rrefs_l1]
 unfold refB
 cases h:o.Meta.Owners.any (fun x=>decide (x.Uid=u)&&(x.Block||nb b))<;>rfl
def depK(l:List Object)(u:Int):List ByteArray:=(l.filter fun o=>refB o u false).map fun o=>keyB o.Meta
theorem dep_l1(u:Int):∀(l:List Object) (n:Nat) (a:List ByteArray),(∀o∈l,MW o.Meta)→a.length+l.length≤4000000→F12_l1 u l n a=some (a++depK l u)
 |[],n,a,_,_=>by rw[F12_l1];simp[depK]
 |o::l,n,a,hm,hl=>by
  have ho:=hm o (List.mem_cons_self ..)
  simp only[List.length_cons]at hl
  rw[F12_l1,refers_t ho.owners,Option.bind_some]
  cases h:refB o u false with
  |true=>
   rw[if_pos rfl,KeyOf_t ho.key,Option.bind_some,apI_t (by simp;omega)]
   simp only[Option.bind_some]
   rw[dep_l1 u l (n+1) _ (fun o ho=>hm o (List.mem_cons_of_mem _ ho)) (by simp;omega)]
   simp[depK,h]
  |false=>
   rw[if_neg (by simp),Option.bind_some,dep_l1 u l (n+1) _ (fun o ho=>hm o (List.mem_cons_of_mem _ ho)) (by omega)]
   simp[depK,h]
theorem rdep_l1(u:Int):∀(l:List Object) (n:Nat) (a:List ByteArray),(∀o∈l,MW o.Meta)→a.length+l.length≤4000000→F13_l1 u l n a=some (a++depK l u)
 |[],n,a,_,_=>by rw[F13_l1];simp[depK]
 |o::l,n,a,hm,hl=>by
  have ho:=hm o (List.mem_cons_self ..)
  simp only[List.length_cons]at hl
  rw[F13_l1,rrefers_t ho.owners,Option.bind_some]
  cases h:refB o u false with
  |true=>
   rw[if_pos rfl,rKeyOf_t ho.key,Option.bind_some,apI_t (by simp;omega)]
   simp only[Option.bind_some]
   rw[rdep_l1 u l (n+1) _ (fun o ho=>hm o (List.mem_cons_of_mem _ ho)) (by simp;omega)]
   simp[depK,h]
  |false=>
   rw[if_neg (by simp),Option.bind_some,rdep_l1 u l (n+1) _ (fun o ho=>hm o (List.mem_cons_of_mem _ ho)) (by omega)]
   simp[depK,h]
theorem depK_len(l:List Object)(u:Int):(depK l u).length≤l.length:=by unfold depK;rw[List.length_map];exact List.length_filter_le _ _
def insN(x:ByteArray):List ByteArray→List ByteArray
 |[]=>[x]
 |y::l=>if lt y x then y::insN x l else if y=x then y::l else x::y::l
theorem insN_mem(x z:ByteArray):∀l,z∈insN x l↔z=x∨z∈l
 |[]=>by simp[insN]
 |y::l=>by
  have:=insN_mem x z l
  unfold insN
  split
  ·simp only[List.mem_cons,this]
   exact⟨fun h=>h.elim (fun h=> .inr (.inl h)) fun h=>h.elim .inl fun h=> .inr (.inr h),fun h=>h.elim (fun h=> .inr (.inl h)) fun h=>h.elim .inl fun h=> .inr (.inr h)⟩
  ·split
   ·rename_i h2
    constructor
    ·exact .inr
    ·rintro(e|h)
     ·rw[e,h2];simp
     ·exact h
   ·simp
theorem insN_len(x:ByteArray):∀l,(insN x l).length≤l.length+1
 |[]=>by simp[insN]
 |y::l=>by
  have:=insN_len x l
  unfold insN
  split
  ·simp;omega
  ·split<;>simp
theorem insN_pw(x:ByteArray):∀{l:List ByteArray},l.Pairwise lt→(insN x l).Pairwise lt
 |[],_=>by simp[insN]
 |y::l,h=>by
  have h2:=List.pairwise_cons.1 h
  unfold insN
  by_cases hy:lt y x
  ·rw[if_pos hy]
   refine List.pairwise_cons.2 ⟨fun z hz=>?_,insN_pw x h2.2⟩
   rcases(insN_mem x z l).1 hz with e|hz
   ·rw[e];exact hy
   ·exact h2.1 z hz
  ·rw[if_neg hy]
   by_cases e:y=x
   ·rw[if_pos e];exact h
   ·rw[if_neg e]
    have hxy:lt x y:=lt_of_not hy e
    refine List.pairwise_cons.2 ⟨fun z hz=>?_,h⟩
    rcases List.mem_cons.1 hz with e2|hz
    ·rw[e2];exact hxy
    ·exact lt_trans hxy (h2.1 z hz)
theorem put_true(x:ByteArray):∀(l:List ByteArray) (n:Nat) (a:List ByteArray),(∀y∈l,y≠x)→a.length+l.length≤4000000→F53_l1 x l n a true=some (a++l,true)
 |[],n,a,_,_=>by rw[F53_l1,List.append_nil]
 |y::l,n,a,h,hl=>by
  simp only[List.length_cons]at hl
  rw[F53_l1]
  simp only[nb,Bool.not_true,Bool.false_eq_true,if_false,Option.bind_some]
  rw[if_pos (h y (List.mem_cons_self ..)),apI_t (by simp;omega)]
  simp only[Option.bind_some]
  rw[put_true x l (n+1) _ (fun z hz=>h z (List.mem_cons_of_mem _ hz)) (by simp;omega)]
  simp
theorem put_false(x:ByteArray):∀(l:List ByteArray) (n:Nat) (a:List ByteArray),l.Pairwise lt→a.length+l.length≤3999990→
 ((F53_l1 x l n a false).bind fun o1=>(if(nb o1.2)=true then(apI o1.1 ([x])).bind fun a13=>some a13 else some o1.1))=some (a++insN x l)
 |[],n,a,_,hl=>by
  rw[F53_l1,Option.bind_some]
  simp only[nb,Bool.not_false,if_true]
  rw[apI_t (by simp at hl⊢;omega)];rfl
 |y::l,n,a,h,hl=>by
  have h2:=List.pairwise_cons.1 h
  simp only[List.length_cons]at hl
  rw[F53_l1,if_pos (show nb false=true from rfl)]
  simp only[Option.bind_some]
  by_cases hy:lt y x
  ·have e1:(Op.bytesLess x.toList y.toList||decide (x=y))=false:=by
    have n1:¬lt x y:=lt_asymm hy
    have n2:¬x=y:=fun e=>lt_irrefl x (by rw[←e]at hy;exact hy)
    unfold lt at n1
    simp[n1,n2]
   have n3:¬(y=x):=fun e=>lt_irrefl x (by rw[e]at hy;exact hy)
   rw[e1]
   simp only[Bool.false_eq_true,if_false,Option.bind_some]
   rw[if_pos n3,apI_t (by simp;omega)]
   simp only[Option.bind_some]
   rw[put_false x l (n+1) _ h2.2 (by simp;omega),insN,if_pos hy]
   simp
  ·have e1:(Op.bytesLess x.toList y.toList||decide (x=y))=true:=by
    by_cases e:x=y
    ·simp[e]
    ·have:lt x y:=lt_of_not hy (fun e'=>e e'.symm)
     unfold lt at this;simp[this]
   rw[e1]
   simp only[if_true]
   rw[apI_t (by simp;omega)]
   simp only[Option.bind_some]
   by_cases e:y=x
   ·rw[if_neg (by simpa using e)]
    simp only[Option.bind_some]
    rw[put_true x l (n+1) _ (fun z hz ez=>lt_irrefl x (by have:=h2.1 z hz;rw[e,ez]at this;exact this)) (by simp;omega),insN,if_neg hy,if_pos e]
    simp[e,nb]
   ·rw[if_pos e,apI_t (by simp;omega)]
    simp only[Option.bind_some]
    have hxy:lt x y:=lt_of_not hy e
    rw[put_true x l (n+1) _ (fun z hz ez=>lt_irrefl x (by have:=lt_trans hxy (h2.1 z hz);rw[ez]at this;exact this)) (by simp;omega),insN,if_neg hy,if_neg e]
    simp[nb]
theorem put_t{l:List ByteArray}(x:ByteArray)(h:l.Pairwise lt)(hl:l.length≤3999990):F53 l x=some (insN x l):=by
 unfold F53
 rw[ck_t (by omega),Option.bind_some]
 have:=put_false x l 0 [] h (by simpa using hl)
 rw[List.nil_append]at this
 exact this
theorem union_l1:∀(l:List ByteArray) (n:Nat) (a:List ByteArray),a.Pairwise lt→a.length+l.length≤3999990→∃r,F31_l1 l n a=some r∧r.Pairwise lt∧r.length≤a.length+l.length∧∀z,z∈r↔z∈a∨z∈l
 |[],n,a,h,_=>⟨a,rfl,h,Nat.le_refl _,fun z=>by simp⟩
 |x::l,n,a,h,hl=>by
  simp only[List.length_cons]at hl
  have h1:=insN_len x a
  obtain⟨r,r1,r2,r3,r4⟩:=union_l1 l (n+1) (insN x a) (insN_pw x h) (by omega)
  refine⟨r,by rw[F31_l1,put_t x h (by omega),Option.bind_some];exact r1,r2,by simp only[List.length_cons];omega,fun z=>?_⟩
  rw[r4,insN_mem,List.mem_cons]
  exact⟨fun h=>h.elim (fun h=>h.elim (fun h=> .inr (.inl h)) .inl) fun h=> .inr (.inr h),fun h=>h.elim (fun h=> .inl (.inr h)) fun h=>h.elim (fun h=> .inl (.inl h)) .inr⟩
theorem union_t{l:List ByteArray}(h:l.length≤3999990):F31 l []=some (compL (sortL l)):=by
 obtain⟨r,r1,r2,r3,r4⟩:=union_l1 l 0 [] List.Pairwise.nil (by simpa using h)
 have e:r=compL (sortL l):=pw_uniq r2 (compL_pw (sortL_pw l)) fun z=>by rw[r4,compL_mem,sortL_mem];simp
 unfold F31
 rw[ck_t (by omega),Option.bind_some,r1,Option.bind_some,ck_t (by simp),Option.bind_some,←e]
 rfl
theorem dep_t{l:List Object}(hm:∀o∈l,MW o.Meta)(hl:l.length≤1000000)(u:Int):F12 l u=some (compL (sortL (depK l u))):=by
 unfold F12
 have h:=depK_len l u
 rw[ck_t (by omega),Option.bind_some,dep_l1 u l 0 [] hm (by simpa using(by omega:l.length≤4000000)),Option.bind_some,List.nil_append]
 unfold sortI
 rw[if_pos (by omega),Option.bind_some]
 unfold compI
 rw[if_pos (by rw[sortL_len];omega)];rfl
theorem rdep_t{l:List Object}(hm:∀o∈l,MW o.Meta)(hl:l.length≤1000000)(u:Int):F13 l u=some (compL (sortL (depK l u))):=by
 unfold F13
 have h:=depK_len l u
 rw[ck_t (by omega),Option.bind_some,rdep_l1 u l 0 [] hm (by simpa using(by omega:l.length≤4000000)),Option.bind_some,List.nil_append,union_t (by omega)]
 rfl
theorem same_l7(r:List ByteArray):∀(m i:Nat),r.length=i+m→F4_l7 r r (r.drop i) i=some (.inr ())
 |0,i,h=>by rw[List.drop_of_length_le (by omega),F4_l7]
 |m+1,i,h=>by
  have hi:i<r.length:=by omega
  rw[List.drop_eq_getElem_cons hi,F4_l7,rdI_val (List.getElem?_eq_getElem hi)]
  simp only[Option.bind_some,not_true_eq_false,if_false]
  exact same_l7 r m (i+1) (by omega)
def exB(l:List Object)(u:Int):Bool:=l.any fun o=>decide (o.Meta.Uid=u)
theorem exists_l1(u:Int):∀(l:List Object) (i:Nat),F32_l1 u l i=some (if exB l u=true then .inl true else .inr ())
 |[],i=>rfl
 |o::l,i=>by
  rw[F32_l1]
  unfold exB
  rw[List.any_cons]
  by_cases h:o.Meta.Uid=u
  ·rw[if_pos h];simp[h]
  ·rw[if_neg h,exists_l1 u l (i+1)];simp[h,exB]
theorem exists_t{l:List Object}(h:l.length≤4000000)(u:Int):F32 l u=some (exB l u):=by
 unfold F32
 rw[ck_t (by omega),Option.bind_some,exists_l1]
 cases exB l u<;>rfl
def ownd(l:List Object)(o:Object):Bool:=o.Meta.Owners.any fun x=>exB l x.Uid
theorem own_l6{l:List Object}(hl:l.length≤4000000){i:Nat}{o:Object}(ho:l[i]? =some o)(hb:o.Meta.Owners.length≤4000000):∀(m k j:Nat) (b:Bool),o.Meta.Owners.length=j+m→m<k→F15_l6 l i k b (j:Int)=some (b||(o.Meta.Owners.drop j).any fun x=>exB l x.Uid)
 |m,0,j,b,_,h=>by omega
 |0,k+1,j,b,h,_=>by
  rw[F15_l6,rdI_val ho,Option.bind_some,if_neg (by omega),List.drop_of_length_le (by omega)];simp
 |m+1,k+1,j,b,h,hk=>by
  have hj:j<o.Meta.Owners.length:=by omega
  rw[F15_l6,rdI_val ho,Option.bind_some,if_pos (by omega),List.drop_eq_getElem_cons hj,List.any_cons]
  have e:(if b=true then some true else(some o).bind fun y11=>(rdI y11.Meta.Owners (j:Int)).bind fun y12=>(F32 l y12.Uid).bind fun t13=>some t13)=some (b||exB l (o.Meta.Owners[j]).Uid):=by
   cases b with
   |true=>rfl
   |false=>
    rw[if_neg (by simp),Option.bind_some,rdI_val (List.getElem?_eq_getElem hj),Option.bind_some,exists_t hl];simp
  rw[e,Option.bind_some,wrapN (by omega),own_l6 hl ho hb m k (j+1) _ (by omega) (by omega),Bool.or_assoc]
theorem rest_l3{l:List Object}(hl:l.length≤4000000)(hb:∀o∈l,o.Meta.Owners.length≤4000000):∀(m i:Nat) (a:List Object),l.length=i+m→a.length≤i→F15_l3 l (l.drop i) i a=some (a++(l.drop i).filter (ownd l))
 |0,i,a,h,_=>by rw[List.drop_of_length_le (by omega),F15_l3];simp
 |m+1,i,a,h,ha=>by
  have hi:i<l.length:=by omega
  have ho:l[i]? =some l[i]:=List.getElem?_eq_getElem hi
  have hbo:=hb _ (List.getElem_mem hi)
  rw[List.drop_eq_getElem_cons hi,F15_l3]
  have h6:=own_l6 hl ho hbo (l[i]).Meta.Owners.length 1099511627776 0 false (by omega) (by omega)
  rw[List.drop_zero,Bool.false_or]at h6
  rw[show((0:Nat):Int)=0 from rfl]at h6
  rw[h6,Option.bind_some]
  cases hc:(l[i]).Meta.Owners.any (fun x=>exB l x.Uid)with
  |true=>
   rw[if_pos rfl,rdI_val ho,Option.bind_some,apI_t (by simp;omega)]
   simp only[Option.bind_some]
   rw[rest_l3 hl hb m (i+1) _ (by omega) (by simp;omega),List.filter_cons,if_pos (show ownd l l[i]=true from hc)]
   simp
  |false=>
   rw[if_neg (by simp),Option.bind_some,rest_l3 hl hb m (i+1) _ (by omega) (by omega),List.filter_cons,if_neg (by rw[show ownd l l[i]=false from hc];simp)]
theorem nx_map(l:List Object):acNx (acR l)=acR (l.filter (ownd l)):=by
 unfold acNx acR
 rw[List.filter_map]
 congr 1
 refine List.filter_congr fun o _=>?_
 simp only[Function.comp,acP,ownd,exB,List.any_map]
 rfl
theorem layers_l2:∀(n k:Nat) (l:List Object),l.length≤n→n≤4000000→n<k→(∀o∈l,o.Meta.Owners.length≤4000000)→F15_l2 k l=some (.inl (acL n (acR l)))
 |n,0,l,_,_,h,_=>by omega
 |n,k+1,l,hn,hb,hk,ho=>by
  rw[F15_l2,ck_t (by omega),Option.bind_some]
  have h3:=rest_l3 (l:=l) (by omega) ho l.length 0 [] (by omega) (by simp)
  rw[List.drop_zero,List.nil_append]at h3
  rw[h3,Option.bind_some]
  have hle:(l.filter (ownd l)).length≤l.length:=List.length_filter_le _ _
  have hmap:(acNx (acR l)).length=(l.filter (ownd l)).length:=by rw[nx_map,acR,List.length_map]
  have hmap2:(acR l).length=l.length:=by rw[acR,List.length_map]
  have he:decide ((l.length:Int)=0)=(acR l).isEmpty:=by
   cases l with
   |nil=>rfl
   |cons a l=>simp only[acR,List.map_cons,List.isEmpty_cons,decide_eq_false_iff_not,List.length_cons];omega
  cases n with
  |zero=>
   have:l=[]:=List.length_eq_zero_iff.1 (by omega)
   subst this;rfl
  |succ n=>
   rw[acL]
   by_cases hc:(l.filter (ownd l)).length=l.length
   ·rw[if_pos (by omega),if_pos (by rw[hmap,hmap2];exact hc),he];rfl
   ·rw[if_neg (by omega),if_neg (by rw[hmap,hmap2];exact hc),nx_map]
    exact layers_l2 n k _ (by omega) (by omega) (by omega) fun o h=>ho o (List.mem_filter.1 h).1
theorem racy_t{l:List Object}(hl:l.length≤1000000)(ho:∀o∈l,o.Meta.Owners.length≤4000000):F15 l=some (acL (acR l).length (acR l)):=by
 unfold F15
 rw[apI_t (by simp;omega),Option.bind_some,List.nil_append,layers_l2 l.length 1099511627776 l (Nat.le_refl _) (by omega) (by omega) ho,acR,List.length_map]
 rfl
theorem heavy_l1:∀(l:List Object) (i:Nat),F7_l1 l i=some (.inl true)∨F7_l1 l i=some (.inr ())∧∀o∈l,o.Meta.Owners.length≤20∧o.Meta.Finalizers.length≤20
 |[],i=> .inr ⟨rfl,fun o h=>by cases h⟩
 |o::l,i=>by
  rw[F7_l1]
  by_cases h1:20<(o.Meta.Owners.length:Int)
  ·rw[if_pos h1];exact .inl rfl
  ·rw[if_neg h1]
   by_cases h2:20<(o.Meta.Finalizers.length:Int)
   ·exact .inl (by simp[h2])
   ·rcases heavy_l1 l (i+1)with h|⟨h,h'⟩
    ·exact .inl (by simp[h2,h])
    ·refine .inr ⟨by simp[h2,h],fun x hx=>?_⟩
     rcases List.mem_cons.1 hx with rfl|hx
     ·exact⟨by omega,by omega⟩
     ·exact h' x hx
structure Lt(l:List Object):Prop where
 len:l.length≤24
 own:∀o∈l,o.Meta.Owners.length≤20∧o.Meta.Finalizers.length≤20
theorem heavy_t{l:List Object}(h:l.length≤4000000):F7 l=some true∨F7 l=some false∧Lt l:=by
 unfold F7
 rw[ck_t (by omega),Option.bind_some]
 rcases heavy_l1 l 0 with h1|⟨h1,h2⟩
 ·rw[h1];exact .inl rfl
 ·rw[h1]
  by_cases h3:24<(l.length:Int)
  ·exact .inl (by simp[h3])
  ·exact .inr ⟨by simp[h3],⟨by omega,h2⟩⟩
theorem acE_len{l:List Object}(h:∀o∈l,o.Meta.Owners.length≤20∧o.Meta.Finalizers.length≤20):(acE (acR l)).length≤20*l.length:=by
 induction l with
 |nil=>simp[acE,acR]
 |cons o l ih=>
  have h1:=h o (List.mem_cons_self ..)
  have h2:=ih fun o ho=>h o (List.mem_cons_of_mem _ ho)
  simp only[acE,acR,List.map_cons,List.flatMap_cons,List.length_append,List.length_map,acP,List.length_cons]at h2⊢
  omega
theorem acy_t{l:List Object}(h:Lt l):F14 l=some (acL (acR l).length (acR l)):=by
 have h1:=acE_len h.own
 have h2:=h.len
 exact F14L (by omega) (by omega)
theorem lW{l:List Object}(h:(wL wObject) l≤1048577):l.length≤1048577∧∀o∈l,MW o.Meta:=by
 have h1:=wL_len (w:=wObject) (fun a=>by unfold wObject;omega) l
 refine⟨by omega,fun o ho=>mW ?_⟩
 have h2:=wL_mem (w:=wObject) ho
 have h3:wMeta o.Meta≤wObject o:=by unfold wObject;omega
 omega
theorem GcFinds_pure:GcFinds.Pure:=by
 intro l u _ _ hw
 have hw2:(wL wObject) l≤1048577:=by omega
 obtain⟨hl,hm⟩:=lW hw2
 unfold F4
 rcases heavy_t (l:=l) (by omega)with h|⟨h,hL⟩
 ·rw[h,Option.bind_some,if_pos rfl,awake_t];rfl
 ·have h24:=hL.len
  rw[h,Option.bind_some,if_neg (by simp),dep_t hm (by omega),Option.bind_some,rdep_t hm (by omega),Option.bind_some,if_neg (by simp)]
  have hd:=depK_len l u
  have hc:=compL_len (sortL (depK l u))
  rw[sortL_len]at hc
  have h7:=same_l7 (compL (sortL (depK l u))) (compL (sortL (depK l u))).length 0 (by omega)
  rw[List.drop_zero]at h7
  rw[ck_t (by omega),Option.bind_some,h7,Option.bind_some,acy_t hL]
  simp only[Option.bind_some]
  rw[racy_t (by omega) fun o ho=>(hm o ho).owners,Option.bind_some,if_pos (by simp),awake_t]
  rfl
end Go.Proofs.Ytdejhahgpojnoaa
