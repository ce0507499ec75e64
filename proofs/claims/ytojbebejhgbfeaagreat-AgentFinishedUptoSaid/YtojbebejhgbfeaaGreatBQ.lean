/- The plain law. -/
import Derived.Test.YtojbebejhgbfeaaGreatBP
import Derived.Test.YtojbebejhgbfeaaGreatFP
import Derived.KernelRfl
open List renaming length_append->XC,length_cons->XD,mem_cons_self->XF,getElem?_eq_getElem->XG,append_assoc->XH,mem_cons_of_mem->XI,pairwise_cons->XJ,length_eq_zero_iff->XK,length_take->XL,pairwise_append->XM,mem_cons->XN,getElem?_eq_some_iff->XO,filter_cons->XP,reverse_reverse->XQ,mem_singleton->XR,filter_append->XS,nil_append->XU,length_map->XV,length_drop->XW,mem_append->XX,length_reverse->XY,take_append_drop->XZ,length_nil->X0,pairwise_singleton->X1,reverse_cons->X2,mem_map->X3,getElem_mem->X4,map_cons->X5,append_nil->X6,getElem?_cons_zero->X7,filter_eq_nil_iff->X8,cons_append->X9,getElem?_append_right->Ya,length->Yb,cons_eq_cons->Yc,singleton_append->Yd,length_filter_le->Ye,any_eq_false->Yf,mem_filter->Yg,foldl_cons->Yh,replicate->Yi,drop_eq_getElem_cons->Yj,getElem?_cons_succ->Yk,take_of_length_le->Yl,length_eq_one_iff->Ym,drop_of_length_le->Yn,set_append_right->Yo,mem_iff_getElem?->Yp,length_singleton->Yq,getElem?_eq_none->Yr,mem_iff_getElem->Ys,perm_iff_count->Yt,mem_filterMap->Yu,take_add_one->Yv,getElem?_map->Yw,foldl_append->Yx,flatMap_cons->Yy,count_filter->Yz,set_set->YA
open Option renaming bind_some->YB,some->YC,bind->YD,map_some->YE,getD_some->YF
open Go.IntKind renaming i64->YG,u64->YH,wrap->YI,signed->YJ,bits->YK
open Bool renaming false->YL,true->YM,false_eq_true->YN,not_eq_true->YO,eq_iff_iff->YP
open Int renaming toNat_natCast->YQ,le_trans->YR,lt_irrefl->YS
open Nat renaming le_refl->YT,le_trans->YU,min_eq_left->YV,zero_add->YW
open List.Pairwise renaming nil->YX
set_option linter.unusedVariables false
set_option linter.unusedSimpArgs false
namespace Go.Proofs.YtojbebejhgbfeaaGreat
open Go Go.Fw
set_option maxRecDepth 100000
set_option linter.unusedVariables false
set_option linter.unusedSimpArgs false
section
variable {α:Type}
def S(c:α→Int)(l:List α):Prop:=l.Pairwise fun a b=>c b≤0→c a<0
def nw(c:α→Int):List α→Nat
 |[]=>0
 |y::l=>if c y<0 then nw c l+1 else 0
theorem qb(c:α→Int):∀l,nw c l≤l.length
 |[]=>YT _
 |y::l=>by have:=qb c l;unfold nw;split<;>simp<;>omega
theorem mI{c:α→Int}:∀{l:List α},S c l→∀i (h:i<l.length),c l[i]<0↔i<nw c l
 |[],_,i,h=>absurd h (by simp)
 |y::l,hs,0,h=>by
  unfold nw
  by_cases hc:c y<0<;>simp[hc]
 |y::l,hs,i+1,h=>by
  have hs2:=XJ.1 hs
  have ih:=mI hs2.2 i (by simpa using h)
  simp only[List.getElem_cons_succ]
  unfold nw
  by_cases hc:c y<0
  ·rw[if_pos hc,ih];omega
  ·rw[if_neg hc]
   exact⟨fun hi=>absurd (hs2.1 _ (X4 (by simpa using h)) (Int.le_of_lt hi)) hc,fun hi=>by omega⟩
def gf(a b:Int):Int:=YG.wrap (fi .u64 (YH.wrap (YG.wrap (a+b))) 1)
theorem qg{a b:Nat}(h:a+b≤4000000):gf (a:Int) (b:Int)=(((a+b)/2:Nat):Int):=by
 unfold gf fi
 rw[show YG.wrap ((a:Int)+b)=(a:Int)+b from dc (by omega) (by omega)]
 have e:YH.wrap ((a:Int)+b)=((a+b:Nat):Int):=by simp[YI,YK,YJ];omega
 rw[e]
 have e2:((a+b:Nat):Int).fdiv (2^(min (1:Int).toNat YH.bits))=(((a+b)/2:Nat):Int):=by
  show((a+b:Nat):Int).fdiv 2=_
  rw[Int.fdiv_eq_ediv_of_nonneg _ (by omega)];omega
 rw[e2,dc (by omega) (by omega)]
def Gm(c:α→Int)(xs:List α):Nat→Int→Int→Option Int
 |0,_,_=>none
 |k+1,a,b=>if a<b then(cI xs (gf a b)).bind fun y=>if c y<0 then Gm c xs k (YG.wrap (gf a b+1)) b else Gm c xs k a (gf a b)else YC a
theorem la{c:α→Int}{xs:List α}(hs:S c xs)(hl:xs.length≤1000000):∀(k a b:Nat),b-a<k→a≤nw c xs→nw c xs≤b→b≤xs.length→Gm c xs k (a:Int) (b:Int)=YC (nw c xs:Int)
 |0,a,b,h,_,_,_=>by omega
 |k+1,a,b,h,h1,h2,h3=>by
  unfold Gm
  by_cases hab:a<b
  ·have hm:(a+b)/2<xs.length:=by omega
   rw[if_pos (by omega),qg (by omega),sO hm,YB]
   have hi:=mI hs ((a+b)/2) hm
   by_cases hc:c xs[(a+b)/2]<0
   ·rw[if_pos hc]
    have e:YG.wrap ((((a+b)/2:Nat):Int)+1)=(((a+b)/2+1:Nat):Int):=cL (by omega)
    rw[e]
    exact la hs hl k _ b (by omega) (by have:=hi.1 hc;omega) h2 h3
   ·rw[if_neg hc]
    exact la hs hl k a _ (by omega) h1 (by have:=mt hi.2 hc;omega) (by omega)
  ·rw[if_neg (by omega)];congr 1;omega
def kZ(c:α→Int)(l:List α):Bool:=l.any fun y=>decide (c y=0)
theorem td(c:α→Int)(y:α)(l:List α):kZ c (y::l)=(decide (c y=0)||kZ c l):=by simp[kZ]
theorem zf{c:α→Int}{l:List α}(h:∀y∈l,0<c y):kZ c l=YL:=by
 simp only[kZ,Yf,decide_eq_true_eq]
 intro y hy;have:=h y hy;omega
theorem mY{c:α→Int}:∀{l:List α},S c l→((l[nw c l]?).map fun y=>decide (c y=0)).getD YL=kZ c l
 |[],_=>rfl
 |y::l,hs=>by
  have hs2:=XJ.1 hs
  have ih:=mY hs2.2
  rw[td]
  unfold nw
  by_cases hc:c y<0
  ·rw[if_pos hc,Yk,ih];simp;omega
  ·rw[if_neg hc]
   simp only[X7,YE,YF]
   rw[zf];·simp
   intro z hz
   have:=hs2.1 z hz
   omega
theorem CX{c:α→Int}{l:List α}(hs:S c l):(if(nw c l:Int)<(l.length:Int)then(cI l (nw c l:Int)).bind fun y=>YC (decide (c y=0))else YC YL)=YC (kZ c l):=by
 have h:=mY hs
 by_cases hp:nw c l<l.length
 ·rw[if_pos (by omega),sO hp,YB]
  rw[XG hp]at h
  simp only[YE,YF]at h
  rw[h]
 ·rw[if_neg (by omega)]
  rw[Yr (by omega)]at h
  simp only[Option.map_none,Option.getD_none]at h
  rw[←h]
end
theorem gv(a b:ByteArray):gy a b<0↔lt a b:=by
 unfold gy
 by_cases h:lt a b
 ·simp[h]
 ·rw[if_neg h]
  by_cases h2:a=b
  ·rw[if_pos h2];simp[h]
  ·rw[if_neg h2];simp[h]
theorem iR(a b:ByteArray):gy a b=0↔a=b:=by
 unfold gy
 by_cases h:lt a b
 ·simp[h,ga h]
 ·rw[if_neg h]
  by_cases h2:a=b<;>simp[h2]
theorem yw(a b:ByteArray):gy a b≤0↔lt a b∨a=b:=by
 rw[←gv,←iR];omega
theorem vR(a b:ByteArray):lt a b∨a=b∨lt b a:=by
 by_cases h:a=b
 ·exact .inr (.inl h)
 ·rcases vQ h with h|h
  ·exact .inl h
  ·exact .inr (.inr h)
theorem kC{α β:Type}{e:Option α}{f:α→Option β}(h:∃a,e=YC a)(hf:∀a,e=YC a→∃r,f a=YC r):∃r,e.bind f=YC r:=by
 obtain⟨a,ha⟩:=h;obtain⟨r,hr⟩:=hf a ha;exact⟨r,by rw[ha];exact hr⟩
theorem fl{α:Type}{p:Prop}[Decidable p]{a b:Option α}(h1:p→∃r,a=YC r)(h2:¬p→∃r,b=YC r):∃r,(if p then a else b)=YC r:=by
 by_cases h:p
 ·rw[if_pos h];exact h1 h
 ·rw[if_neg h];exact h2 h
theorem Da{p:Prop}[Decidable p](h:p):∃r,ck p=YC r:=⟨(),fR h⟩
theorem mH{α:Type}{l:List α}{i:Int}(h:0≤i)(h2:i<l.length):∃y,cI l i=YC y:=by
 obtain⟨n,rfl⟩:∃n:Nat,i=n:=⟨i.toNat,by omega⟩
 exact⟨_,sO (by omega)⟩
theorem gG{α:Type}{l:List α}{i:Nat}{y:α}(h:l[i]? =YC y):cI l (i:Int)=YC y:=by rw[cz];exact h
theorem fT{α:Type}:∀{l:List α} {i:Nat} {x:α},l[i]? =YC x→l.set i x=l
 |[],_,_,h=>by simp at h
 |y::l,0,x,h=>by simp at h;simp[h]
 |y::l,i+1,x,h=>by simp at h;simp[fT h]
theorem Dn{α:Type}{l:List α}(h:l.length≤4294967290):gw l=YC l:=if_pos h
theorem nh{a b:ByteArray}(h:a.size+b.size≤9223372036854775807):ue a b=YC (a++b):=if_pos h
theorem bsize(a b:ByteArray):(a++b).size=a.size+b.size:=ByteArray.size_append
theorem uE{α:Type}{w:α→Nat}{x:α}:∀{l:List α},x∈l→w x+1≤wL w l
 |[],h=>by cases h
 |y::l,h=>by
  unfold wL
  simp only[X5,List.sum_cons]
  rcases XN.1 h with rfl|h
  ·omega
  ·have:=uE (w:=w) h;unfold wL at this;omega
open Go Go.Fw
set_option maxRecDepth 100000
set_option linter.unusedVariables false
set_option linter.unusedSimpArgs false
def PQ(x:Int):Int:=if 1000000000000<(if x<0 then 0 else x)then 1000000000000 else(if x<0 then 0 else x)
def di(x:Int):Int:=if 1000000000000000<(if x<0 then 0 else x)then 1000000000000000 else(if x<0 then 0 else x)
theorem gH(x:Int):0≤di x∧di x≤1000000000000000:=by unfold di;split<;>split<;>omega
theorem oy(a b:Int):∀(m k:Nat) (d i:Int),0≤i→64-i<m→m<k→∃r,F187_l4 a b k d i=YC r
 |0,k,d,i,h0,h,hk=>by
  cases k with
  |zero=>omega
  |succ k=>
   unfold F187_l4
   rw[if_neg (by split<;>omega)];exact⟨_,rfl⟩
 |m+1,k,d,i,h0,h,hk=>by
  cases k with
  |zero=>omega
  |succ k=>
   unfold F187_l4
   by_cases hc:i<(if 64<(YG.wrap (b-1))then 64 else(YG.wrap (b-1)))
   ·rw[if_pos hc]
    have hi:i<64:=by split at hc<;>omega
    refine fl (fun _=>⟨_,rfl⟩) fun _=>?_
    rw[show YG.wrap (i+1)=i+1 from dc (by omega) (by omega)]
    exact oy a b m k _ _ (by omega) (by omega) (by omega)
   ·rw[if_neg hc];exact⟨_,rfl⟩
theorem wx(a b n:Int):∃r,F187 a b n=YC r:=by
 unfold F187 F186
 simp only[YB]
 split
 ·exact⟨_,rfl⟩
 ·obtain⟨r,hr⟩:=oy b n 65 1099511627776 (if 1000000000000<(if a<0 then 0 else a)then 1000000000000 else(if a<0 then 0 else a)) 0 (by omega) (by omega) (by omega)
  rw[hr];exact⟨_,rfl⟩
theorem zi(r:cp)(now a b:Int):∃q,F123 r now a b=YC q:=by
 unfold F123 F186
 simp only[YB]
 obtain⟨d,hd⟩:=wx a b (if 1000000000000000<(YG.wrap (((if 1000000000000000<(if r.cM<0 then 0 else r.cM)then 1000000000000000 else(if r.cM<0 then 0 else r.cM)))+1))then 1000000000000000 else(YG.wrap (((if 1000000000000000<(if r.cM<0 then 0 else r.cM)then 1000000000000000 else(if r.cM<0 then 0 else r.cM)))+1)))
 rw[hd];exact⟨_,rfl⟩
def F5(y:ag)(now code:Int):ag:=⟨y.aV,2,y.bk,code,now,YL,YL⟩
def ke(r:cp)(now:Int):cp:=((F123 r now 10 300).map fun t=>(⟨t.1,t.2⟩:cp)).getD r
theorem qm{i:Nat}{code:Int}{b:aj}{x:af}{y:ag}{r:cp}(hy:x.an.ae.ad[i]? =YC y)(hr:x.aq[i]? =YC r):
 F79 i code b x=YC (x.an.ae.ad.set i (F5 y b.ah.cl code),x.aq.set i (ke r b.ah.cl)):=by
 unfold F79 F79i
 rw[cz,hy,YB,cz,hr,YB]
 obtain⟨t,ht⟩:=zi r b.ah.cl 10 300
 have e:ke r b.ah.cl=⟨t.1,t.2⟩:=by unfold ke;rw[ht];rfl
 rw[ht,YB,e]
 simp only[YQ,YA,YB,List.length_set,and_self,if_true]
 rfl
structure PL(x:af):Prop where
 c:x.an.ae.ad.length=x.an.Spec.ad.length
 p:x.aK.length=3*x.an.Spec.ad.length
 r:x.aq.length=x.an.Spec.ad.length
 n:x.an.Spec.ad.length≤1000
def gT(x:af)(cs:List ag)(rs:List cp):af:=⟨⟨x.an.ak,x.an.Spec,⟨x.an.ae.bC,x.an.ae.bd,x.an.ae.bf,x.an.ae.Started,x.an.ae.bu,cs,x.an.ae.bS,x.an.ae.bg,x.an.ae.b7⟩⟩,x.aK,rs,x.bh,x.bK⟩
def nJ(x:af)(cs:List ag)(ps:List aF):af:=⟨⟨x.an.ak,x.an.Spec,⟨x.an.ae.bC,x.an.ae.bd,x.an.ae.bf,x.an.ae.Started,x.an.ae.bu,cs,x.an.ae.bS,x.an.ae.bg,x.an.ae.b7⟩⟩,ps,x.aq,x.bh,x.bK⟩
def gu(now:Int):List ag→List cp→List ag×List cp
 |y::cs,r::rs=>((if y.bH=1 then F5 y now 137 else y)::(gu now cs rs).1,(if y.bH=1 then ke r now else r)::(gu now cs rs).2)
 |cs,rs=>(cs,rs)
theorem iP(now:Int):∀(cs:List ag) (rs:List cp),cs.length=rs.length→(gu now cs rs).1.length=cs.length∧(gu now cs rs).2.length=rs.length
 |[],rs,_=>by simp[gu]
 |y::cs,[],h=>by cases h
 |y::cs,r::rs,h=>by
  have:=iP now cs rs (by simpa using h)
  simp[gu,this.1,this.2]
theorem eO{α:Type}(A:List α)(x:α)(B:List α):(A++x::B)[A.length]? =YC x:=by simp
theorem fK{α:Type}(A:List α)(x y:α)(B:List α):(A++x::B).set A.length y=A++y::B:=by simp
theorem qT(b:aj)(x:af):∀(l:List ag) (i:Nat) (A:List ag) (R:List cp) (cs:List ag) (rs:List cp),A.length=i→R.length=i→cs.length=l.length→rs.length=l.length→
 F85_l1 b x l i (A++cs) (R++rs)=YC (A++(gu b.ah.cl cs rs).1,R++(gu b.ah.cl cs rs).2)
 |[],i,A,R,cs,rs,h1,h2,h3,h4=>by
  have:cs=[]:=XK.1 h3
  have:rs=[]:=XK.1 h4
  subst_vars;rfl
 |z::l,i,A,R,[],rs,h1,h2,h3,h4=>by cases h3
 |z::l,i,A,R,y::cs,[],h1,h2,h3,h4=>by cases h4
 |z::l,i,A,R,y::cs,r::rs,h1,h2,h3,h4=>by
  have ih:=qT b x l (i+1)
  unfold F85_l1
  rw[cz,←h1,eO,YB]
  by_cases hs:y.bH=1
  ·rw[if_pos hs]
   have he:=qm (i:=A.length) (code:=137) (b:=b) (x:=gT x (A++y::cs) (R++r::rs)) (y:=y) (r:=r) (eO A y cs) (by rw[h1,←h2];exact eO R r rs)
   refine(congrArg (YD · _) (congrArg (YD · _) he)).trans ?_
   simp only[YB,gT]
   rw[fK,h1,←h2,fK]
   have:=ih (A++[F5 y b.ah.cl 137]) (R++[ke r b.ah.cl]) cs rs (by simp[h1]) (by simp[h2]) (by simpa using h3) (by simpa using h4)
   rw[h2]
   simp only[XH,Yd]at this
   rw[this];simp[gu,hs]
  ·rw[if_neg hs]
   simp only[YB]
   have:=ih (A++[y]) (R++[r]) cs rs (by simp[h1]) (by simp[h2]) (by simpa using h3) (by simpa using h4)
   simp only[XH,Yd]at this
   rw[h1,this];simp[gu,hs]
theorem uP{b:aj}{x:af}(h:PL x):F85 b x=YC (gu b.ah.cl x.an.ae.ad x.aq):=by
 have hl:=iP b.ah.cl x.an.ae.ad x.aq (by rw[h.c,h.r])
 unfold F85 F85i
 rw[fR (by have:=h.c;have:=h.n;omega),YB]
 have:=qT b x x.an.ae.ad 0 [] [] x.an.ae.ad x.aq rfl rfl rfl (by rw[h.c,h.r])
 simp only[XU]at this
 rw[this]
 simp only[YB]
 rw[if_pos ⟨hl.1,hl.2⟩]
open Go Go.Fw
set_option maxRecDepth 100000
set_option linter.unusedVariables false
set_option linter.unusedSimpArgs false
def DL(p:Probe)(now:Int):Int:=(F135 p now).getD 0
theorem DK(p:Probe)(now:Int):F135 p now=YC (DL p now):=by
 unfold DL F135 F190 F189;rfl
def fX(now:Int):List Probe→aF
 |[]=>⟨0,0,YL,0⟩
 |p::_=>⟨0,0,YL,DL p now⟩
theorem DM(now:Int)(l:List Probe):(if 0<(l.length:Int)then(cI l 0).bind fun y7=>(F135 y7 now).bind fun t8=>YC t8 else YC 0)=YC (fX now l).Next∧fX now l=⟨0,0,YL,(fX now l).Next⟩:=by
 cases l with
 |nil=>exact⟨rfl,rfl⟩
 |cons p l=>
  refine⟨?_,rfl⟩
  rw[if_pos (by simp),show(0:Int)=((0:Nat):Int)from rfl,cz]
  simp only[X7,YB,DK,fX]
theorem Iq{i:Nat}(h:i≤1000)(j:Nat)(hj:j<3):YG.wrap (YG.wrap (3*(i:Int))+(j:Int))=((3*i+j:Nat):Int):=by
 rw[show YG.wrap (3*(i:Int))=3*(i:Int)from dc (by omega) (by omega),dc (by omega) (by omega)];omega
theorem rY{i:Nat}{b:aj}{x:af}{sp:aP}{P ps:List aF}{p1 p2 p3:aF}(hs:x.an.Spec.ad[i]? =YC sp)(hi:i≤1000)(hp:x.aK=P++p1::p2::p3::ps)(hP:P.length=3*i):
 F86 i b x=YC (P++fX b.ah.cl sp.jl::fX b.ah.cl sp.bd::fX b.ah.cl sp.dt::ps):=by
 unfold F86 F86i
 rw[hp,show(1099511627776:Nat)=1099511627772+4 from rfl]
 have step:∀(k j:Nat) (l:List Probe) (Q:List aF) (q:aF) (R:List aF),j<3→Q.length=3*i+j→F124 sp (j:Int)=YC l→
  F86_l1 b x i (k+1) (Q++q::R) (j:Int)=F86_l1 b x i k (Q++fX b.ah.cl l::R) ((j+1:Nat):Int):=by
  intro k j l Q q R hj hQ hl
  rw[F86_l1,if_pos (by omega),cz,hs,YB,hl,YB]
  obtain⟨e1,e2⟩:=DM b.ah.cl l
  refine(congrArg (YD · _) e1).trans ?_
  rw[YB,Iq hi j hj,cz,←hQ,eO,YB,YQ,fK,←e2,cL (by omega)]
 rw[show(1099511627772+4:Nat)=1099511627775+1 from rfl,show(0:Int)=((0:Nat):Int)from rfl,step _ 0 sp.jl P p1 (p2::p3::ps) (by omega) (by omega) rfl]
 rw[show(1099511627775:Nat)=1099511627774+1 from rfl,show P++fX b.ah.cl sp.jl::p2::p3::ps=(P++[fX b.ah.cl sp.jl])++p2::p3::ps by simp,step _ 1 sp.bd _ p2 (p3::ps) (by omega) (by simp;omega) rfl]
 rw[show(1099511627774:Nat)=1099511627773+1 from rfl,show(P++[fX b.ah.cl sp.jl])++fX b.ah.cl sp.bd::p3::ps=(P++[fX b.ah.cl sp.jl,fX b.ah.cl sp.bd])++p3::ps by simp,step _ 2 sp.dt _ p3 ps (by omega) (by simp;omega) rfl]
 rw[show(1099511627773:Nat)=1099511627772+1 from rfl,F86_l1,if_neg (by omega)]
 simp only[YB,XH,X9,XU]
 rw[if_pos (by simp)]
def K3(y:ag)(sp:aP)(now:Int):ag:=⟨y.aV,1,y.bk,0,now,YL,decide (sp.dt=[])⟩
theorem Ig{α:Type}(l:List α):decide ((l.length:Int)=0)=decide (l=[]):=by
 cases l<;>simp<;>omega
theorem yo{i:Nat}{b:aj}{x:af}{sp:aP}{A cs:List ag}{y:ag}{P ps:List aF}{p1 p2 p3:aF}(hs:x.an.Spec.ad[i]? =YC sp)(hi:i≤1000)(hc:x.an.ae.ad=A++y::cs)(hA:A.length=i)(hp:x.aK=P++p1::p2::p3::ps)(hP:P.length=3*i):
 F137 i b x=YC (A++K3 y sp b.ah.cl::cs,P++fX b.ah.cl sp.jl::fX b.ah.cl sp.bd::fX b.ah.cl sp.dt::ps):=by
 unfold F137 F137i
 rw[cz,hc,←hA,eO,YB,cz,hA,hs,YB]
 have hb:∀cs',F86 i b (gT x cs' x.aq)=YC (P++fX b.ah.cl sp.jl::fX b.ah.cl sp.bd::fX b.ah.cl sp.dt::ps):=fun cs'=>rY (x:=gT x cs' x.aq) (p1:=p1) (p2:=p2) (p3:=p3) hs hi hp hP
 unfold gT at hb
 rw[hb]
 simp only[YB,YQ,YA,Ig]
 rw[←hA,fK,hp]
 refine(if_pos ⟨by simp,by simp⟩).trans rfl
theorem v7(n:ByteArray):∀(l:List aw) (i:Nat),∃o,F129_l1 n l i=YC o∧(match o with| .inl j=>0≤j| .inr _=>False)=(l.any (fun x=>decide (x.aV=n))=YM)
 |[],i=>⟨.inr (),rfl,by simp⟩
 |x::l,i=>by
  unfold F129_l1
  by_cases h:x.aV=n
  ·exact⟨.inl i,by rw[if_pos h];rfl,by simp[h]⟩
  ·obtain⟨o,h1,h2⟩:=v7 n l (i+1)
   exact⟨o,by rw[if_neg h];exact h1,by rw[h2];simp[h]⟩
def lN(l:List aw)(n:ByteArray):Bool:=l.any fun x=>decide (x.aV=n)
theorem A8{b:aj}(h:b.ah.aM.length≤1000)(n:ByteArray):F63 n b=YC (lN b.ah.aM n):=by
 unfold F63 F108 F129
 rw[fR (by omega),YB]
 obtain⟨o,h1,h2⟩:=v7 n b.ah.aM 0
 rw[h1]
 cases o with
 |inl j=>simp only[YB];unfold lN;rw[YP.2 (show decide (0≤j)=YM↔_ from by simp only[decide_eq_true_eq];exact iff_of_eq h2)]
 |inr u=>
  simp only[YB]
  unfold lN
  have h3:¬(b.ah.aM.any fun x=>decide (x.aV=n))=YM:=fun h=>by rw[←h2]at h;exact h
  rw[YO]at h3;rw[h3];rfl
def kJ(pol:Int)(y:ag):Bool:=decide (pol=0)||(decide (pol=1)&&decide (y.bM≠0))
theorem pW{i:Nat}{b:aj}{x:af}{sp:aP}{y:ag}{r:cp}(hb:b.ah.aM.length≤1000)(hy:x.an.ae.ad[i]? =YC y)(hs:x.an.Spec.ad[i]? =YC sp)(hr:x.aq[i]? =YC r):
 F138 i b x=YC (kJ x.an.Spec.ca y&&(lN b.ah.aM sp.aw&&decide (r.At≤b.ah.cl))):=by
 unfold F138
 rw[cz,hy,YB]
 have e:(if x.an.Spec.ca=0 then YC YM else(if x.an.Spec.ca=1 then YC (decide (¬(y.bM=0)))else YC YL))=YC (kJ x.an.Spec.ca y):=by
  unfold kJ
  by_cases h0:x.an.Spec.ca=0
  ·simp[h0]
  ·by_cases h1:x.an.Spec.ca=1<;>simp[h0,h1]
 rw[e,YB]
 cases kJ x.an.Spec.ca y with
 |false=>rfl
 |true=>
  rw[if_pos rfl,cz,hs,YB,A8 hb]
  simp only[YB]
  cases lN b.ah.aM sp.aw with
  |false=>rfl
  |true=>
   rw[if_pos rfl,cz,hr]
   rfl
def vf(now pol:Int)(im:List aw)(sp:aP)(y:ag)(r:cp):ag×Bool:=
 if y.bH=0∧lN im sp.aw=YM then(K3 y sp now,YM)
 else if y.bH=2∧(kJ pol y&&(lN im sp.aw&&decide (r.At≤now)))=YM then(⟨y.aV,1,YG.wrap (y.bk+1),0,now,YL,decide (sp.dt=[])⟩,YM)
 else(y,YL)
def jj(sp:aP)(y:ag):ag:=if y.bH=1∧sp.bd=[]then⟨y.aV,y.bH,y.bk,y.bM,y.dZ,y.Started,y.Started⟩else y
def gB(now:Int)(sp:aP)(st:Bool)(p1 p2 p3:aF):List aF:=if st=YM then [fX now sp.jl,fX now sp.bd,fX now sp.dt]else [p1,p2,p3]
def iC(now pol:Int)(im:List aw):List aP→List ag→List cp→List aF→List ag×List aF×Bool
 |sp::sps,y::cs,r::rs,p1::p2::p3::ps=>
  let t:=vf now pol im sp y r
  let y2:=jj sp t.1
  let q:=iC now pol im sps cs rs ps
  (y2::q.1,gB now sp t.2 p1 p2 p3++q.2.1,(decide (y2.bH=1)&&y2.bd)&&q.2.2)
 |_,cs,_,ps=>(cs,ps,YM)
theorem kP(now pol:Int)(im:List aw):∀(sps:List aP) (cs:List ag) (rs:List cp) (ps:List aF),(iC now pol im sps cs rs ps).1.length=cs.length∧(iC now pol im sps cs rs ps).2.1.length=ps.length
 |sp::sps,y::cs,r::rs,p1::p2::p3::ps=>by
  have:=kP now pol im sps cs rs ps
  unfold iC gB
  refine⟨by simp[this.1],?_⟩
  simp only[XC,this.2]
  split<;>simp<;>omega
 |[],cs,rs,ps=>by simp[iC]
 |sp::sps,[],rs,ps=>by simp[iC]
 |sp::sps,y::cs,[],ps=>by simp[iC]
 |sp::sps,y::cs,r::rs,[]=>by simp[iC]
 |sp::sps,y::cs,r::rs,[p]=>by simp[iC]
 |sp::sps,y::cs,r::rs,[p,q]=>by simp[iC]
open Go Go.Fw
set_option maxRecDepth 100000
set_option linter.unusedVariables false
set_option linter.unusedSimpArgs false
theorem ve{b:aj}{x:af}(hb:b.ah.aM.length≤1000)(hn:x.an.Spec.ad.length≤1000):∀(sps S0:List aP) (i:Nat) (A cs:List ag) (P ps:List aF) (R rs:List cp) (rdy:Bool),
 x.an.Spec.ad=S0++sps→x.aq=R++rs→S0.length=i→A.length=i→P.length=3*i→R.length=i→cs.length=sps.length→rs.length=sps.length→ps.length=3*sps.length→
 F89_l1 b x sps i (A++cs) (P++ps) rdy=YC (A++(iC b.ah.cl x.an.Spec.ca b.ah.aM sps cs rs ps).1,P++(iC b.ah.cl x.an.Spec.ca b.ah.aM sps cs rs ps).2.1,rdy&&(iC b.ah.cl x.an.Spec.ca b.ah.aM sps cs rs ps).2.2)
 |[],S0,i,A,cs,P,ps,R,rs,rdy,h1,h2,h3,h4,h5,h6,h7,h8,h9=>by
  unfold F89_l1 iC;simp
 |sp::sps,S0,i,A,[],P,ps,R,rs,rdy,h1,h2,h3,h4,h5,h6,h7,h8,h9=>by cases h7
 |sp::sps,S0,i,A,y::cs,P,ps,R,[],rdy,h1,h2,h3,h4,h5,h6,h7,h8,h9=>by cases h8
 |sp::sps,S0,i,A,y::cs,P,[],R,r::rs,rdy,h1,h2,h3,h4,h5,h6,h7,h8,h9=>by simp only[X0,XD]at h9;omega
 |sp::sps,S0,i,A,y::cs,P,[p1],R,r::rs,rdy,h1,h2,h3,h4,h5,h6,h7,h8,h9=>by simp only[X0,XD]at h9;omega
 |sp::sps,S0,i,A,y::cs,P,[p1,p2],R,r::rs,rdy,h1,h2,h3,h4,h5,h6,h7,h8,h9=>by simp only[X0,XD]at h9;omega
 |sp::sps,S0,i,A,y::cs,P,p1::p2::p3::ps,R,r::rs,rdy,h1,h2,h3,h4,h5,h6,h7,h8,h9=>by
  have hsp:x.an.Spec.ad[i]? =YC sp:=by rw[h1,←h3,eO]
  have hi:i≤1000:=by rw[h1]at hn;simp at hn;omega
  have hr:x.aq[i]? =YC r:=by rw[h2,←h6,eO]
  have hst:F137 i b (nJ x (A++y::cs) (P++p1::p2::p3::ps))=YC (A++K3 y sp b.ah.cl::cs,P++fX b.ah.cl sp.jl::fX b.ah.cl sp.bd::fX b.ah.cl sp.dt::ps):=yo (x:=nJ x (A++y::cs) (P++p1::p2::p3::ps)) hsp hi rfl h4 rfl h5
  have hre:F138 i b (nJ x (A++y::cs) (P++p1::p2::p3::ps))=YC (kJ x.an.Spec.ca y&&(lN b.ah.aM sp.aw&&decide (r.At≤b.ah.cl))):=pW (x:=nJ x (A++y::cs) (P++p1::p2::p3::ps)) hb (by show(A++y::cs)[i]? =_;rw[←h4,eO]) hsp hr
  unfold nJ at hst hre
  rw[F89_l1,cz,←h4,eO,YB,h4]
  have e1:∀(Z:List ag×List aF→Option (List ag×List aF×Bool)),(((((if y.bH=0 then(F63 sp.aw b).bind fun t8=>YC t8 else YC YL)).bind fun o6=>(if o6=YM then(F137 i b ((⟨(⟨x.an.ak,x.an.Spec,(⟨x.an.ae.bC,x.an.ae.bd,x.an.ae.bf,x.an.ae.Started,x.an.ae.bu,A++y::cs,x.an.ae.bS,x.an.ae.bg,x.an.ae.b7⟩:cK)⟩:an),P++p1::p2::p3::ps,x.aq,x.bh,x.bK⟩:af))).bind fun t10=>YC ((t10.1,t10.2))else(((if y.bH=2 then(F138 i b ((⟨(⟨x.an.ak,x.an.Spec,(⟨x.an.ae.bC,x.an.ae.bd,x.an.ae.bf,x.an.ae.Started,x.an.ae.bu,A++y::cs,x.an.ae.bS,x.an.ae.bg,x.an.ae.b7⟩:cK)⟩:an),P++p1::p2::p3::ps,x.aq,x.bh,x.bK⟩:af))).bind fun t13=>YC t13 else YC YL)).bind fun o11=>(if o11=YM then(F137 i b ((⟨(⟨x.an.ak,x.an.Spec,(⟨x.an.ae.bC,x.an.ae.bd,x.an.ae.bf,x.an.ae.Started,x.an.ae.bu,A++y::cs,x.an.ae.bS,x.an.ae.bg,x.an.ae.b7⟩:cK)⟩:an),P++p1::p2::p3::ps,x.aq,x.bh,x.bK⟩:af))).bind fun t15=>(cI t15.1 (i:Int)).bind fun y16=>YC (((t15.1.set ((i:Int)).toNat ((⟨y16.aV,y16.bH,(YG.wrap (y16.bk+1)),y16.bM,y16.dZ,y16.bd,y16.Started⟩:ag))),t15.2))else YC ((A++y::cs,P++p1::p2::p3::ps))))))).bind Z)=Z (A++(vf b.ah.cl x.an.Spec.ca b.ah.aM sp y r).1::cs,P++(gB b.ah.cl sp (vf b.ah.cl x.an.Spec.ca b.ah.aM sp y r).2 p1 p2 p3++ps)):=by
   intro Z
   rw[hst,hre,A8 hb]
   unfold vf
   by_cases h0:y.bH=0
   ·rw[if_pos h0]
    simp only[YB]
    cases hh:lN b.ah.aM sp.aw with
    |true=>simp[h0,gB]
    |false=>simp[h0,gB]
   ·rw[if_neg h0]
    simp only[YB]
    rw[if_neg (by simp)]
    by_cases h2:y.bH=2
    ·rw[if_pos h2]
     simp only[YB]
     cases hw:(kJ x.an.Spec.ca y&&(lN b.ah.aM sp.aw&&decide (r.At≤b.ah.cl)))with
     |true=>
      rw[if_pos rfl,cz,←h4,eO,YB,YQ,fK]
      simp[h2,gB,K3]
     |false=>simp[h2,gB]
    ·rw[if_neg h2]
     simp[h0,h2,gB]
  refine(congrArg (YD · _) (e1 _)).trans ?_
  simp only[cz]
  generalize hT:vf b.ah.cl x.an.Spec.ca b.ah.aM sp y r=T
  rw[←h4,eO,YB,h4]
  have e2:((if T.1.bH=1 then YC (decide ((sp.bd.length:Int)=0))else YC YL).bind fun o19=>(if o19=YM then YC (((A++T.1::cs).set ((i:Int)).toNat ((⟨T.1.aV,T.1.bH,T.1.bk,T.1.bM,T.1.dZ,T.1.Started,T.1.Started⟩:ag))))else YC (A++T.1::cs)))=YC (A++jj sp T.1::cs):=by
   unfold jj
   by_cases h1:T.1.bH=1
   ·rw[if_pos h1,Ig]
    cases hq:sp.bd with
    |nil=>simp only[YB,decide_true,if_true,YQ];rw[←h4,fK];simp[h1]
    |cons p q=>simp
   ·rw[if_neg h1];simp[h1]
  refine(congrArg (YD · _) (congrArg (YD · _) e2)).trans ?_
  rw[YB,←h4,eO,YB,h4]
  have e3:(if rdy=YM then(if(jj sp T.1).bH=1 then YC ((A++jj sp T.1::cs,P++(gB b.ah.cl sp T.2 p1 p2 p3++ps),(jj sp T.1).bd))else YC ((A++jj sp T.1::cs,P++(gB b.ah.cl sp T.2 p1 p2 p3++ps),YL)))else YC ((A++jj sp T.1::cs,P++(gB b.ah.cl sp T.2 p1 p2 p3++ps),YL)))=YC (A++jj sp T.1::cs,P++(gB b.ah.cl sp T.2 p1 p2 p3++ps),rdy&&(decide ((jj sp T.1).bH=1)&&(jj sp T.1).bd)):=by
   cases rdy with
   |false=>rfl
   |true=>by_cases h1:(jj sp T.1).bH=1<;>simp[h1]
  refine(congrArg (YD · _) e3).trans ?_
  rw[YB]
  have hb3:(gB b.ah.cl sp T.2 p1 p2 p3).length=3:=by unfold gB;split<;>rfl
  have ih:=ve hb hn sps (S0++[sp]) (i+1) (A++[jj sp T.1]) cs (P++gB b.ah.cl sp T.2 p1 p2 p3) ps (R++[r]) rs (rdy&&(decide ((jj sp T.1).bH=1)&&(jj sp T.1).bd)) (by rw[h1];simp) (by rw[h2];simp) (by simp[h3]) (by simp[h4]) (by simp[h5,hb3];omega) (by simp[h6]) (by simpa using h7) (by simpa using h8) (by simp only[XD]at h9;omega)
  simp only[XH,Yd]at ih
  rw[ih]
  conv=>rhs;rw[iC]
  simp only[hT,XH,Bool.and_assoc]
theorem vD(pol:Int){l:List ag}(h:l.length≤1000):∃r,F139 pol l=YC r:=by
 have done_ex:∀c:ag,∃r,F200 pol c=YC r:=fun c=>by
  unfold F200
  exact kC (fl (fun _=>fl (fun _=>⟨_,rfl⟩) fun _=>fl (fun _=>⟨_,rfl⟩) fun _=>⟨_,rfl⟩) fun _=>⟨_,rfl⟩) fun _ _=>⟨_,rfl⟩
 have hl:∀(l:List ag) (i:Nat) (a b c:Bool),∃r,F139_l1 pol l i a b c=YC r:=by
  intro l
  induction l with
  |nil=>intro i a b c;exact⟨_,rfl⟩
  |cons y l ih=>
   intro i a b c
   unfold F139_l1
   refine kC (kC (fl (fun _=>kC (done_ex y) fun _ _=>⟨_,rfl⟩) fun _=>⟨_,rfl⟩) fun _ _=>kC (fl (fun _=>⟨_,rfl⟩) fun _=>⟨_,rfl⟩) fun _ _=>fl (fun _=>⟨_,rfl⟩) fun _=>fl (fun _=>⟨_,rfl⟩) fun _=>fl (fun _=>⟨_,rfl⟩) fun _=>⟨_,rfl⟩) fun _ _=>ih _ _ _ _
 unfold F139
 refine kC (kC (Da (by omega)) fun _ _=>hl _ _ _ _ _) fun _ _=>kC (fl (fun _=>⟨_,rfl⟩) fun _=>⟨_,rfl⟩) fun _ _=>fl (fun _=>⟨_,rfl⟩) fun _=>fl (fun _=>⟨_,rfl⟩) fun _=>fl (fun _=>⟨_,rfl⟩) fun _=>⟨_,rfl⟩
def Lz(pol:Int)(l:List ag):Int:=(F139 pol l).getD 0
theorem yK(pol:Int){l:List ag}(h:l.length≤1000):F139 pol l=YC (Lz pol l):=by
 obtain⟨r,hr⟩:=vD pol h
 unfold Lz;rw[hr];rfl
def fh(p:Int):Bool:=decide (p=2)||decide (p=3)
theorem og(x:af):F62 x=YC (fh x.an.ae.bC):=by
 unfold F62 fh
 by_cases h:x.an.ae.bC=2<;>simp[h]
def lG(now:Int)(im:List aw)(x:af):af:=
 let q:=iC now x.an.Spec.ca im x.an.Spec.ad x.an.ae.ad x.aq x.aK
 let ph:=Lz x.an.Spec.ca q.1
 let rd:=q.2.2&&decide (ph=1)
 ⟨⟨x.an.ak,x.an.Spec,⟨ph,rd,if(rd&&nb x.an.ae.bd)=YM then now else x.an.ae.bf,x.an.ae.Started,if fh ph=YM then now else x.an.ae.bu,q.1,x.an.ae.bS,x.an.ae.bg,x.an.ae.b7⟩⟩,q.2.1,x.aq,x.bh,x.bK⟩
theorem HF{b:aj}{x:af}(hb:b.ah.aM.length≤1000)(h:PL x):F89 b x=YC ((lG b.ah.cl b.ah.aM x).an.ae.bC,(lG b.ah.cl b.ah.aM x).an.ae.bd,(lG b.ah.cl b.ah.aM x).an.ae.bf,(lG b.ah.cl b.ah.aM x).an.ae.bu,(lG b.ah.cl b.ah.aM x).an.ae.ad,(lG b.ah.cl b.ah.aM x).aK):=by
 have hl:=kP b.ah.cl x.an.Spec.ca b.ah.aM x.an.Spec.ad x.an.ae.ad x.aq x.aK
 have hc:=h.c;have hn:=h.n
 have:=ve hb h.n x.an.Spec.ad [] 0 [] x.an.ae.ad [] x.aK [] x.aq YM rfl rfl rfl rfl rfl rfl h.c h.r h.p
 simp only[XU,Bool.true_and]at this
 unfold F89 F89i
 rw[fR (by omega),YB,this]
 unfold lG
 generalize iC b.ah.cl x.an.Spec.ca b.ah.aM x.an.Spec.ad x.an.ae.ad x.aq x.aK=q at hl⊢
 obtain⟨q1,q2,q3⟩:=q
 simp only[YB]at hl⊢
 rw[yK _ (by rw[hl.1];omega)]
 simp only[YB]
 generalize Lz x.an.Spec.ca q1=ph
 have e1:(if q3=YM then YC (decide (ph=1))else YC YL)=YC (q3&&decide (ph=1)):=by cases q3<;>rfl
 rw[e1]
 simp only[YB]
 generalize (q3&&decide (ph=1))=rd
 have e2:(if rd=YM then YC (nb x.an.ae.bd)else YC YL)=YC (rd&&nb x.an.ae.bd):=by cases rd<;>rfl
 rw[e2]
 simp only[YB]
 have e3:(if(rd&&nb x.an.ae.bd)=YM then YC b.ah.cl else YC x.an.ae.bf)=YC (if(rd&&nb x.an.ae.bd)=YM then b.ah.cl else x.an.ae.bf):=by split<;>rfl
 rw[e3]
 simp only[YB,og]
 cases fh ph with
 |true=>simp only[if_true,YB];rw[if_pos ⟨hl.1,hl.2⟩]
 |false=>simp only[YN,if_false,YB];rw[if_pos ⟨hl.1,hl.2⟩]
open Go Go.Fw
set_option maxRecDepth 100000
set_option linter.unusedVariables false
set_option linter.unusedSimpArgs false
def i9(p:Probe)(s:aF)(pass:Bool)(now:Int):aF:=(F125 p s pass now).getD s
theorem yn(p:Probe)(s:aF)(pass:Bool)(now:Int):F125 p s pass now=YC (i9 p s pass now):=by
 have:∃r,F125 p s pass now=YC r:=by
  unfold F125 F188 F190 F189
  exact kC ⟨_,rfl⟩ fun _ _=>kC (kC ⟨_,rfl⟩ fun _ _=>⟨_,rfl⟩) fun _ _=>fl (fun _=>kC (kC ⟨_,rfl⟩ fun _ _=>⟨_,rfl⟩) fun _ _=>kC (fl (fun _=>⟨_,rfl⟩) fun _=>⟨_,rfl⟩) fun _ _=>⟨_,rfl⟩) fun _=>kC (kC ⟨_,rfl⟩ fun _ _=>⟨_,rfl⟩) fun _ _=>kC (fl (fun _=>⟨_,rfl⟩) fun _=>⟨_,rfl⟩) fun _ _=>⟨_,rfl⟩
 obtain⟨r,hr⟩:=this
 unfold i9;rw[hr];rfl
def vW(sp:aP)(k:Nat):List Probe:=if k=0 then sp.jl else if k=1 then sp.bd else sp.dt
theorem za(sp:aP){k:Nat}(h:k<3):F124 sp (k:Int)=YC (vW sp k):=by
 match k,h with
 |0,_=>rfl
 |1,_=>rfl
 |2,_=>rfl
def vE(n:Int):Int:=if n<1 then 1 else n
def Dp(now:Int)(sp:aP)(k:Nat)(pass:Bool)(y:ag)(s:aF)(r:cp):ag×aF×cp:=
 match vW sp k with
 |[]=>(y,s,r)
 |p::_=>if y.bH≠1∨(k<2∧y.Started=YL)then(y,s,r)else
  if k=0 then(if pass=YL∧vE p.fe≤(i9 p s pass now).fg then(F5 y now 137,i9 p s pass now,ke r now)else(y,i9 p s pass now,r))
  else if k=1 then(⟨y.aV,y.bH,y.bk,y.bM,y.dZ,(i9 p s pass now).Good,y.Started⟩,i9 p s pass now,r)
  else(⟨y.aV,y.bH,y.bk,y.bM,y.dZ,y.bd,y.Started||(i9 p s pass now).Good⟩,i9 p s pass now,r)
theorem zA{i k:Nat}{pass:Bool}{b:aj}{x:af}{sp:aP}{y:ag}{s:aF}{r:cp}(hi:i≤1000)(hk:k<3)(hs:x.an.Spec.ad[i]? =YC sp)(hy:x.an.ae.ad[i]? =YC y)(hr:x.aq[i]? =YC r)(hp:x.aK[3*i+k]? =YC s):
 F80 i k pass b x=YC (x.an.ae.ad.set i (Dp b.ah.cl sp k pass y s r).1,x.aK.set (3*i+k) (Dp b.ah.cl sp k pass y s r).2.1,x.aq.set i (Dp b.ah.cl sp k pass y s r).2.2):=by
 unfold F80 F80i
 rw[cz,hs,YB,za sp hk,YB,cz,hy,YB]
 unfold Dp
 have same:(YC (x.an.ae.ad,x.aK,x.aq):Option (List ag×List aF×List cp))=YC (x.an.ae.ad.set i y,x.aK.set (3*i+k) s,x.aq.set i r):=by
  rw[fT hy,fT hp,fT hr]
 generalize hl:vW sp k=l
 cases l with
 |nil=>
  rw[if_pos (by simp)]
  simp only[YB,if_true]
  rw[same]
  simp
 |cons p l=>
  rw[if_neg (by simp;omega)]
  have e1:(if¬(y.bH=1)then YC YM else(if(k:Int)<2 then YC (nb y.Started)else YC YL))=YC (decide (y.bH≠1∨(k<2∧y.Started=YL))):=by
   by_cases h1:y.bH=1
   ·rw[if_neg (by simp[h1])]
    by_cases h2:k<2
    ·rw[if_pos (by omega)];cases hst:y.Started<;>simp[h1,h2,nb]
    ·rw[if_neg (by omega)];simp[h1,h2]
   ·rw[if_pos h1];simp[h1]
  rw[e1]
  simp only[YB]
  by_cases hc:y.bH≠1∨(k<2∧y.Started=YL)
  ·rw[if_pos (by simpa using hc),if_pos hc,same]
   simp
  ·rw[if_neg (by simpa using hc),if_neg hc,show(0:Int)=((0:Nat):Int)from rfl,cz]
   simp only[X7,YB]
   rw[Iq hi k hk,cz,hp]
   simp only[YB,yn,YQ]
   generalize i9 p s pass b.ah.cl=t
   have hk3:k=0∨k=1∨k=2:=by omega
   rcases hk3 with rfl|rfl|rfl
   ·rw[if_pos (by omega),if_pos rfl]
    have e2:(if nb pass=YM then YC (decide ((if p.fe<1 then 1 else p.fe)≤t.fg))else YC YL)=YC (decide (pass=YL∧vE p.fe≤t.fg)):=by
     unfold vE
     cases pass<;>simp[nb]
    rw[e2]
    simp only[YB]
    by_cases h2:pass=YL∧vE p.fe≤t.fg
    ·rw[if_pos (by simpa using h2),if_pos h2]
     have he:=qm (i:=i) (code:=137) (b:=b) (x:=⟨x.an,x.aK.set (3*i+0) t,x.aq,x.bh,x.bK⟩) (y:=y) (r:=r) hy hr
     refine(congrArg (YD · _) (congrArg (YD · _) he)).trans ?_
     simp
    ·rw[if_neg (by simpa using h2),if_neg h2]
     simp only[YB]
     rw[fT hy,fT hr]
     simp
   ·rw[if_neg (by omega),if_pos (by omega),if_neg (by omega),if_pos rfl]
    simp only[YB]
    rw[fT hr]
    simp
   ·rw[if_neg (by omega),if_neg (by omega),if_pos (by omega)]
    have e3:(if(2:Nat)=0 then(if pass=YL∧vE p.fe≤t.fg then(F5 y b.ah.cl 137,t,ke r b.ah.cl)else(y,t,r))else if(2:Nat)=1 then((⟨y.aV,y.bH,y.bk,y.bM,y.dZ,t.Good,y.Started⟩:ag),t,r)else((⟨y.aV,y.bH,y.bk,y.bM,y.dZ,y.bd,y.Started||t.Good⟩:ag),t,r))=((⟨y.aV,y.bH,y.bk,y.bM,y.dZ,y.bd,y.Started||t.Good⟩:ag),t,r):=rfl
    rw[e3,fT hr]
    cases hst:y.Started<;>simp
theorem rX(n:ByteArray):∀(l:List aP) (i:Nat),∃o,F121_l1 n l i=YC o∧(match o with| .inl j=>∃k:Nat,j=((i+k:Nat):Int)∧k<l.length∧(l[k]?.map aP.aV)=YC n∧∀q<k,(l[q]?.map aP.aV)≠YC n| .inr _=>∀c∈l,c.aV≠n)
 |[],i=>⟨.inr (),rfl,by simp⟩
 |x::l,i=>by
  unfold F121_l1
  by_cases h:x.aV=n
  ·exact⟨.inl i,(if_pos h).trans rfl,0,by simp,by simp,by simp[h],by omega⟩
  ·obtain⟨o,h1,h2⟩:=rX n l (i+1)
   refine⟨o,(if_neg h).trans h1,?_⟩
   cases o with
   |inl j=>
    obtain⟨k,q1,q2,q3,q4⟩:=h2
    refine⟨k+1,by rw[q1];congr 1;omega,by simp;omega,by simpa using q3,fun q hq=>?_⟩
    cases q with
    |zero=>simpa using h
    |succ q=>simpa using q4 q (by omega)
   |inr u=>
    intro c hc
    rcases XN.1 hc with rfl|hc
    ·exact h
    ·exact h2 c hc
theorem Dj{x:af}(hn:x.an.Spec.ad.length≤1000)(n:ByteArray):(∃k:Nat,nu x n=YC (k:Int)∧k<x.an.Spec.ad.length∧(x.an.Spec.ad[k]?.map aP.aV)=YC n∧∀q<k,(x.an.Spec.ad[q]?.map aP.aV)≠YC n)∨(nu x n=YC (-1)∧∀c∈x.an.Spec.ad,c.aV≠n):=by
 have e:nu x n=F121 x.an.Spec.ad n:=by
  unfold nu F78 oV
  cases F121 x.an.Spec.ad n<;>rfl
 rw[e]
 unfold F121
 rw[fR (by omega),YB]
 obtain⟨o,h1,h2⟩:=rX n x.an.Spec.ad 0
 rw[h1]
 cases o with
 |inl j=>
  obtain⟨k,q1,q2,q3,q4⟩:=h2
  exact .inl ⟨k,by rw[q1];simp,q2,q3,q4⟩
 |inr u=>exact .inr ⟨rfl,h2⟩
open Go Go.Fw
set_option maxRecDepth 100000
set_option linter.unusedVariables false
set_option linter.unusedSimpArgs false
theorem PL.gT{x:af}(h:PL x){cs:List ag}{rs:List cp}(h1:cs.length=x.an.ae.ad.length)(h2:rs.length=x.aq.length):PL (gT x cs rs):=⟨h1.trans h.c,h.p,h2.trans h.r,h.n⟩
theorem PL.at{x:af}(h:PL x){i:Nat}{sp:aP}(hs:x.an.Spec.ad[i]? =YC sp):∃y r,x.an.ae.ad[i]? =YC y∧x.aq[i]? =YC r∧∀k<3,∃s,x.aK[3*i+k]? =YC s:=by
 have hi:i<x.an.Spec.ad.length:=(XO.1 hs).1
 have h1:=h.c;have h2:=h.r;have h3:=h.p
 exact⟨_,_,XG (by omega),XG (by omega),fun k hk=>⟨_,XG (by omega)⟩⟩
def wQ(now:Int)(v:aN)(x:af)(i:Nat):af:=
 match x.an.Spec.ad[i]?,x.an.ae.ad[i]?,x.aq[i]?,x.aK[3*i+(v.N-1).toNat]? with
 |some sp,YC y,YC r,os=>
  if v.bY=4 then(if y.bH=1 then gT x (x.an.ae.ad.set i (F5 y now v.N)) (x.aq.set i (ke r now))else x)
  else if 1≤v.N∧v.N≤3 then(match os with
   |some s=>⟨(gT x (x.an.ae.ad.set i (Dp now sp (v.N-1).toNat v.Ok y s r).1) x.aq).an,x.aK.set (3*i+(v.N-1).toNat) (Dp now sp (v.N-1).toNat v.Ok y s r).2.1,x.aq.set i (Dp now sp (v.N-1).toNat v.Ok y s r).2.2,x.bh,x.bK⟩
   |none=>x)
  else x
 |_,_,_,_=>x
theorem N5{b:aj}{v:aN}{x:af}{i:Nat}{sp:aP}(h:PL x)(hs:x.an.Spec.ad[i]? =YC sp):∃q,F30041f 0 b [] v i x=YC q∧KT x q=wQ b.ah.cl v x i:=by
 obtain⟨y,r,hy,hr,hp⟩:=h.at hs
 have hi:i≤1000:=by have:=(XO.1 hs).1;have:=h.n;omega
 unfold F30041f wQ
 rw[if_neg (by omega),hs,hy,hr]
 by_cases hk:v.bY=4
 ·rw[if_pos hk,cz,hy,YB]
  simp only[if_pos hk]
  by_cases h1:y.bH=1
  ·rw[if_pos h1,if_pos h1,qm hy hr];exact⟨_,rfl,rfl⟩
  ·rw[if_neg h1,if_neg h1];exact⟨_,rfl,rfl⟩
 ·rw[if_neg hk]
  simp only[if_neg hk]
  have e:(if 1≤v.N then YC (decide (v.N≤3))else YC YL)=YC (decide (1≤v.N∧v.N≤3)):=by
   by_cases h1:1≤v.N<;>simp[h1]
  rw[e,YB]
  by_cases h2:1≤v.N∧v.N≤3
  ·rw[if_pos (by simpa using h2),if_pos h2]
   have e2:YG.wrap (v.N-1)=(((v.N-1).toNat:Nat):Int):=by rw[dc (by omega) (by omega)];omega
   obtain⟨s,hs2⟩:=hp (v.N-1).toNat (by omega)
   rw[e2,zA hi (by omega) hs hy hr hs2,hs2]
   exact⟨_,rfl,rfl⟩
  ·rw[if_neg (by simpa using h2),if_neg h2];exact⟨_,rfl,rfl⟩
theorem DN{now:Int}{v:aN}{x:af}{i:Nat}(h:PL x):PL (wQ now v x i):=by
 unfold wQ
 split
 ·split
  ·split
   ·exact h.gT (by simp) (by simp)
   ·exact h
  ·split
   ·split
    ·exact⟨by simpa[gT]using h.c,by simpa[gT]using h.p,by simpa[gT]using h.r,h.n⟩
    ·exact h
   ·exact h
 ·exact h
theorem wP(now:Int)(v:aN)(x:af)(i:Nat):(wQ now v x i).an.ak=x.an.ak∧(wQ now v x i).an.Spec=x.an.Spec∧(wQ now v x i).an.ae.bC=x.an.ae.bC∧(wQ now v x i).an.ae.b7=x.an.ae.b7∧(wQ now v x i).an.ae.bu=x.an.ae.bu:=by
 unfold wQ
 split
 ·split
  ·split<;>exact⟨rfl,rfl,rfl,rfl,rfl⟩
  ·split
   ·split<;>exact⟨rfl,rfl,rfl,rfl,rfl⟩
   ·exact⟨rfl,rfl,rfl,rfl,rfl⟩
 ·exact⟨rfl,rfl,rfl,rfl,rfl⟩
def qt(now:Int):List aP→List ag→List aF→List aF
 |sp::sps,y::cs,p1::p2::p3::ps=>gB now sp (decide (y.bH=1)) p1 p2 p3++qt now sps cs ps
 |_,_,ps=>ps
theorem oK(now:Int)(sp:aP)(t:Bool)(p1 p2 p3:aF):(gB now sp t p1 p2 p3).length=3:=by unfold gB;split<;>rfl
theorem rU(now:Int):∀(sps:List aP) (cs:List ag) (ps:List aF),(qt now sps cs ps).length=ps.length
 |sp::sps,y::cs,p1::p2::p3::ps=>by
  have:=rU now sps cs ps
  unfold qt
  rw[XC,oK,this];simp;omega
 |[],cs,ps=>by simp[qt]
 |sp::sps,[],ps=>by simp[qt]
 |sp::sps,y::cs,[]=>by simp[qt]
 |sp::sps,y::cs,[p]=>by simp[qt]
 |sp::sps,y::cs,[p,q]=>by simp[qt]
theorem oA{b:aj}{x:af}(hn:x.an.Spec.ad.length≤1000):∀(cs:List ag) (sps S0:List aP) (i:Nat) (P ps:List aF),x.an.Spec.ad=S0++sps→S0.length=i→P.length=3*i→cs.length=sps.length→ps.length=3*sps.length→
 F30044f_l1 b x cs i (P++ps)=YC (P++qt b.ah.cl sps cs ps)
 |[],sps,S0,i,P,ps,h1,h3,h5,h7,h9=>by
  have:sps=[]:=XK.1 h7.symm
  subst this
  unfold F30044f_l1 qt;rfl
 |y::cs,[],S0,i,P,ps,h1,h3,h5,h7,h9=>by cases h7
 |y::cs,sp::sps,S0,i,P,[],h1,h3,h5,h7,h9=>by simp only[X0,XD]at h9;omega
 |y::cs,sp::sps,S0,i,P,[p1],h1,h3,h5,h7,h9=>by simp only[X0,XD]at h9;omega
 |y::cs,sp::sps,S0,i,P,[p1,p2],h1,h3,h5,h7,h9=>by simp only[X0,XD]at h9;omega
 |y::cs,sp::sps,S0,i,P,p1::p2::p3::ps,h1,h3,h5,h7,h9=>by
  have hsp:x.an.Spec.ad[i]? =YC sp:=by rw[h1,←h3,eO]
  have hi:i≤1000:=by rw[h1]at hn;simp at hn;omega
  have hbg:=rY (b:=b) (x:=⟨x.an,P++p1::p2::p3::ps,x.aq,x.bh,x.bK⟩) hsp hi rfl h5
  have ih:=oA (b:=b) hn cs sps (S0++[sp]) (i+1) (P++gB b.ah.cl sp (decide (y.bH=1)) p1 p2 p3) ps (by rw[h1];simp) (by simp[h3]) (by simp[h5,oK];omega) (by simpa using h7) (by simp only[XD]at h9;omega)
  simp only[XH]at ih
  rw[F30044f_l1]
  have e:(if y.bH=1 then(F86 (i:Int) b ((⟨x.an,P++p1::p2::p3::ps,x.aq,x.bh,x.bK⟩:af))).bind fun t5=>YC t5 else YC (P++p1::p2::p3::ps))=YC (P++(gB b.ah.cl sp (decide (y.bH=1)) p1 p2 p3++ps)):=by
   by_cases h1:y.bH=1
   ·rw[if_pos h1,hbg];simp[gB,h1]
   ·rw[if_neg h1];simp[gB,h1]
  refine(congrArg (YD · _) e).trans ?_
  rw[YB,ih]
  conv=>rhs;rw[qt]
theorem zu{b:aj}{x:af}(h:PL x):F30044f 0 b [] 0 0 x=YC (qt b.ah.cl x.an.Spec.ad x.an.ae.ad x.aK):=by
 have hc:=h.c;have hn:=h.n
 unfold F30044f
 rw[fR (by omega),YB]
 have:=oA (b:=b) h.n x.an.ae.ad x.an.Spec.ad [] 0 [] x.aK rfl rfl rfl h.c h.p
 simp only[XU]at this
 rw[this];rfl
theorem zw{b:aj}{x:af}(h:x.an.ae.ad=[]):F30044f 0 b [] 0 0 x=YC x.aK:=by
 unfold F30044f
 rw[h,fR (by simp),YB]
 rfl
def jY(l:List ag):Bool:=l.any fun c=>decide (c.bH=1)
theorem q7:∀(l:List ag) (i:Nat),∃o,F136_l1 l i=YC o∧(match o with| .inl j=>0≤j| .inr _=>False)=(jY l=YM)
 |[],i=>⟨.inr (),rfl,by simp[jY]⟩
 |x::l,i=>by
  unfold F136_l1
  by_cases h:x.bH=1
  ·exact⟨.inl i,(if_pos h).trans rfl,by simp[h,jY]⟩
  ·obtain⟨o,h1,h2⟩:=q7 l (i+1)
   exact⟨o,(if_neg h).trans h1,by rw[h2];simp[h,jY]⟩
theorem CG{l:List ag}(h:l.length≤1000):F87 l=YC (jY l):=by
 unfold F87 F136
 rw[fR (by omega),YB]
 obtain⟨o,h1,h2⟩:=q7 l 0
 rw[h1]
 cases o with
 |inl j=>simp only[YB];rw[YP.2 (show decide (0≤j)=YM↔_ from by simp only[decide_eq_true_eq];exact iff_of_eq h2)]
 |inr u=>
  simp only[YB]
  have h3:¬jY l=YM:=fun h=>by rw[←h2]at h;exact h
  rw[YO]at h3;rw[h3];rfl
def lE(now:Int)(x:af):List ag×List cp:=if x.bK≤now then gu now x.an.ae.ad x.aq else(x.an.ae.ad,x.aq)
theorem nF{now:Int}{x:af}(h:x.an.ae.ad.length=x.aq.length):(lE now x).1.length=x.an.ae.ad.length∧(lE now x).2.length=x.aq.length:=by
 unfold lE
 split
 ·exact iP now _ _ h
 ·exact⟨rfl,rfl⟩
def lZ(now:Int)(im:List aw)(x:af):Option af:=
 if fh x.an.ae.bC=YM then YC x else if x.bh=YM then
  if jY (lE now x).1=YM then YC ⟨⟨x.an.ak,x.an.Spec,⟨x.an.ae.bC,YL,x.an.ae.bf,x.an.ae.Started,x.an.ae.bu,(lE now x).1,x.an.ae.bS,x.an.ae.bg,x.an.ae.b7⟩⟩,x.aK,(lE now x).2,x.bh,x.bK⟩else none
 else YC (lG now im x)
theorem Cn{b:aj}{x:af}(hb:b.ah.aM.length≤1000)(h:fh x.an.ae.bC=YM∨PL x):oU b x=YC (lZ b.ah.cl b.ah.aM x):=by
 unfold oU lZ F45e
 rw[og]
 simp only[YB]
 cases hf:fh x.an.ae.bC with
 |true=>simp[nb]
 |false=>
  have h:PL x:=h.resolve_left (by simp[hf])
  simp only[nb,Bool.not_false,if_true,YN,if_false,YB]
  cases hst:x.bh with
  |true=>
   simp only[if_true]
   have e:(if x.bK≤b.ah.cl then(F85 b x).bind fun t8=>YC ((t8.1,t8.2))else YC ((x.an.ae.ad,x.aq)))=YC (lE b.ah.cl x):=by
    unfold lE
    split
    ·rw[uP h];rfl
    ·rfl
   rw[e]
   have hl:(lE b.ah.cl x).1.length≤1000:=by
    have h1:=(nF (now:=b.ah.cl) (x:=x) (by rw[h.c,h.r])).1
    have h2:=h.c;have h3:=h.n
    omega
   generalize lE b.ah.cl x=q at hl⊢
   simp only[YB]
   rw[CG hl]
   simp only[YB]
   cases hr:jY q.1 with
   |true=>simp[hst]
   |false=>simp
  |false=>
   simp only[YN,if_false]
   rw[HF hb h]
   simp only[YB,lG,hst]
theorem yG{now:Int}{im:List aw}{x:af}(h:PL x):PL (lG now im x):=by
 have hl:=kP now x.an.Spec.ca im x.an.Spec.ad x.an.ae.ad x.aq x.aK
 exact⟨hl.1.trans h.c,hl.2.trans h.p,h.r,h.n⟩
theorem iQ{now:Int}{im:List aw}{x y:af}(h:lZ now im x=YC y):y.an.ak=x.an.ak∧y.an.Spec=x.an.Spec∧(fh x.an.ae.bC=YM→y=x)∧(PL x→PL y):=by
 unfold lZ at h
 split at h
 ·cases h;exact⟨rfl,rfl,fun _=>rfl,id⟩
 ·rename_i hf
  split at h
  ·split at h
   ·cases h
    refine⟨rfl,rfl,fun h1=>absurd h1 hf,fun hp=>?_⟩
    have hl:=nF (now:=now) (x:=x) (by rw[hp.c,hp.r])
    exact⟨hl.1.trans hp.c,hp.p,hl.2.trans hp.r,hp.n⟩
   ·cases h
  ·cases h
   exact⟨rfl,rfl,fun h1=>absurd h1 hf,yG⟩
open Go Go.Fw
set_option maxRecDepth 100000
set_option linter.unusedVariables false
set_option linter.unusedSimpArgs false
def kz(m:ak):ByteArray:=(((m.bY++(⟨#[47]⟩:ByteArray))++m.bE)++(⟨#[47]⟩:ByteArray))++m.aV
theorem KM:(⟨#[47]⟩:ByteArray).size=1:=rfl
def KW(m:ak):Prop:=m.bY.size+m.bE.size+m.aV.size≤4000000
theorem lC{m:ak}(h:KW m):F74 m=YC (kz m):=by
 unfold KW at h
 rw[F74,F116,nh (by rw[KM];omega),YB,nh (by rw[bsize,KM];omega),YB,nh (by rw[bsize,bsize,KM];omega),YB,nh (by rw[bsize,bsize,bsize,KM];omega)]
 rfl
theorem As{m:ak}(h:KW m):F15 m=YC (kz m):=lC h
def ky(x:af):ByteArray:=kz x.an.ak
abbrev KS(ps:List af):Prop:=ps.Pairwise fun a b=>lt (ky a) (ky b)
theorem Bt{x:af}(h:KW x.an.ak)(w:ByteArray):F77 (fy x) w=YC (gy (ky x) w):=by
 unfold F77
 rw[show(fy x).an.ak=x.an.ak from rfl,lC h];rfl
theorem CR{ps:List af}(hk:∀x∈ps,KW x.an.ak)(w:ByteArray):∀(k:Nat) (i j:Int),F76_l1 (ps.map fy) w k i j=Gm (fun x=>gy (ky x) w) ps k i j:=by
 intro k
 induction k with
 |zero=>intro i j;rfl
 |succ k ih=>
  intro i j
  rw[F76_l1,Gm]
  split
  ·have e:cI (ps.map fy) (gf i j)=(cI ps (gf i j)).map fy:=by unfold cI;split<;>simp
   refine(congrArg (YD · _) e).trans ?_
   cases hy:cI ps (gf i j)with
   |none=>rfl
   |some x=>
    have hx:x∈ps:=by
     unfold cI at hy
     split at hy
     ·exact List.mem_of_getElem? hy
     ·cases hy
    simp only[YE,YB]
    refine(congrArg (YD · _) (Bt (hk x hx) w)).trans ?_
    rw[YB,ih,ih];rfl
  ·rfl
theorem sS{ps:List af}(h:KS ps)(w:ByteArray):S (fun x=>gy (ky x) w) ps:=by
 refine h.imp fun{a b} hab hb=>?_
 rw[yw]at hb
 rw[gv]
 rcases hb with hb|hb
 ·exact lt_trans hab hb
 ·exact hb▸hab
theorem CY{b:aj}{ps:List af}(h:KS ps)(hl:ps.length≤1000)(hk:∀x∈ps,KW x.an.ak)(w:ByteArray):F39 w (mT b ps)=YC ((nw (fun x=>gy (ky x) w) ps:Int),kZ (fun x=>gy (ky x) w) ps):=by
 show(F76 (ps.map fy) w).bind _=_
 unfold F76
 have hs:=sS h w
 have hp:=qb (fun x=>gy (ky x) w) ps
 rw[CR hk,XV]
 have:=la hs (by omega) 1099511627776 0 ps.length (by omega) (by omega) hp (YT _)
 rw[show((0:Nat):Int)=0 from rfl]at this
 rw[this,YB]
 have ef:=CX hs
 have e2:(if(nw (fun x=>gy (ky x) w) ps:Int)<(ps.length:Int)then(cI (ps.map fy) (nw (fun x=>gy (ky x) w) ps:Int)).bind fun y8=>(F77 y8 w).bind fun t9=>YC (decide (t9=0))else YC YL)=YC (kZ (fun x=>gy (ky x) w) ps):=by
  rw[←ef]
  split
  ·rename_i hc
   rw[cz,cz,Yw]
   rw[XG (by omega)]
   simp only[YE,YB]
   rw[Bt (hk _ (X4 _))];rfl
  ·rfl
 refine(congrArg (YD · _) (congrArg (YD · _) e2)).trans rfl
theorem mX{b:aj}{ps:List af}(h:KS ps)(hl:ps.length≤1000)(hk:∀x∈ps,KW x.an.ak)(w:ByteArray):
 (∃A x C,ps=A++x::C∧ky x=w∧F39 w (mT b ps)=YC ((A.length:Int),YM))∨(∃A C,ps=A++C∧(∀a∈A,lt (ky a) w)∧(∀c∈C,lt w (ky c))∧F39 w (mT b ps)=YC ((A.length:Int),YL)):=by
 have hf:=CY (b:=b) h hl hk w
 have hs:=sS h w
 have hp:=qb (fun x=>gy (ky x) w) ps
 have hi:=mI hs
 generalize hq:nw (fun x=>gy (ky x) w) ps=q at hf hp hi
 have hat:=mY hs
 rw[hq]at hat
 have hA:∀a∈ps.take q,lt (ky a) w:=by
  intro a ha
  obtain⟨i,hi2,rfl⟩:=Ys.1 ha
  rw[XL]at hi2
  rw[List.getElem_take]
  have:=(hi i (by omega)).2 (by omega)
  exact(gv _ _).1 this
 cases hh:kZ (fun x=>gy (ky x) w) ps with
 |true=>
  rw[hh]at hf hat
  have hlt:q<ps.length:=by
   by_cases h1:q<ps.length
   ·exact h1
   ·rw[Yr (by omega)]at hat;cases hat
  rw[XG hlt]at hat
  refine .inl ⟨ps.take q,ps[q],ps.drop (q+1),by rw[List.getElem_cons_drop,XZ],?_,by rw[XL,YV hp];exact hf⟩
  simp only[YE,YF,decide_eq_true_eq]at hat
  exact(iR _ _).1 hat
 |false=>
  rw[hh]at hf
  refine .inr ⟨ps.take q,ps.drop q,(XZ _ _).symm,hA,fun c hc=>?_,by rw[XL,YV hp];exact hf⟩
  obtain⟨i,hi2,rfl⟩:=Ys.1 hc
  rw[XW]at hi2
  rw[List.getElem_drop]
  have h1:=mt (hi (q+i) (by omega)).1 (by omega)
  have h2:¬gy (ky ps[q+i]) w=0:=by
   intro h0
   simp only[kZ,Yf,decide_eq_true_eq]at hh
   exact hh _ (X4 _) h0
  rcases vR (ky ps[q+i]) w with h3|h3|h3
  ·exact(h1 ((gv _ _).2 h3)).elim
  ·exact(h2 ((iR _ _).2 h3)).elim
  ·exact h3
def qk(w:ByteArray)(ps:List af):Bool:=ps.any fun x=>decide (ky x=w)
def hD(w:ByteArray)(f:af→af)(ps:List af):List af:=ps.map fun x=>if ky x=w then f x else x
def wy(w:ByteArray)(ps:List af):List af:=ps.filter fun x=>decide (ky x≠w)
def iv(y:af):List af→List af
 |[]=>[y]
 |x::l=>if lt (ky y) (ky x)then y::x::l else x::iv y l
theorem qi{A C:List af}{x:af}(h:KS (A++x::C)):(∀a∈A,lt (ky a) (ky x))∧∀c∈C,lt (ky x) (ky c):=by
 obtain⟨_,h2,h3⟩:=XM.1 h
 exact⟨fun a ha=>h3 a ha x (XF ..),(XJ.1 h2).1⟩
theorem mz{w:ByteArray}{f:af→af}:∀{l:List af},(∀a∈l,ky a≠w)→hD w f l=l
 |[],_=>rfl
 |a::l,h=>by
  have:=mz (f:=f) fun b hb=>h b (XI a hb)
  unfold hD at this⊢
  rw[X5,if_neg (h a (XF ..)),this]
theorem mA{A C:List af}{x:af}(h:KS (A++x::C))(f:af→af):hD (ky x) f (A++x::C)=A++f x::C:=by
 obtain⟨h1,h2⟩:=qi h
 have e1:=mz (w:=ky x) (f:=f) fun a ha=>ga (h1 a ha)
 have e2:=mz (w:=ky x) (f:=f) fun c hc=>(ga (h2 c hc)).symm
 unfold hD at e1 e2⊢
 rw[List.map_append,X5,if_pos rfl,e1,e2]
theorem qp{w:ByteArray}:∀{l:List af},(∀a∈l,ky a≠w)→wy w l=l:=fun{l} h=>List.filter_eq_self.2 fun a ha=>by simpa using h a ha
theorem zt{A C:List af}{x:af}(h:KS (A++x::C)):wy (ky x) (A++x::C)=A++C:=by
 obtain⟨h1,h2⟩:=qi h
 have e1:=qp (w:=ky x) fun a ha=>ga (h1 a ha)
 have e2:=qp (w:=ky x) fun c hc=>(ga (h2 c hc)).symm
 unfold wy at e1 e2⊢
 rw[XS,XP,if_neg (by simp),e1,e2]
theorem ze{A C:List af}{x:af}:qk (ky x) (A++x::C)=YM:=by simp[qk]
theorem wa{w:ByteArray}{A C:List af}(h1:∀a∈A,lt (ky a) w)(h2:∀c∈C,lt w (ky c)):qk w (A++C)=YL:=by
 unfold qk
 rw[Yf]
 intro x hx
 rw[decide_eq_true_eq]
 rcases XX.1 hx with hx|hx
 ·exact ga (h1 x hx)
 ·exact(ga (h2 x hx)).symm
theorem rK{y:af}:∀{A C:List af},(∀a∈A,lt (ky a) (ky y))→(∀c∈C,lt (ky y) (ky c))→iv y (A++C)=A++y::C
 |[],[],_,_=>rfl
 |[],c::C,_,h2=>by show iv y (c::C)=_;rw[iv,if_pos (h2 c (XF ..))];rfl
 |a::A,C,h1,h2=>by
  show iv y (a::(A++C))=_
  rw[iv,if_neg (lt_asymm (h1 a (XF ..))),rK (fun b hb=>h1 b (XI _ hb)) h2];rfl
open Go Go.Fw
set_option maxRecDepth 100000
set_option linter.unusedVariables false
set_option linter.unusedSimpArgs false
theorem uI:∀(l:List aw) (i:Nat) (a:Int),∃r,F126_l1 l i a=YC r
 |[],i,a=>⟨_,rfl⟩
 |x::l,i,a=>by unfold F126_l1;exact uI l _ _
theorem pO{l:List aw}(h:l.length≤1000):∃r,F126 l=YC r:=by
 unfold F126
 exact kC (kC (Da (by omega)) fun _ _=>uI _ _ _) fun _ _=>⟨_,rfl⟩
theorem qW(n:ByteArray):∀(l:List ByteArray) (i:Nat),∃o,F219_l1 n l i=YC o
 |[],i=>⟨_,rfl⟩
 |x::l,i=>by
  unfold F219_l1
  exact fl (fun _=>⟨_,rfl⟩) fun _=>qW n l _
theorem uW(n:ByteArray){l:List ByteArray}(h:l.length≤4000000):∃r,F191 l n=YC r:=by
 unfold F191 F219
 refine kC (kC (kC (Da (by omega)) fun _ _=>qW _ _ _) fun o _=>?_) fun _ _=>⟨_,rfl⟩
 cases o<;>exact⟨_,rfl⟩
theorem qd(L:List aw)(us:List ByteArray)(hu:us.length≤4000000):∀(l:List aw) (i:Nat) (c:Int),L.length=i+l.length→(c= -1∨0≤c∧c<L.length)→∃r,F127_l1 L us l i c=YC r∧(r= -1∨0≤r∧r<L.length)
 |[],i,c,h,hc=>⟨c,rfl,hc⟩
 |x::l,i,c,h,hc=>by
  unfold F127_l1
  simp only[XD]at h
  obtain⟨t,ht⟩:=uW x.aV hu
  rw[ht,YB]
  have e:∃o,(if nb t=YM then(if c<0 then YC YM else(cI L c).bind fun y8=>YC (decide (x.ik<y8.ik)))else YC YL)=YC o:=fl (fun _=>fl (fun _=>⟨_,rfl⟩) fun _=>kC (mH (by omega) (by omega)) fun _ _=>⟨_,rfl⟩) fun _=>⟨_,rfl⟩
  obtain⟨o,ho⟩:=e
  rw[ho,YB]
  cases o with
  |true=>exact qd L us hu l (i+1) i (by omega) (.inr ⟨by omega,by omega⟩)
  |false=>exact qd L us hu l (i+1) c (by omega) hc
theorem vF{L:List aw}{us:List ByteArray}(hu:us.length≤4000000)(h:L.length≤1000):∃r,F127 L us=YC r∧(r= -1∨0≤r∧r<L.length):=by
 unfold F127
 rw[fR (by omega),YB]
 obtain⟨r,h1,h2⟩:=qd L us hu L 0 (-1) (by simp) (.inl rfl)
 rw[h1];exact⟨r,rfl,h2⟩
theorem Dk(us:List ByteArray)(hu:us.length≤4000000)(d w:Int):∀(m k:Nat) (l:List aw) (g:List ByteArray),l.length≤m→m<k→l.length+g.length≤1000→∃r,F81_l4 us d k w l g=YC r∧r.1.length≤l.length:=by
 intro m
 induction m with
 |zero=>
  intro k l g h1 h2 h3
  cases k with
  |zero=>omega
  |succ k=>
   unfold F81_l4
   generalize YG.wrap (w*(if 1000000000000000<(if d<0 then 0 else d)then 1000000000000000 else(if d<0 then 0 else d)))=W
   obtain⟨t,ht⟩:=pO (l:=l) (by omega)
   rw[ht,YB]
   obtain⟨r,h4,h5⟩:=vF (L:=l) hu (by omega)
   rw[h4,YB,if_pos (show r<0 by omega)]
   split
   ·exact⟨_,rfl,by simp⟩
   ·exact⟨_,rfl,by simp⟩
 |succ m ih=>
  intro k l g h1 h2 h3
  cases k with
  |zero=>omega
  |succ k=>
   unfold F81_l4
   generalize YG.wrap (w*(if 1000000000000000<(if d<0 then 0 else d)then 1000000000000000 else(if d<0 then 0 else d)))=W
   obtain⟨t,ht⟩:=pO (l:=l) (by omega)
   rw[ht,YB]
   obtain⟨r,h4,h5⟩:=vF (L:=l) hu (by omega)
   rw[h4,YB]
   split
   ·by_cases hr:r<0
    ·rw[if_pos hr];exact⟨_,rfl,by simp⟩
    ·rw[if_neg hr]
     obtain⟨y,hy⟩:=mH (l:=l) (i:=r) (by omega) (by omega)
     rw[hy,YB,jG (by simp;omega),YB,show YG.wrap (r+1)=r+1 from dc (by omega) (by omega)]
     have hd:oz l r (r+1)=YC (l.take r.toNat++l.drop (r+1).toNat):=if_pos (by omega)
     rw[hd,YB]
     have hl:(l.take r.toNat++l.drop (r+1).toNat).length+1=l.length:=by
      rw[XC,XL,XW];omega
     obtain⟨q,h6,h7⟩:=ih k (l.take r.toNat++l.drop (r+1).toNat) (g++[y.aV]) (by omega) (by omega) (by rw[XC];simp;omega)
     exact⟨q,h6,by omega⟩
   ·exact⟨_,rfl,by simp⟩
theorem Dl{us:List ByteArray}(hu:us.length≤4000000)(d hi lo:Int){l:List aw}(h:l.length≤64):∃r,F81 l us d hi lo=YC r∧r.1.length≤64:=by
 unfold F81
 rw[Dn (by omega),YB]
 obtain⟨t,ht⟩:=pO (l:=l) (by omega)
 rw[ht,YB]
 generalize (if(if 100<(if hi<0 then 0 else hi)then 100 else(if hi<0 then 0 else hi))<(if lo<0 then 0 else lo)then(if 100<(if hi<0 then 0 else hi)then 100 else(if hi<0 then 0 else hi))else(if lo<0 then 0 else lo))=w
 generalize YG.wrap ((if 100<(if hi<0 then 0 else hi)then 100 else(if hi<0 then 0 else hi))*(if 1000000000000000<(if d<0 then 0 else d)then 1000000000000000 else(if d<0 then 0 else d)))=W
 obtain⟨r,h1,h2⟩:=Dk us hu d w l.length 1099511627776 l [] (YT _) (by omega) (by simp;omega)
 rw[h1]
 split
 ·exact⟨_,rfl,by simpa using h⟩
 ·exact⟨_,rfl,by simp only[];omega⟩
theorem qO(n:ByteArray):∀(l:List aw) (i:Nat),∃o,F129v1_l1 n l i=YC o∧(match o with| .inl j=>(i:Int)≤j∧j<(i+l.length:Nat)| .inr _=>True)
 |[],i=>⟨_,rfl,trivial⟩
 |x::l,i=>by
  unfold F129v1_l1 F130
  rw[YB]
  split
  ·exact⟨_,rfl,by simp;omega⟩
  ·obtain⟨o,h1,h2⟩:=qO n l (i+1)
   refine⟨o,h1,?_⟩
   cases o with
   |inl j=>simp only[XD]at h2⊢;omega
   |inr u=>trivial
theorem B0(n:ByteArray)(z now:Int){l:List aw}(h:l.length≤64):∃r,F82 l n z now=YC r∧r.length≤64:=by
 unfold F82 F129v1
 rw[Dn (by omega),YB,fR (by omega),YB]
 obtain⟨o,h1,h2⟩:=qO n l 0
 rw[h1,YB]
 have key:∀t:Int,(t= -1∨0≤t∧t<l.length)→∃r,((if 0≤t then(cI l t).bind fun y5=>YC (decide (y5.aV=n))else YC YL).bind fun o3=>(if o3=YM then(cI l t).bind fun y7=>YC ((l.set t.toNat ((⟨n,(if 1000000000000000<(if z<0 then 0 else z)then 1000000000000000 else(if z<0 then 0 else z)),(if(if 1000000000000<(if now<0 then 0 else now)then 1000000000000 else(if now<0 then 0 else now))<y7.ik then y7.ik else(if 1000000000000<(if now<0 then 0 else now)then 1000000000000 else(if now<0 then 0 else now)))⟩:aw))))else(if 64≤(l.length:Int)then YC l else(if t<0 then(jz l ([(⟨n,(if 1000000000000000<(if z<0 then 0 else z)then 1000000000000000 else(if z<0 then 0 else z)),(if 1000000000000<(if now<0 then 0 else now)then 1000000000000 else(if now<0 then 0 else now))⟩:aw)])).bind fun a10=>YC a10 else(lL l t ((⟨n,(if 1000000000000000<(if z<0 then 0 else z)then 1000000000000000 else(if z<0 then 0 else z)),(if 1000000000000<(if now<0 then 0 else now)then 1000000000000 else(if now<0 then 0 else now))⟩:aw))).bind fun t11=>YC t11))))=YC r∧r.length≤64:=by
  intro t ht
  have e:∃o,(if 0≤t then(cI l t).bind fun y5=>YC (decide (y5.aV=n))else YC YL)=YC o∧(o=YM→0≤t):=by
   by_cases h0:0≤t
   ·obtain⟨y,hy⟩:=mH (l:=l) (i:=t) h0 (by omega)
    rw[if_pos h0,hy];exact⟨_,rfl,fun _=>h0⟩
   ·rw[if_neg h0];exact⟨_,rfl,fun h=>by cases h⟩
  obtain⟨o,ho,ho2⟩:=e
  rw[ho,YB]
  cases o with
  |true=>
   obtain⟨y,hy⟩:=mH (l:=l) (i:=t) (ho2 rfl) (by have:=ho2 rfl;omega)
   rw[if_pos rfl,hy]
   exact⟨_,rfl,by simpa using h⟩
  |false=>
   rw[if_neg (by simp)]
   by_cases h64:64≤(l.length:Int)
   ·rw[if_pos h64];exact⟨_,rfl,h⟩
   ·rw[if_neg h64]
    by_cases h0:t<0
    ·rw[if_pos h0,jG (by simp;omega)];exact⟨_,rfl,by simp;omega⟩
    ·rw[if_neg h0]
     have hi:∀y:aw,lL l t y=YC (l.take t.toNat++y::l.drop t.toNat):=fun y=>if_pos (by omega)
     rw[hi]
     exact⟨_,rfl,by rw[XC,XD,XL,XW];omega⟩
 cases o with
 |inl j=>simp only[YB];exact key j (.inr (by simp only[]at h2;omega))
 |inr u=>exact key (-1) (.inl rfl)
open Go Go.Fw
set_option maxRecDepth 100000
set_option linter.unusedVariables false
set_option linter.unusedSimpArgs false
structure Kt where
 o:Bool
 p:Int
 e:Int
 k:ByteArray
 deriving DecidableEq
def eK(x:Entry):Kt:=⟨decide (0<x.dE),x.eJ,x.dE,x.key⟩
def fP(a b:Kt):Prop:=(a.o=YM∧b.o=YL)∨a.o=b.o∧(a.p<b.p∨a.p=b.p∧(b.e<a.e∨a.e=b.e∧lt a.k b.k))
instance(a b:Kt):Decidable (fP a b):=inferInstanceAs (Decidable (_∨_))
def km(a b:Kt):Int:=if fP a b then-1 else if a=b then 0 else 1
theorem ez(a:Kt):¬fP a a:=by
 rintro(⟨h1,h2⟩|⟨_,h|⟨_,h|⟨_,h⟩⟩⟩)
 ·rw[h1]at h2;cases h2
 ·omega
 ·omega
 ·exact lt_irrefl _ h
theorem gn{a b c:Kt}(h:fP a b)(h':fP b c):fP a c:=by
 unfold fP at*
 rcases h with⟨h1,h2⟩|⟨h1,h⟩
 ·rcases h' with⟨g1,g2⟩|⟨g1,g⟩
  ·exact .inl ⟨h1,g2⟩
  ·exact .inl ⟨h1,g1▸h2⟩
 ·rcases h' with⟨g1,g2⟩|⟨g1,g⟩
  ·exact .inl ⟨h1.trans g1,g2⟩
  ·refine .inr ⟨h1.trans g1,?_⟩
   rcases h with h|⟨h2,h⟩<;>rcases g with g|⟨g2,g⟩
   ·exact .inl (by omega)
   ·exact .inl (by omega)
   ·exact .inl (by omega)
   ·refine .inr ⟨by omega,?_⟩
    rcases h with h|⟨h3,h⟩<;>rcases g with g|⟨g3,g⟩
    ·exact .inl (by omega)
    ·exact .inl (by omega)
    ·exact .inl (by omega)
    ·exact .inr ⟨by omega,lt_trans h g⟩
theorem sY{a b:Kt}(h:fP a b):¬fP b a:=fun h'=>ez a (gn h h')
theorem rD{a b:Kt}(h:¬fP a b)(h':¬fP b a):a=b:=by
 obtain⟨o,p,e,k⟩:=a
 obtain⟨o',p',e',k'⟩:=b
 unfold fP at h h'
 simp only[not_or,not_and]at h h'
 have ho:o=o':=by
  cases o<;>cases o'<;>first|rfl|(simp at h h')
 subst ho
 have h:=h.2 rfl;have h':=h'.2 rfl
 have hp:p=p':=by omega
 subst hp
 have h:=h.2 rfl;have h':=h'.2 rfl
 have he:e=e':=by omega
 subst he
 rw[sX (h.2 rfl) (h'.2 rfl)]
theorem mM(a b:Kt):fP a b∨a=b∨fP b a:=by
 by_cases h:fP a b
 ·exact .inl h
 ·by_cases h':fP b a
  ·exact .inr (.inr h')
  ·exact .inr (.inl (rD h h'))
theorem gU(a b:Kt):km a b<0↔fP a b:=by
 unfold km
 by_cases h:fP a b
 ·simp[h]
 ·rw[if_neg h]
  refine iff_of_false ?_ h
  split<;>omega
theorem oD(a b:Int):F198 a b=YC (if a<b then-1 else if b<a then 1 else 0):=by
 unfold F198 F222
 simp only[YB,not_true_eq_false,if_false]
 split
 ·rfl
 ·split<;>rfl
theorem N4(x y:Entry):F196 x y=YC (km (eK x) (eK y)):=by
 unfold F196
 have hex:∀a b c:Int,F197 (lit [a,b,c])=YC (if a≠0 then a else if b≠0 then b else c):=by
  intro a b c
  show F197 [a,b,c]=_
  unfold F197
  rw[fR (by simp),YB]
  unfold F197_l1
  by_cases ha:a=0
  ·rw[if_neg (by simpa using ha)]
   unfold F197_l1
   by_cases hb:b=0
   ·rw[if_neg (by simpa using hb)]
    unfold F197_l1
    by_cases hc:c=0
    ·rw[if_neg (by simpa using hc)];simp[ha,hb,hc,F197_l1]
    ·rw[if_pos hc];simp[ha,hb]
   ·rw[if_pos hb];simp[ha,hb]
  ·rw[if_pos ha];simp[ha]
 by_cases ho:decide (0<x.dE)=decide (0<y.dE)
 ·rw[if_neg (by simp[ho])]
  rw[oD,YB,oD,YB,show F32 x.key y.key=YC (gy x.key y.key)from rfl,YB,hex,YB]
  congr 1
  have hn:=gv x.key y.key
  have hz:=iR x.key y.key
  unfold km fP eK
  simp only[ho,true_and]
  have hno:¬(decide (0<y.dE)=YM∧decide (0<y.dE)=YL):=by
   rintro⟨h1,h2⟩;rw[h1]at h2;cases h2
  simp only[hno,false_or,Kt.mk.injEq,true_and]
  by_cases h1:x.eJ<y.eJ
  ·simp[h1]
  ·by_cases h2:y.eJ<x.eJ
   ·have h3:¬x.eJ=y.eJ:=by omega
    simp[h1,h2,h3]
   ·have h3:x.eJ=y.eJ:=by omega
    simp only[h3,YS,if_false,false_or,true_and,ne_eq,not_true_eq_false]
    by_cases h4:y.dE<x.dE
    ·simp[h4]
    ·by_cases h5:x.dE<y.dE
     ·have h6:¬x.dE=y.dE:=by omega
      simp[h4,h5,h6]
     ·have h6:x.dE=y.dE:=by omega
      simp only[h6,YS,if_false,false_or,true_and,ne_eq,not_true_eq_false]
      unfold gy
      rfl
 ·rw[if_pos (by simpa using ho)]
  unfold km fP eK
  by_cases hx:0<x.dE
  ·have hy:¬0<y.dE:=fun hy=>ho (by simp[hx,hy])
   simp[hx,hy]
  ·have hy:0<y.dE:=by
    by_cases hy:0<y.dE
    ·exact hy
    ·exact(ho (by simp[hx,hy])).elim
   simp[hx,hy]
open Go Go.Fw
set_option maxRecDepth 100000
set_option linter.unusedVariables false
set_option linter.unusedSimpArgs false
def jq(l:List Entry):Prop:=l.Pairwise fun a b=>¬fP (eK b) (eK a)
def fH(X Y:List Entry):Prop:=∀k:Kt,X.filter (fun z=>decide ((eK z)=k))=Y.filter (fun z=>decide ((eK z)=k))
theorem fH.rf(X:List Entry):fH X X:=fun _=>rfl
theorem fH.sy{X Y:List Entry}(h:fH X Y):fH Y X:=fun k=>(h k).symm
theorem fH.tr{X Y Z:List Entry}(h:fH X Y)(h2:fH Y Z):fH X Z:=fun k=>(h k).trans (h2 k)
theorem fH.app{X Y X' Y':List Entry}(h:fH X Y)(h2:fH X' Y'):fH (X++X') (Y++Y'):=fun k=>by rw[XS,XS,h k,h2 k]
theorem fH.swap{X Y:List Entry}(h:∀x∈X,∀y∈Y,(eK x)≠(eK y)):fH (X++Y) (Y++X):=fun k=>by
 rw[XS,XS]
 by_cases hx:∃x∈X,(eK x)=k
 ·obtain⟨x,hx,rfl⟩:=hx
  have:Y.filter (fun z=>decide ((eK z)=(eK x)))=[]:=X8.2 fun y hy=>by simpa using fun e=>h x hx y hy e.symm
  rw[this];simp
 ·have:X.filter (fun z=>decide ((eK z)=k))=[]:=X8.2 fun x hx'=>by simpa using fun e=>hx ⟨x,hx',e⟩
  rw[this];simp
theorem fH.perm{X Y:List Entry}(h:fH X Y):X.Perm Y:=Yt.2 fun a=>by
 have key:∀Z:List Entry,Z.count a=(Z.filter fun z=>decide ((eK z)=(eK a))).count a:=fun Z=>by
  rw[Yz (by simp)]
 rw[key X,key Y,h (eK a)]
theorem mb{a b c:Kt}(h1:¬fP b a)(h2:¬fP c b):¬fP c a:=by
 intro h
 rcases mM a b with h3|h3|h3
 ·exact h2 (gn h h3)
 ·subst h3;exact h2 h
 ·exact h1 h3
theorem nH:∀{X Y:List Entry},jq X→jq Y→fH X Y→X=Y
 |[],Y,_,_,h=>by have:=h.perm.length_eq;exact(XK.1 this.symm).symm
 |x::X,[],_,_,h=>by have:=h.perm.length_eq;simp at this
 |x::X,y::Y,hX,hY,h=>by
  have hX2:=XJ.1 hX
  have hY2:=XJ.1 hY
  have hxy:(eK x)=(eK y):=by
   have h1:x∈y::Y:=h.perm.mem_iff.1 (XF ..)
   have h2:y∈x::X:=h.perm.mem_iff.2 (XF ..)
   have n1:¬fP (eK x) (eK y):=by
    rcases XN.1 h1 with e|h1
    ·rw[e];exact ez _
    ·exact hY2.1 x h1
   have n2:¬fP (eK y) (eK x):=by
    rcases XN.1 h2 with e|h2
    ·rw[e];exact ez _
    ·exact hX2.1 y h2
   exact rD n1 n2
  have h0:=h (eK x)
  rw[XP,XP,if_pos (by simp),if_pos (by simp[hxy])]at h0
  have e0:=Yc.1 h0
  obtain⟨e1,e2⟩:=e0
  subst e1
  congr 1
  refine nH hX2.2 hY2.2 fun k=>?_
  have hk:=h k
  rw[XP,XP]at hk
  split at hk
  ·exact(Yc.1 hk).2
  ·exact hk
def iG(e:Entry):List Entry→List Entry
 |[]=>[e]
 |y::l=>if fP (eK e) (eK y)then e::y::l else y::iG e l
def gi(es:List Entry):List Entry:=es.foldl (fun l e=>iG e l) []
theorem nX(e z:Entry):∀l,z∈iG e l↔z=e∨z∈l
 |[]=>by simp[iG]
 |y::l=>by
  rw[iG];split
  ·simp
  ·simp only[XN,nX e z l]
   constructor
   ·rintro(h|h|h)
    ·exact .inr (.inl h)
    ·exact .inl h
    ·exact .inr (.inr h)
   ·rintro(h|h|h)
    ·exact .inr (.inl h)
    ·exact .inl h
    ·exact .inr (.inr h)
theorem nW(e:Entry):∀{l},jq l→jq (iG e l)
 |[],_=>X1 ..
 |y::l,h=>by
  have h2:=XJ.1 h
  rw[iG]
  by_cases g:fP (eK e) (eK y)
  ·rw[if_pos g]
   refine XJ.2 ⟨fun z hz=>?_,h⟩
   rcases XN.1 hz with rfl|hz
   ·exact fun h3=>ez _ (gn g h3)
   ·exact mb (b:=(eK y)) (fun h3=>ez _ (gn g h3)) (h2.1 z hz)
  ·rw[if_neg g]
   refine XJ.2 ⟨fun z hz=>?_,nW e h2.2⟩
   rcases(nX e z l).1 hz with rfl|hz
   ·exact g
   ·exact h2.1 z hz
theorem nY(e:Entry):∀{l},jq l→fH (l++[e]) (iG e l)
 |[],_=>fH.rf _
 |y::l,h=>by
  have h2:=XJ.1 h
  rw[iG]
  by_cases g:fP (eK e) (eK y)
  ·rw[if_pos g]
   refine fH.swap (X:=y::l) (Y:=[e]) fun x hx z hz he=>?_
   rw[XR.1 hz]at he
   rcases XN.1 hx with rfl|hx
   ·rw[he]at g;exact ez _ g
   ·have:=h2.1 x hx;rw[he]at this;exact this g
  ·rw[if_neg g]
   exact fH.app (X:=[y]) (fH.rf _) (nY e h2.2)
theorem Ir{α:Type}{P:List α→Prop}(h0:P [])(h1:∀l a,P l→P (l++[a]))(l:List α):P l:=by
 have key:∀r:List α,P r.reverse:=fun r=>by
  induction r with
  |nil=>exact h0
  |cons a r ih=>rw[X2];exact h1 _ _ ih
 have:=key l.reverse
 rwa [XQ]at this
theorem nT(es:List Entry)(e:Entry):gi (es++[e])=iG e (gi es):=by unfold gi;rw[Yx];rfl
theorem dX:∀es:List Entry,jq (gi es)∧fH es (gi es):=fun es=>by
 refine Ir (P:=fun es=>jq (gi es)∧fH es (gi es)) ⟨YX,fH.rf _⟩ (fun l a h=>?_) es
 rw[nT]
 exact⟨nW a h.1,(fH.app h.2 (fH.rf [a])).tr (nY a h.1)⟩
theorem dj(es:List Entry):(gi es).length=es.length:=(dX es).2.perm.length_eq.symm
theorem nZ(e:Entry):∀l:List Entry,(∀z∈l,¬fP (eK e) (eK z))→iG e l=l++[e]
 |[],_=>rfl
 |y::l,h=>by rw[iG,if_neg (h y (XF ..)),nZ e l fun z hz=>h z (XI _ hz)];rfl
theorem mg(e y:Entry)(h:fP (eK e) (eK y)):∀l:List Entry,iG e (l++[y])=iG e l++[y]
 |[]=>by
  show(if fP (eK e) (eK y)then e::[y]else _)=_
  rw[if_pos h];rfl
 |z::l=>by
  rw[X9,iG,iG]
  by_cases g:fP (eK e) (eK z)
  ·rw[if_pos g,if_pos g];rfl
  ·rw[if_neg g,if_neg g,mg e y h l];rfl
def Ge(e:Entry):List Entry→List Entry→List Entry
 |[],r=>e::r
 |y::ps,r=>if fP (eK e) (eK y)then Ge e ps (y::r)else(y::ps).reverse++e::r
theorem rR(e:Entry):∀(ps r:List Entry),jq ps.reverse→Ge e ps r=iG e ps.reverse++r
 |[],r,_=>rfl
 |y::ps,r,h=>by
  rw[X2]at h
  have h2:=XM.1 h
  rw[Ge,X2]
  by_cases g:fP (eK e) (eK y)
  ·rw[if_pos g,rR e ps (y::r) h2.1,mg e y g,XH];rfl
  ·rw[if_neg g,nZ e _ fun z hz=>?_]
   ·simp
   ·rcases XX.1 hz with hz|hz
    ·exact mb (h2.2.2 z hz y (XR.2 rfl)) g
    ·rw[XR.1 hz];exact g
theorem Nb{α:Type}(A r:List α)(y e:α):(A++y::e::r)[A.length+1]? =YC e:=by rw[Ya (by omega)];simp
theorem B8{α:Type}(A r:List α)(y:α):(A++y::r)[A.length]? =YC y:=by simp
theorem GP{α:Type}(A r:List α)(y e z:α):(A++y::e::r).set (A.length+1) z=A++y::z::r:=by rw[Yo _ _ (by omega)];simp
theorem zY{α:Type}(A r:List α)(y z:α):(A++y::r).set A.length z=A++z::r:=by simp
theorem zz(x y:Entry):F196 x y=YC (km (eK x) (eK y)):=N4 x y
theorem vY(e:Entry)(P:List Entry)(hP:P.length≤1000):∀(ps r:List Entry) (k:Nat),ps.length<k→ps.length≤1000→F226_l3 (P.length:Int) k ((P++ps.reverse)++e::r) ((P++ps.reverse).length:Int)=YC (P++Ge e ps r)
 |[],r,k+1,_,_=>by
  rw[F226_l3,if_neg (by simp)];simp[Ge]
 |y::ps,r,k+1,hk,hb=>by
  simp only[XD]at hk hb
  have hA:((P++(y::ps).reverse)++e::r)=(P++ps.reverse)++y::e::r:=by simp
  have hl:(P++(y::ps).reverse).length=(P++ps.reverse).length+1:=by simp;omega
  have ew:YG.wrap ((((P++ps.reverse).length+1:Nat):Int)-1)=((P++ps.reverse).length:Int):=by rw[dc (by simp;omega) (by simp;omega)];omega
  rw[F226_l3,hA,hl,if_pos (by simp;omega),gG (Nb _ _ _ _),YB,ew,gG (B8 _ _ _),YB,zz,YB,YB,Ge]
  by_cases g:fP (eK e) (eK y)
  ·rw[decide_eq_true ((gU _ _).2 g),if_pos rfl,if_pos g]
   simp only[YB,YQ]
   rw[GP,gG (B8 _ _ _),YB,zY]
   exact vY e P hP ps (y::r) k (by omega) (by omega)
  ·rw[decide_eq_false (fun h=>g ((gU _ _).1 h)),if_neg (by simp),if_neg g]
   simp
theorem vZ(P:List Entry)(hP:P.length≤1000)(Q:List Entry)(es:List Entry)(hb:es.length≤1000):∀(m i k:Nat),es.length=i+m→m<k→F226_l1 (P.length:Int) ((P.length+es.length:Nat):Int) k (P++(gi (es.take i)++(es.drop i++Q))) ((P.length+i:Nat):Int)=YC (P++(gi es++Q))
 |0,i,k+1,h,_=>by
  rw[F226_l1,if_neg (by omega),Yn (by omega),Yl (by omega),XU]
 |m+1,i,k+1,h,hk=>by
  have hi:i<es.length:=by omega
  have hsl:(gi (es.take i)).length=i:=by rw[dj,XL];omega
  have e3:=vY es[i] P hP (gi (es.take i)).reverse (es.drop (i+1)++Q) 1099511627776 (by rw[XY,hsl];omega) (by rw[XY,hsl];omega)
  rw[XQ,XC,hsl,XH,←X9,←Yj hi]at e3
  rw[F226_l1,if_pos (by omega),e3,YB,cL (by omega),rR _ _ _ (by rw[XQ];exact(dX _).1),XQ,←nT]
  have et:es.take i++[es[i]]=es.take (i+1):=by rw[Yv,XG hi];rfl
  rw[et]
  exact vZ P hP Q es hb m (i+1) k (by omega) (by omega)
theorem qj{P es Q:List Entry}{xs:List Entry}{a b:Int}(hx:xs=P++(es++Q))(ha:a=(P.length:Int))(hb:b=((P.length+es.length:Nat):Int))(hP:P.length≤1000)(he:es.length≤1000):F226 xs a b=YC (P++(gi es++Q)):=by
 subst hx ha hb
 have h1:F226_l1 (P.length:Int) ((P.length+es.length:Nat):Int) 1099511627776 (P++(es++Q)) ((P.length+1:Nat):Int)=YC (P++(gi es++Q)):=by
  cases es with
  |nil=>
   rw[show(1099511627776:Nat)=1099511627775+1 from rfl,F226_l1,if_neg (by simp only[X0];omega)];rfl
  |cons e es=>
   have:=vZ P hP Q (e::es) he es.length 1 1099511627776 (by simp;omega) (by simp only[XD]at he;omega)
   exact this
 rw[F226,F226i,cL (by omega),h1]
 simp only[YB]
 rw[if_pos (by simp[dj])]
open Go Go.Fw
set_option maxRecDepth 100000
set_option linter.unusedVariables false
set_option linter.unusedSimpArgs false
theorem vz{α:Type}{A r:List α}{e:α}{j:Int}(h:j=(A.length:Int)):cI (A++e::r) j=YC e:=by
 subst h;exact gG (B8 A r e)
theorem sx{α:Type}{A r:List α}{e z:α}{j:Int}(h:j=(A.length:Int)):(A++e::r).set j.toNat z=A++z::r:=by
 subst h;rw[YQ];exact zY A r e z
theorem uO:∀(X Y:List Entry) (k:Nat) (i a b n:Int) (U W Q:List Entry),X.length=Y.length→X.length<k→U.length+X.length+W.length+Y.length≤1000000→0≤i→0≤a→0≤b→a+i=(U.length:Int)→b+i=((U.length+X.length+W.length:Nat):Int)→n=i+(X.length:Int)→F229_l1 a b n k (U++(X++(W++(Y++Q)))) i=YC (U++(Y++(W++(X++Q))))
 |[],[],k+1,i,a,b,n,U,W,Q,_,_,_,_,_,_,ha,hb,hn=>by
  rw[F229_l1,if_neg (by simp at hn;omega)]
 |x::X,y::Y,k+1,i,a,b,n,U,W,Q,hl,hk,hm,hi,ha0,hb0,ha,hb,hn=>by
  simp only[XD]at hl hk hm hb hn
  have e1:YG.wrap (b+i)=((U++(x::X++W)).length:Int):=by
   rw[dc (by omega) (by omega),hb];simp;omega
  have e2:YG.wrap (a+i)=(U.length:Int):=by rw[dc (by omega) (by omega),ha]
  have f1:U++(x::X++(W++(y::Y++Q)))=(U++(x::X++W))++y::(Y++Q):=by simp
  have f2:U++(x::X++(W++(y::Y++Q)))=U++x::(X++(W++(y::Y++Q))):=by simp
  have r1:cI (U++(x::X++(W++(y::Y++Q)))) (YG.wrap (b+i))=YC y:=by rw[f1];exact vz e1
  have r2:cI (U++(x::X++(W++(y::Y++Q)))) (YG.wrap (a+i))=YC x:=by rw[f2];exact vz e2
  have s1:(U++(x::X++(W++(y::Y++Q)))).set (YG.wrap (a+i)).toNat y=(U++(y::X++W))++y::(Y++Q):=by rw[f2,sx e2];simp
  have e3:YG.wrap (b+i)=((U++(y::X++W)).length:Int):=by rw[e1];simp
  have r3:cI ((U++(y::X++W))++y::(Y++Q)) (YG.wrap (b+i))=YC y:=vz e3
  rw[F229_l1,if_pos (by omega),r1,YB,r2,YB,s1,r3,YB,sx e3]
  have ih:=uO X Y k (i+1) a b n (U++[y]) (W++[x]) Q (by omega) (by omega) (by simp;omega) (by omega) ha0 hb0 (by simp;omega) (by simp;omega) (by omega)
  rw[show YG.wrap (i+1)=i+1 from dc (by omega) (by omega)]
  have g1:(U++(y::X++W))++x::(Y++Q)=(U++[y])++(X++((W++[x])++(Y++Q))):=by simp
  have g2:U++(y::Y++(W++(x::X++Q)))=(U++[y])++(Y++((W++[x])++(X++Q))):=by simp
  rw[g1,g2];exact ih
theorem uN{X Y U W Q:List Entry}{xs:List Entry}{a b n:Int}(hx:xs=U++(X++(W++(Y++Q))))(hl:X.length=Y.length)(hm:xs.length≤1000000)(ha:a=(U.length:Int))(hb:b=((U.length+X.length+W.length:Nat):Int))(hn:n=(X.length:Int)):
 F229 xs a b n=YC (U++(Y++(W++(X++Q)))):=by
 subst hx
 simp only[XC]at hm
 rw[F229,F229i,uO X Y 1099511627776 0 a b n U W Q hl (by omega) (by omega) (by omega) (by omega) (by omega) (by omega) (by omega) (by omega)]
 simp only[YB]
 rw[if_pos (by simp;omega)]
theorem pV:∀(N:Nat) (U V P Q:List Entry) (k:Nat) (xs:List Entry) (m i j:Int),U.length+V.length≤N→N<k→1≤U.length→1≤V.length→xs=P++(U++(V++Q))→xs.length≤1000000→m=((P.length+U.length:Nat):Int)→i=(U.length:Int)→j=(V.length:Int)→
 ((F228_l1 m k xs i j).bind fun o1=>(F229 o1.1 ((YG.wrap (m-o1.2))) m o1.2).bind fun t6=>YC t6)=YC (P++(V++(U++Q)))
 |N,U,V,P,Q,0,xs,m,i,j,_,h,_,_,_,_,_,_,_=>by omega
 |N,U,V,P,Q,k+1,xs,m,i,j,hN,hk,hU,hV,hx,hm,em,ei,ej=>by
  have hlen:P.length+U.length+V.length≤1000000:=by rw[hx]at hm;simp only[XC]at hm;omega
  have w1:YG.wrap (m-i)=(P.length:Int):=by rw[dc (by omega) (by omega)];omega
  rw[F228_l1]
  by_cases hij:i=j
  ·rw[if_neg (by simpa using hij),YB]
   simp only
   rw[w1,uN (U:=P) (X:=U) (W:=[]) (Y:=V) (Q:=Q) (by rw[hx];rfl) (by omega) hm rfl (by simp;omega) ei]
   rfl
  ·rw[if_pos hij]
   by_cases hlt:j<i
   ·rw[if_pos hlt]
    obtain⟨U1,U2,hU12,hU1⟩:∃U1 U2,U=U1++U2∧U1.length=V.length:=⟨U.take V.length,U.drop V.length,by simp,by rw[XL];omega⟩
    have hUl:=congrArg Yb hU12
    rw[XC]at hUl
    rw[w1,uN (U:=P) (X:=U1) (W:=U2) (Y:=V) (Q:=Q) (by rw[hx,hU12];simp) hU1 hm rfl (by omega) (by omega),YB]
    rw[pV (N-1) U2 U1 (P++V) Q k _ m _ j (by omega) (by omega) (by omega) (by omega) (by simp) (by simp only[XC];rw[hx]at hm;simp only[XC]at hm;omega) (by simp only[XC];omega) (by rw[dc (by omega) (by omega)];omega) (by omega)]
    rw[hU12];simp
   ·rw[if_neg hlt]
    obtain⟨V1,V2,hV12,hV2⟩:∃V1 V2,V=V1++V2∧V2.length=U.length:=⟨V.take (V.length-U.length),V.drop (V.length-U.length),by simp,by rw[XW];omega⟩
    have hVl:=congrArg Yb hV12
    rw[XC]at hVl
    have w2:YG.wrap (YG.wrap (m+j)-i)=((P.length+U.length+V1.length:Nat):Int):=by
     rw[dc (n:=m+j) (by omega) (by omega),dc (by omega) (by omega)];omega
    rw[w1,w2,uN (U:=P) (X:=U) (W:=V1) (Y:=V2) (Q:=Q) (by rw[hx,hV12];simp) hV2.symm hm rfl rfl ei,YB]
    rw[pV (N-1) V2 V1 P (U++Q) k _ m i _ (by omega) (by omega) (by omega) (by omega) (by simp) (by simp only[XC];rw[hx]at hm;simp only[XC]at hm;omega) (by omega) (by omega) (by rw[dc (by omega) (by omega)];omega)]
    rw[hV12];simp
theorem HH{U V P Q xs:List Entry}{a m b:Int}(hU:1≤U.length)(hV:1≤V.length)(hx:xs=P++(U++(V++Q)))(hm:xs.length≤1000000)(ha:a=(P.length:Int))(em:m=((P.length+U.length:Nat):Int))(eb:b=((P.length+U.length+V.length:Nat):Int)):
 F228 xs a m b=YC (P++(V++(U++Q))):=by
 have hlen:P.length+U.length+V.length≤1000000:=by rw[hx]at hm;simp only[XC]at hm;omega
 rw[F228,F228i,pV (U.length+V.length) U V P Q 1099511627776 xs m _ _ (YT _) (by omega) hU hV hx hm em (by rw[dc (by omega) (by omega)];omega) (by rw[dc (by omega) (by omega)];omega),YB]
 rw[if_pos (by rw[hx];simp;omega)]
def lF(f:Int→Option Bool):Nat→Int→Int→Option Int
 |0,_,_=>none
 |k+1,i,j=>if i<j then(f (gf i j)).bind fun t=>if t=YM then lF f k (YG.wrap (gf i j+1)) j else lF f k i (gf i j)else YC i
theorem gS{f:Int→Option Bool}{q:Nat→Bool}{lo hi:Nat}(hh:hi≤1000000)(hf:∀h:Nat,lo≤h→h<hi→f (h:Int)=YC (q h)):∀(k i j:Nat),j-i<k→lo≤i→i≤j→j≤hi→(i=lo∨q (i-1)=YM)→(j=hi∨q j=YL)→
 ∃s:Nat,lF f k (i:Int) (j:Int)=YC (s:Int)∧lo≤s∧s≤hi∧(s=lo∨q (s-1)=YM)∧(s=hi∨q s=YL)
 |0,i,j,h,_,_,_,_,_=>by omega
 |k+1,i,j,h,h1,h2,h3,h4,h5=>by
  unfold lF
  by_cases hij:i<j
  ·have hm:(i+j)/2<j:=by omega
   rw[if_pos (by omega),qg (by omega),hf _ (by omega) (by omega),YB]
   cases hq:q ((i+j)/2)with
   |true=>
    rw[if_pos rfl,cL (by omega)]
    exact gS hh hf k _ j (by omega) (by omega) (by omega) h3 (.inr (by simpa using hq)) h5
   |false=>
    rw[if_neg (by simp)]
    exact gS hh hf k i _ (by omega) h1 (by omega) (by omega) h4 (.inr hq)
  ·rw[if_neg (by omega)]
   have:i=j:=by omega
   subst this
   exact⟨i,rfl,h1,h3,h4,h5⟩
theorem mO{xs:List Entry}{a:Int}{z:Entry}(hz:cI xs a=YC z):∀(k:Nat) (i j:Int),F227_l2 xs a k i j=lF (fun h=>(cI xs h).bind fun y4=>YC (decide (km (eK y4) (eK z)<0))) k i j
 |0,_,_=>rfl
 |k+1,i,j=>by
  rw[F227_l2,lF]
  split
  ·show(cI xs (gf i j)).bind _=_
   cases cI xs (gf i j)with
   |none=>rfl
   |some y=>
    simp only[YB,hz,zz,decide_eq_true_eq]
    split
    ·exact mO hz k _ j
    ·exact mO hz k i _
  ·rfl
theorem kW{xs:List Entry}{m:Int}{z:Entry}(hz:cI xs m=YC z):∀(k:Nat) (i j:Int),F227_l14 xs m k i j=lF (fun h=>(cI xs h).bind fun y4=>YC (decide (¬km (eK z) (eK y4)<0))) k i j
 |0,_,_=>rfl
 |k+1,i,j=>by
  rw[F227_l14,lF]
  split
  ·rw[hz,YB]
   show(cI xs (gf i j)).bind _=_
   cases cI xs (gf i j)with
   |none=>rfl
   |some y=>
    simp only[YB,zz,decide_eq_true_eq]
    split
    ·exact kW hz k _ j
    ·exact kW hz k i _
  ·rfl
theorem kV(xs:List Entry)(a m b:Int):∀(k:Nat) (i j:Int),F227_l27 xs a m b k i j=lF (fun h=>(cI xs (YG.wrap (YG.wrap (YG.wrap (gf a b+m)-1)-h))).bind fun y5=>(cI xs h).bind fun y4=>YC (decide (¬km (eK y5) (eK y4)<0))) k i j
 |0,_,_=>rfl
 |k+1,i,j=>by
  rw[F227_l27,lF]
  split
  ·show(cI xs (YG.wrap (YG.wrap (YG.wrap (gf a b+m)-1)-gf i j))).bind _=_
   cases cI xs (YG.wrap (YG.wrap (YG.wrap (gf a b+m)-1)-gf i j))with
   |none=>rfl
   |some z=>
    simp only[YB]
    show(cI xs (gf i j)).bind _=_
    cases cI xs (gf i j)with
    |none=>rfl
    |some y=>
     simp only[YB,zz,decide_eq_true_eq]
     split
     ·exact kV xs a m b k _ j
     ·exact kV xs a m b k i _
  ·rfl
theorem Ij(e:Entry):∀(B U Q:List Entry) (k:Nat) (s a:Int),B.length<k→U.length+B.length≤1000000→a=(U.length:Int)→s=a+1+(B.length:Int)→F227_l8 s k (U++(e::B++Q)) a=YC (U++(B++e::Q))
 |[],U,Q,k+1,s,a,_,_,ha,hs=>by
  rw[F227_l8,dc (by simp at hs;omega) (by simp at hs;omega),if_neg (by simp at hs;omega)];rfl
 |y::B,U,Q,k+1,s,a,hk,hm,ha,hs=>by
  simp only[XD]at hk hm hs
  rw[F227_l8,dc (n:=s-1) (by omega) (by omega),if_pos (by omega)]
  have w:YG.wrap (a+1)=a+1:=dc (by omega) (by omega)
  have f1:U++(e::y::B++Q)=(U++[e])++y::(B++Q):=by simp
  have f2:U++(e::y::B++Q)=U++e::(y::B++Q):=by simp
  have g1:a+1=((U++[e]).length:Int):=by simp;omega
  have r1:cI (U++(e::y::B++Q)) (a+1)=YC y:=by rw[f1];exact vz g1
  have r2:cI (U++(e::y::B++Q)) a=YC e:=by rw[f2];exact vz ha
  have s1:(U++(e::y::B++Q)).set a.toNat y=(U++[y])++y::(B++Q):=by rw[f2,sx ha];simp
  have g2:a+1=((U++[y]).length:Int):=by simp;omega
  rw[w,r1,YB,r2,YB,s1,vz g2,YB,sx g2]
  have ih:=Ij e B (U++[y]) Q k s (a+1) (by omega) (by simp;omega) g2 (by omega)
  have g3:(U++[y])++e::(B++Q)=(U++[y])++(e::B++Q):=rfl
  rw[g3,ih];simp
theorem A6(e:Entry)(U:List Entry)(hU:U.length≤1000000):∀(ps Q:List Entry) (k:Nat) (s j:Int),ps.length<k→ps.length≤1000000→s=(U.length:Int)→j=((U.length+ps.length:Nat):Int)→F227_l20 s k (U++(ps.reverse++e::Q)) j=YC (U++(e::ps.reverse++Q))
 |[],Q,k+1,s,j,_,_,hs,hj=>by
  rw[F227_l20,if_neg (by simp at hj;omega)];rfl
 |y::ps,Q,k+1,s,j,hk,hb,hs,hj=>by
  simp only[XD]at hk hb hj
  have w:YG.wrap (j-1)=j-1:=dc (by omega) (by omega)
  have f1:U++((y::ps).reverse++e::Q)=(U++ps.reverse)++y::e::Q:=by simp
  have f2:U++((y::ps).reverse++e::Q)=(U++(y::ps).reverse)++e::Q:=by simp
  have g1:j-1=((U++ps.reverse).length:Int):=by simp;omega
  have g2:j=((U++(y::ps).reverse).length:Int):=by simp;omega
  have r1:cI (U++((y::ps).reverse++e::Q)) (j-1)=YC y:=by rw[f1];exact vz g1
  have r2:cI (U++((y::ps).reverse++e::Q)) j=YC e:=by rw[f2];exact vz g2
  have s1:(U++((y::ps).reverse++e::Q)).set j.toNat y=(U++ps.reverse)++y::y::Q:=by rw[f2,sx g2];simp
  rw[F227_l20,if_pos (by omega),w,r1,YB,r2,YB,s1,vz g1,YB,sx g1]
  have ih:=A6 e U hU ps (y::Q) k s (j-1) (by omega) (by omega) hs (by omega)
  rw[XH,ih];simp
open Go Go.Fw
set_option maxRecDepth 100000
set_option linter.unusedVariables false
set_option linter.unusedSimpArgs false
theorem A5{a b c:Kt}(h1:¬fP b a)(h2:fP b c):fP a c:=by
 rcases mM a b with h3|h3|h3
 ·exact gn h3 h2
 ·subst h3;exact h2
 ·exact(h1 h3).elim
theorem A3{a b c:Kt}(h1:fP a b)(h2:¬fP c b):fP a c:=by
 rcases mM b c with h3|h3|h3
 ·exact gn h1 h3
 ·subst h3;exact h1
 ·exact(h2 h3).elim
theorem iz{L:List Entry}(h:jq L){i j:Nat}{x y:Entry}(hi:L[i]? =YC x)(hj:L[j]? =YC y)(hij:i≤j):¬fP (eK y) (eK x):=by
 obtain⟨h1,e1⟩:=XO.1 hi
 obtain⟨h2,e2⟩:=XO.1 hj
 by_cases he:i=j
 ·subst he;rw[hi]at hj;cases hj;exact ez _
 ·have:=List.pairwise_iff_getElem.1 h i j h1 h2 (by omega)
  rw[e1,e2]at this;exact this
theorem qQ{L:List Entry}{t:Nat}{x:Entry}(h:x∈L.take t):∃i,i<t∧L[i]? =YC x:=by
 obtain⟨i,hi⟩:=Yp.1 h
 rw[List.getElem?_take]at hi
 split at hi
 ·exact⟨i,by assumption,hi⟩
 ·cases hi
theorem rS{L:List Entry}{t:Nat}{x:Entry}(h:x∈L.drop t):∃i,t≤i∧L[i]? =YC x:=by
 obtain⟨i,hi⟩:=Yp.1 h
 rw[List.getElem?_drop]at hi
 exact⟨t+i,by omega,hi⟩
theorem glue{A1 A2 B1 B2 R1 R2:List Entry}(hA:jq (A1++A2))(hB:jq (B1++B2))(h1:∀x∈A1,∀y∈B2,¬fP (eK y) (eK x))(h2:∀x∈B1,∀y∈A2,fP (eK x) (eK y))
 (s1:jq R1) (e1:fH (A1++B1) R1) (s2:jq R2) (e2:fH (A2++B2) R2):jq (R1++R2)∧fH ((A1++A2)++(B1++B2)) (R1++R2):=by
 have hA2:=(XM.1 hA).2.2
 have hB2:=(XM.1 hB).2.2
 constructor
 ·refine XM.2 ⟨s1,s2,fun x hx y hy=>?_⟩
  rcases XX.1 (e1.perm.mem_iff.2 hx)with hx|hx<;>rcases XX.1 (e2.perm.mem_iff.2 hy)with hy|hy
  ·exact hA2 x hx y hy
  ·exact h1 x hx y hy
  ·exact sY (h2 x hx y hy)
  ·exact hB2 x hx y hy
 ·have e3:fH (A2++B1) (B1++A2):=fH.swap fun x hx y hy e=>by
   have:=h2 y hy x hx;rw[e]at this;exact ez _ this
  have e4:fH (A1++((A2++B1)++B2)) (A1++((B1++A2)++B2)):=fH.app (fH.rf _) (fH.app e3 (fH.rf _))
  have e5:fH ((A1++B1)++(A2++B2)) (R1++R2):=fH.app e1 e2
  have f1:(A1++A2)++(B1++B2)=A1++((A2++B1)++B2):=by simp
  have f2:A1++((B1++A2)++B2)=(A1++B1)++(A2++B2):=by simp
  rw[f1];rw[f2]at e4;exact e4.tr e5
theorem Lx{α:Type}{P L Q:List α}{i:Nat}{x:α}{j:Int}(h:L[i]? =YC x)(hj:j=((P.length+i:Nat):Int)):cI (P++(L++Q)) j=YC x:=by
 subst hj
 refine gG ?_
 have hi:=(XO.1 h).1
 rw[Ya (by omega),List.getElem?_append_left (by omega),show P.length+i-P.length=i by omega];exact h
theorem nI{A B:List Entry}(hA:jq A)(hB:jq B)(h:A=[]∨B=[]):jq (A++B):=by
 rcases h with rfl|rfl
 ·exact hB
 ·rw[X6];exact hA
theorem Na{e:Entry}{B P Q:List Entry}(hm:P.length+1+B.length≤1000000)(hB:jq B):∃R,((F227_l2 (P++([e]++(B++Q))) (P.length:Int) 1099511627776 ((P.length+1:Nat):Int) ((P.length+1+B.length:Nat):Int)).bind fun o2=>(F227_l8 o2 1099511627776 (P++([e]++(B++Q))) (P.length:Int)).bind fun o8=>YC o8)=YC (P++(R++Q))∧jq R∧fH ([e]++B) R:=by
 have hz:cI (P++([e]++(B++Q))) (P.length:Int)=YC e:=vz rfl
 obtain⟨s,g1,g2,g3,g4,g5⟩:=gS (f:=fun h=>(cI (P++([e]++(B++Q))) h).bind fun y4=>YC (decide (km (eK y4) (eK e)<0))) (q:=fun h=>match B[h-(P.length+1)]? with|some y=>decide (fP (eK y) (eK e))|none=>YL) (lo:=P.length+1) (hi:=P.length+1+B.length) hm (fun h h1 h2=>by
  have hb:B[h-(P.length+1)]? =YC B[h-(P.length+1)]:=XG (by omega)
  have hr:cI (P++([e]++(B++Q))) (h:Int)=YC B[h-(P.length+1)]:=by
   have:=Lx (P:=P++[e]) (Q:=Q) (j:=(h:Int)) hb (by simp;omega)
   rw[XH]at this;exact this
  simp only[hr,hb,YB,gU]) 1099511627776 (P.length+1) (P.length+1+B.length) (by omega) (YT _) (by omega) (YT _) (.inl rfl) (.inl rfl)
 rw[mO hz,g1,YB]
 have hlow:∀y∈B.take (s-(P.length+1)),fP (eK y) (eK e):=fun y hy=>by
  obtain⟨i,hi,hy⟩:=qQ hy
  rcases g4 with g4|g4
  ·omega
  ·split at g4
   ·rename_i z hz
    exact A5 (iz hB hy hz (by omega)) (of_decide_eq_true g4)
   ·cases g4
 have hhigh:∀y∈B.drop (s-(P.length+1)),¬fP (eK y) (eK e):=fun y hy=>by
  obtain⟨i,hi,hy⟩:=rS hy
  have hil:=(XO.1 hy).1
  rcases g5 with g5|g5
  ·omega
  ·have hb:B[s-(P.length+1)]? =YC B[s-(P.length+1)]:=XG (by omega)
   simp only[hb]at g5
   exact mb (of_decide_eq_false g5) (iz hB hb hy hi)
 have hBe:B.take (s-(P.length+1))++B.drop (s-(P.length+1))=B:=XZ _ _
 refine⟨B.take (s-(P.length+1))++([e]++B.drop (s-(P.length+1))),?_,?_⟩
 ·have h8:=Ij e (B.take (s-(P.length+1))) P (B.drop (s-(P.length+1))++Q) 1099511627776 (s:Int) (P.length:Int) (by rw[XL];omega) (by rw[XL];omega) rfl (by rw[XL];omega)
  have f1:P++([e]++(B++Q))=P++(e::B.take (s-(P.length+1))++(B.drop (s-(P.length+1))++Q)):=by
   have:B.take (s-(P.length+1))++(B.drop (s-(P.length+1))++Q)=B++Q:=by rw[←XH,hBe]
   show P++(e::(B++Q))=P++(e::(B.take (s-(P.length+1))++(B.drop (s-(P.length+1))++Q)))
   rw[this]
  rw[f1,h8];simp
 ·have hBs:=hB;rw[←hBe]at hBs
  have:=glue (A1:=[]) (A2:=[e]) (B1:=B.take (s-(P.length+1))) (B2:=B.drop (s-(P.length+1))) (R1:=B.take (s-(P.length+1))) (R2:=[e]++B.drop (s-(P.length+1))) (X1 ..) hBs (fun x hx=>by cases hx) (fun x hx y hy=>by rw[XR.1 hy];exact hlow x hx) (XM.1 hBs).1 (fH.rf _) (XJ.2 ⟨fun y hy=>hhigh y hy,(XM.1 hBs).2.1⟩) (fH.rf _)
  rw[hBe]at this
  exact this
theorem M9{e:Entry}{A P Q:List Entry}(hm:P.length+A.length+1≤1000000)(hA:jq A):∃R,((F227_l14 (P++(A++([e]++Q))) ((P.length+A.length:Nat):Int) 1099511627776 (P.length:Int) ((P.length+A.length:Nat):Int)).bind fun o15=>(F227_l20 o15 1099511627776 (P++(A++([e]++Q))) ((P.length+A.length:Nat):Int)).bind fun o21=>YC o21)=YC (P++(R++Q))∧jq R∧fH (A++[e]) R:=by
 have hz:cI (P++(A++([e]++Q))) ((P.length+A.length:Nat):Int)=YC e:=by
  rw[←XH];exact vz (by simp)
 obtain⟨s,g1,g2,g3,g4,g5⟩:=gS (f:=fun h=>(cI (P++(A++([e]++Q))) h).bind fun y4=>YC (decide (¬km (eK e) (eK y4)<0))) (q:=fun h=>match A[h-P.length]? with|some y=>decide (¬fP (eK e) (eK y))|none=>YL) (lo:=P.length) (hi:=P.length+A.length) (by omega) (fun h h1 h2=>by
  have hb:A[h-P.length]? =YC A[h-P.length]:=XG (by omega)
  have hr:cI (P++(A++([e]++Q))) (h:Int)=YC A[h-P.length]:=Lx hb (by omega)
  simp only[hr,hb,YB,gU]) 1099511627776 P.length (P.length+A.length) (by omega) (YT _) (by omega) (YT _) (.inl rfl) (.inl rfl)
 rw[kW hz,g1,YB]
 have hlow:∀y∈A.take (s-P.length),¬fP (eK e) (eK y):=fun y hy=>by
  obtain⟨i,hi,hy⟩:=qQ hy
  rcases g4 with g4|g4
  ·omega
  ·split at g4
   ·rename_i z hz
    exact mb (iz hA hy hz (by omega)) (of_decide_eq_true g4)
   ·cases g4
 have hhigh:∀y∈A.drop (s-P.length),fP (eK e) (eK y):=fun y hy=>by
  obtain⟨i,hi,hy⟩:=rS hy
  have hil:=(XO.1 hy).1
  rcases g5 with g5|g5
  ·omega
  ·have hb:A[s-P.length]? =YC A[s-P.length]:=XG (by omega)
   simp only[hb]at g5
   exact A3 (Decidable.not_not.1 (of_decide_eq_false g5)) (iz hA hb hy hi)
 have hAe:A.take (s-P.length)++A.drop (s-P.length)=A:=XZ _ _
 refine⟨(A.take (s-P.length)++[e])++A.drop (s-P.length),?_,?_⟩
 ·have h8:=A6 e (P++A.take (s-P.length)) (by rw[XC,XL];omega) (A.drop (s-P.length)).reverse Q 1099511627776 (s:Int) ((P.length+A.length:Nat):Int) (by rw[XY,XW];omega) (by rw[XY,XW];omega) (by rw[XC,XL];omega) (by rw[XC,XL,XY,XW];omega)
  rw[XQ]at h8
  have f1:P++(A++([e]++Q))=(P++A.take (s-P.length))++(A.drop (s-P.length)++e::Q):=by
   rw[XH,←XH (A.take _),hAe];rfl
  rw[f1,h8];simp
 ·have hAs:=hA;rw[←hAe]at hAs
  have:=glue (A1:=A.take (s-P.length)) (A2:=A.drop (s-P.length)) (B1:=[e]) (B2:=[]) (R1:=A.take (s-P.length)++[e]) (R2:=A.drop (s-P.length)) hAs (X1 ..) (fun x hx y hy=>by cases hy) (fun x hx y hy=>by rw[XR.1 hx];exact hhigh y hy) (XM.2 ⟨(XM.1 hAs).1,X1 ..,fun x hx y hy=>by rw[XR.1 hy];exact hlow x hx⟩) (fH.rf _) (XM.1 hAs).2.1 (by rw[X6];exact fH.rf _)
  rw[hAe,X6]at this
  exact this
set_option maxHeartbeats 4000000 in
theorem uM:∀(N fuel:Nat) (A B P Q xs:List Entry) (a m b:Int),A.length+B.length≤N→N<fuel→1≤A.length→1≤B.length→xs=P++(A++(B++Q))→xs.length≤1000000→a=(P.length:Int)→m=((P.length+A.length:Nat):Int)→b=((P.length+A.length+B.length:Nat):Int)→jq A→jq B→
 ∃R,F227k fuel xs a m b=YC (P++(R++Q))∧jq R∧fH (A++B) R
 |N,0,A,B,P,Q,xs,a,m,b,_,h,_,_,_,_,_,_,_,_,_=>by omega
 |N,fuel+1,A,B,P,Q,xs,a,m,b,hN,hk,hA1,hB1,hx,hm,ea,em,eb,hA,hB=>by
  subst hx ea em eb
  have hlen:P.length+A.length+B.length+Q.length≤1000000:=by simp only[XC]at hm;omega
  have close:∀R:List Entry,F227i (F227k fuel) (P++(A++(B++Q))) (P.length:Int) ((P.length+A.length:Nat):Int) ((P.length+A.length+B.length:Nat):Int)=YC (P++(R++Q))→fH (A++B) R→F227k (fuel+1) (P++(A++(B++Q))) (P.length:Int) ((P.length+A.length:Nat):Int) ((P.length+A.length+B.length:Nat):Int)=YC (P++(R++Q)):=by
   intro R h1 h2
   have:=h2.perm.length_eq
   rw[XC]at this
   show F227 (F227k fuel) _ _ _ _=_
   rw[F227,h1,YB,if_pos (by simp only[XC];omega)]
  have w1:YG.wrap (((P.length+A.length:Nat):Int)-(P.length:Int))=(A.length:Int):=by rw[dc (by omega) (by omega)];omega
  have w2:YG.wrap (((P.length+A.length+B.length:Nat):Int)-((P.length+A.length:Nat):Int))=(B.length:Int):=by rw[dc (by omega) (by omega)];omega
  by_cases hA2:A.length=1
  ·obtain⟨e,rfl⟩:=Ym.1 hA2
   obtain⟨R,r1,r2,r3⟩:=Na (e:=e) (P:=P) (Q:=Q) (by simp only[Yq]at hlen;omega) hB
   refine⟨R,close R ?_ r3,r2,r3⟩
   rw[F227i,w1,if_pos (by simp)]
   exact r1
  by_cases hB2:B.length=1
  ·obtain⟨e,rfl⟩:=Ym.1 hB2
   obtain⟨R,r1,r2,r3⟩:=M9 (e:=e) (P:=P) (Q:=Q) (by simp only[Yq]at hlen;omega) hA
   refine⟨R,close R ?_ r3,r2,r3⟩
   rw[F227i,w1,if_neg (by omega),w2,if_pos (by simp)]
   exact r1
  obtain⟨h,hh⟩:∃h,h=(A.length+B.length)/2:=⟨_,rfl⟩
  have wm:YG.wrap (fi .u64 (YH.wrap (YG.wrap ((P.length:Int)+((P.length+A.length+B.length:Nat):Int)))) 1)=((P.length+h:Nat):Int):=by
   show gf (P.length:Int) ((P.length+A.length+B.length:Nat):Int)=_
   rw[qg (by omega)];congr 1;omega
  have wn:YG.wrap (((P.length+h:Nat):Int)+((P.length+A.length:Nat):Int))=((P.length+h+(P.length+A.length):Nat):Int):=by rw[dc (by omega) (by omega)];omega
  obtain⟨lo,hi,hlo,hhi,hlh,h1,h2,ho⟩:∃lo hi:Nat,P.length≤lo∧hi≤P.length+A.length∧lo≤hi∧(lo=P.length∨lo+B.length=P.length+h)∧(hi=P.length+A.length∨hi=P.length+h)∧((∀c:Nat,lo≤c→c<hi→c+1≤P.length+h∧P.length+h<c+1+B.length)∧
   (if((P.length+h:Nat):Int)<((P.length+A.length:Nat):Int)then YC (YG.wrap (((P.length+h+(P.length+A.length):Nat):Int)-((P.length+A.length+B.length:Nat):Int)),((P.length+h:Nat):Int))else YC ((P.length:Int),((P.length+A.length:Nat):Int)))=YC ((lo:Int),(hi:Int))):=by
   by_cases hc:h<A.length
   ·refine⟨P.length+h-B.length,P.length+h,by omega,by omega,by omega,.inr (by omega),.inr rfl,fun c c1 c2=>⟨by omega,by omega⟩,?_⟩
    rw[if_pos (by omega),dc (by omega) (by omega)];congr 2;omega
   ·refine⟨P.length,P.length+A.length,by omega,by omega,by omega,.inl rfl,.inl rfl,fun c c1 c2=>⟨by omega,by omega⟩,?_⟩
    rw[if_neg (by omega)]
  obtain⟨hrange,ho⟩:=ho
  obtain⟨s,g1,g2,g3,g4,g5⟩:=gS (f:=fun c=>(cI (P++(A++(B++Q))) (YG.wrap (YG.wrap (YG.wrap (gf (P.length:Int) ((P.length+A.length+B.length:Nat):Int)+((P.length+A.length:Nat):Int))-1)-c))).bind fun y5=>(cI (P++(A++(B++Q))) c).bind fun y4=>YC (decide (¬km (eK y5) (eK y4)<0))) (q:=fun c=>match A[c-P.length]?,B[P.length+h-1-c]? with|some x,YC y=>decide (¬fP (eK y) (eK x))|_,_=>YL) (lo:=lo) (hi:=hi) (by omega) (fun c c1 c2=>by
   have hr:=hrange c c1 c2
   have hb1:A[c-P.length]? =YC A[c-P.length]:=XG (by omega)
   have hb2:B[P.length+h-1-c]? =YC B[P.length+h-1-c]:=XG (by omega)
   have hr1:cI (P++(A++(B++Q))) (c:Int)=YC A[c-P.length]:=Lx hb1 (by omega)
   have hr2:cI (P++(A++(B++Q))) (YG.wrap (YG.wrap (YG.wrap (gf (P.length:Int) ((P.length+A.length+B.length:Nat):Int)+((P.length+A.length:Nat):Int))-1)-(c:Int)))=YC B[P.length+h-1-c]:=by
    rw[show gf (P.length:Int) ((P.length+A.length+B.length:Nat):Int)=((P.length+h:Nat):Int)from wm,wn,dc (n:=_-1) (by omega) (by omega),dc (by omega) (by omega),←XH P A]
    exact Lx hb2 (by rw[XC];omega)
   simp only[hr1,hr2,hb1,hb2,YB,gU]) 1099511627776 lo hi (by omega) (YT _) hlh (YT _) (.inl rfl) (.inl rfl)
  obtain⟨t,ht⟩:∃t,s=P.length+t:=⟨s-P.length,by omega⟩
  obtain⟨u,hu⟩:∃u,h=t+u:=⟨h-t,by
   rcases h2 with h2|h2
   ·by_cases hst:s=hi
    ·by_cases hlo2:lo=hi
     ·rcases h1 with h1|h1<;>omega
     ·have:=hrange (hi-1) (by omega) (by omega);omega
    ·have:=hrange s g2 (by omega);omega
   ·omega⟩
  have htA:t≤A.length:=by omega
  have huB:u≤B.length:=by
   rcases h1 with h1|h1
   ·by_cases hst:s=lo
    ·by_cases hlo2:lo=hi
     ·rcases h2 with h2|h2<;>omega
     ·have:=hrange lo (by omega) (by omega);omega
    ·have:=hrange (s-1) (by omega) (by omega);omega
   ·omega
  have hAe:A.take t++A.drop t=A:=XZ _ _
  have hBe:B.take u++B.drop u=B:=XZ _ _
  have l1:(A.take t).length=t:=by rw[XL];omega
  have l2:(A.drop t).length=A.length-t:=XW
  have l3:(B.take u).length=u:=by rw[XL];omega
  have l4:(B.drop u).length=B.length-u:=XW
  generalize hq1:A.take t=A1 at hAe l1
  generalize hq2:A.drop t=A2 at hAe l2
  generalize hq3:B.take u=B1 at hBe l3
  generalize hq4:B.drop u=B2 at hBe l4
  have c1:∀x∈A1,∀y∈B2,¬fP (eK y) (eK x):=fun x hx y hy=>by
   subst hq1;subst hq4
   obtain⟨i,hi1,hi2⟩:=qQ hx
   obtain⟨j,hj1,hj2⟩:=rS hy
   have hjl:=(XO.1 hj2).1
   rcases g4 with g4|g4
   ·rcases h1 with h1|h1<;>omega
   ·split at g4
    ·rename_i x' y' hx' hy'
     have q1:=iz hA hi2 hx' (by omega)
     have q2:=iz hB hy' hj2 (by omega)
     exact mb (mb q1 (of_decide_eq_true g4)) q2
    ·cases g4
  have c2:∀x∈B1,∀y∈A2,fP (eK x) (eK y):=fun x hx y hy=>by
   subst hq3;subst hq2
   obtain⟨i,hi1,hi2⟩:=qQ hx
   obtain⟨j,hj1,hj2⟩:=rS hy
   have hjl:=(XO.1 hj2).1
   rcases g5 with g5|g5
   ·rcases h2 with h2|h2<;>omega
   ·have hb1:A[s-P.length]? =YC A[s-P.length]:=XG (by omega)
    have hb2:B[P.length+h-1-s]? =YC B[P.length+h-1-s]:=XG (by omega)
    simp only[hb1,hb2]at g5
    have q0:=Decidable.not_not.1 (of_decide_eq_false g5)
    have q1:=iz hA hb1 hj2 (by omega)
    have q2:=iz hB hi2 hb2 (by omega)
    exact A3 (A5 q2 q0) q1
  have hAs:jq (A1++A2):=by rw[hAe];exact hA
  have hBs:jq (B1++B2):=by rw[hBe];exact hB
  have sA:=XM.1 hAs
  have sB:=XM.1 hBs
  have left:∀Q',(P++(A1++(B1++Q'))).length≤1000000→∃R1,((if(P.length:Int)<(s:Int)then YC (decide ((s:Int)<((P.length+h:Nat):Int)))else YC YL).bind fun o41=>if o41=YM then(F227k fuel (P++(A1++(B1++Q'))) (P.length:Int) (s:Int) ((P.length+h:Nat):Int)).bind fun t44=>YC t44 else YC (P++(A1++(B1++Q'))))=YC (P++(R1++Q'))∧jq R1∧fH (A1++B1) R1:=by
   intro Q' hm'
   by_cases hc:0<t∧0<u
   ·obtain⟨R1,r1,r2,r3⟩:=uM (N-1) fuel A1 B1 P Q' _ (P.length:Int) (s:Int) ((P.length+h:Nat):Int) (by omega) (by omega) (by omega) (by omega) rfl hm' rfl (by omega) (by omega) sA.1 sB.1
    refine⟨R1,?_,r2,r3⟩
    rw[if_pos (by omega),YB,if_pos (by rw[decide_eq_true_eq];omega),r1];rfl
   ·refine⟨A1++B1,?_,nI sA.1 sB.1 ?_,fH.rf _⟩
    ·by_cases h0:0<t
     ·rw[if_pos (by omega),YB,if_neg (by rw[decide_eq_true_eq];omega),XH]
     ·rw[if_neg (by omega),YB,if_neg (by simp),XH]
    ·by_cases h0:0<t
     ·exact .inr (XK.1 (by omega))
     ·exact .inl (XK.1 (by omega))
  have right:∀P',P'.length=P.length+h→(P'++(A2++(B2++Q))).length≤1000000→∃R2,((if((P.length+h:Nat):Int)<((P.length+A.length+u:Nat):Int)then YC (decide (((P.length+A.length+u:Nat):Int)<((P.length+A.length+B.length:Nat):Int)))else YC YL).bind fun o45=>if o45=YM then(F227k fuel (P'++(A2++(B2++Q))) ((P.length+h:Nat):Int) ((P.length+A.length+u:Nat):Int) ((P.length+A.length+B.length:Nat):Int)).bind fun t48=>YC t48 else YC (P'++(A2++(B2++Q))))=YC (P'++(R2++Q))∧jq R2∧fH (A2++B2) R2:=by
   intro P' hP' hm'
   by_cases hc:t<A.length∧u<B.length
   ·obtain⟨R1,r1,r2,r3⟩:=uM (N-1) fuel A2 B2 P' Q _ ((P.length+h:Nat):Int) ((P.length+A.length+u:Nat):Int) ((P.length+A.length+B.length:Nat):Int) (by omega) (by omega) (by omega) (by omega) rfl hm' (by omega) (by omega) (by omega) sA.2.1 sB.2.1
    refine⟨R1,?_,r2,r3⟩
    rw[if_pos (by omega),YB,if_pos (by rw[decide_eq_true_eq];omega),r1];rfl
   ·refine⟨A2++B2,?_,nI sA.2.1 sB.2.1 ?_,fH.rf _⟩
    ·by_cases h0:t<A.length
     ·rw[if_pos (by omega),YB,if_neg (by rw[decide_eq_true_eq];omega),XH]
     ·rw[if_neg (by omega),YB,if_neg (by simp),XH]
    ·by_cases h0:t<A.length
     ·exact .inr (XK.1 (by omega))
     ·exact .inl (XK.1 (by omega))
  have hrot:((if(s:Int)<((P.length+A.length:Nat):Int)then YC (decide (((P.length+A.length:Nat):Int)<((P.length+A.length+u:Nat):Int)))else YC YL).bind fun o36=>if o36=YM then(F228 (P++(A++(B++Q))) (s:Int) ((P.length+A.length:Nat):Int) ((P.length+A.length+u:Nat):Int)).bind fun t39=>YC t39 else YC (P++(A++(B++Q))))=YC (P++(A1++(B1++(A2++(B2++Q))))):=by
   have hxs:P++(A++(B++Q))=(P++A1)++(A2++(B1++(B2++Q))):=by rw[←hAe,←hBe];simp
   by_cases hc:t<A.length∧0<u
   ·rw[if_pos (by omega),YB,if_pos (by rw[decide_eq_true_eq];omega),HH (U:=A2) (V:=B1) (P:=P++A1) (Q:=B2++Q) (by omega) (by omega) hxs hm (by rw[XC];omega) (by rw[XC];omega) (by rw[XC];omega)]
    simp
   ·have he:P++(A++(B++Q))=P++(A1++(B1++(A2++(B2++Q)))):=by
     by_cases h0:t<A.length
     ·have:B1=[]:=XK.1 (by omega)
      subst this
      rw[hxs];simp
     ·have:A2=[]:=XK.1 (by omega)
      subst this
      rw[hxs];simp
    by_cases h0:t<A.length
    ·rw[if_pos (by omega),YB,if_neg (by rw[decide_eq_true_eq];omega),he]
    ·rw[if_neg (by omega),YB,if_neg (by simp),he]
  have hlenA:=congrArg Yb hAe
  have hlenB:=congrArg Yb hBe
  rw[XC]at hlenA hlenB
  obtain⟨R1,r1,r2,r3⟩:=left (A2++(B2++Q)) (by simp only[XC];omega)
  have hR1:=r3.perm.length_eq
  rw[XC]at hR1
  obtain⟨R2,q1,q2,q3⟩:=right (P++R1) (by rw[XC];omega) (by simp only[XC];omega)
  have hg:=glue hAs hBs c1 c2 r2 r3 q2 q3
  rw[hAe,hBe]at hg
  refine⟨R1++R2,close _ ?_ hg.2,hg.1,hg.2⟩
  have we:YG.wrap (((P.length+h+(P.length+A.length):Nat):Int)-(s:Int))=((P.length+A.length+u:Nat):Int):=by rw[dc (by omega) (by omega)];omega
  rw[F227i,w1,if_neg (by omega),w2,if_neg (by omega),wm,wn,ho,YB]
  simp only
  rw[kV,g1,YB,we,hrot,YB,r1,YB]
  rw[←XH,q1,XH,XH]
open Go Go.Fw
set_option maxRecDepth 100000
set_option linter.unusedVariables false
set_option linter.unusedSimpArgs false
theorem uQ{es:List Entry}(hb:es.length≤39):F221 es (es.length:Int)=YC (gi es):=by
 have big:(1099511627776:Nat)=1099511627774+1+1:=rfl
 have key:∃R,F221i es (es.length:Int)=YC R∧jq R∧fH es R:=by
  by_cases g:20≤es.length
  ·obtain⟨X,Y,hXY,hX⟩:∃X Y,es=X++Y∧X.length=20:=⟨es.take 20,es.drop 20,by simp,by rw[XL];omega⟩
   have hYl:=congrArg Yb hXY
   rw[XC]at hYl
   have s1:F226 es 0 20=YC (gi X++Y):=by
    have:=qj (P:=[]) (es:=X) (Q:=Y) (xs:=es) (a:=0) (b:=20) (by rw[hXY];rfl) rfl (by simp[hX]) (by simp) (by omega)
    simpa using this
   have s2:F226 (gi X++Y) 20 (es.length:Int)=YC (gi X++gi Y):=by
    have:=qj (P:=gi X) (es:=Y) (Q:=[]) (xs:=gi X++Y) (a:=20) (b:=(es.length:Int)) (by simp) (by rw[dj];omega) (by rw[dj];omega) (by rw[dj];omega) (by omega)
    simpa using this
   have hE:fH es (gi X++gi Y):=by rw[hXY];exact fH.app (dX X).2 (dX Y).2
   have h1:F221_l1 (es.length:Int) 1099511627776 es 0 20=YC (gi X++Y,20):=by
    rw[big,F221_l1,if_pos (by omega),s1,YB,show YG.wrap (20+20)=40 from rfl,F221_l1,if_neg (by omega)]
   by_cases g2:20<es.length
   ·obtain⟨R,r1,r2,r3⟩:=uM 1000 1099511627776 (gi X) (gi Y) [] [] (gi X++gi Y) 0 20 (es.length:Int) (by rw[dj,dj];omega) (by omega) (by rw[dj];omega) (by rw[dj];omega) (by simp) (by rw[XC,dj,dj];omega) rfl (by rw[dj];simp;omega) (by rw[dj,dj];simp;omega) (dX X).1 (dX Y).1
    rw[XU,X6]at r1
    refine⟨R,?_,r2,hE.tr r3⟩
    have h7:F221_l7 20 (es.length:Int) 1099511627776 (gi X++gi Y) 0 40=YC (gi X++gi Y,0):=by
     rw[big,F221_l7,if_neg (by omega)]
    have h5:F221_l5 (es.length:Int) 1099511627776 (gi X++gi Y) 20=YC R:=by
     conv=>lhs;arg 2;rw[show(1099511627776:Nat)=1099511627775+1 from rfl]
     rw[F221_l5,if_pos (by omega),show YG.wrap (2*20)=40 from rfl,h7,YB]
     simp only[show YG.wrap (0+20)=20 from rfl,show YG.wrap (20*2)=40 from rfl]
     rw[if_pos (by omega),r1]
     simp only[YB]
     conv=>lhs;arg 2;rw[show(1099511627775:Nat)=1099511627774+1 from rfl]
     rw[F221_l5,if_neg (by omega)]
    rw[F221i,h1,YB]
    simp only
    rw[s2,YB,h5];rfl
   ·have hY:Y=[]:=XK.1 (by omega)
    subst hY
    refine⟨gi X++gi [],?_,?_,hE⟩
    ·have h5:F221_l5 (es.length:Int) 1099511627776 (gi X++gi []) 20=YC (gi X++gi []):=by
      conv=>lhs;arg 2;rw[show(1099511627776:Nat)=1099511627775+1 from rfl]
      rw[F221_l5,if_neg (by omega)]
     rw[F221i,h1,YB]
     simp only
     rw[s2,YB,h5];rfl
    ·show jq (gi X++[])
     rw[X6];exact(dX X).1
  ·refine⟨gi es,?_,(dX es).1,(dX es).2⟩
   have s1:F226 es 0 (es.length:Int)=YC (gi es):=by
    have:=qj (P:=[]) (es:=es) (Q:=[]) (xs:=es) (a:=0) (b:=(es.length:Int)) (by simp) rfl (by simp) (by simp) (by omega)
    simpa using this
   have h1:F221_l1 (es.length:Int) 1099511627776 es 0 20=YC (es,0):=by
    rw[big,F221_l1,if_neg (by omega)]
   have h5:F221_l5 (es.length:Int) 1099511627776 (gi es) 20=YC (gi es):=by
    conv=>lhs;arg 2;rw[show(1099511627776:Nat)=1099511627775+1 from rfl]
    rw[F221_l5,if_neg (by omega)]
   rw[F221i,h1,YB]
   simp only
   rw[s1,YB,h5];rfl
 obtain⟨R,r1,r2,r3⟩:=key
 have he:R=gi es:=nH r2 (dX es).1 (r3.sy.tr (dX es).2)
 subst he
 rw[F221,r1,YB,if_pos (dj es)]
theorem yp{es:List Entry}(hb:es.length≤39):F195 es=YC (gi es):=by
 rw[F195,F195i,uQ hb]
 simp only[YB]
 rw[if_pos (dj es)]
open Go Go.Fw
set_option maxRecDepth 100000
set_option linter.unusedVariables false
set_option linter.unusedSimpArgs false
def jd(a b:aD):aD:=⟨di (di a.de+di b.de),di (di a.aG+di b.aG),di (di a.bF+di b.bF)⟩
def kM(a b:aD):aD:=⟨di (di a.de-di b.de),di (di a.aG-di b.aG),di (di a.bF-di b.bF)⟩
theorem KY(x y:Int):YG.wrap (di x+di y)=di x+di y:=by have:=gH x;have:=gH y;exact dc (by omega) (by omega)
theorem M5(x y:Int):YG.wrap (di x-di y)=di x-di y:=by have:=gH x;have:=gH y;exact dc (by omega) (by omega)
theorem qz(x y:Int):F194 (di x) (di y)=YC (di (di x+di y)):=by
 unfold F194 F183
 rw[YB]
 show YC (di (YG.wrap (di x+di y)))=_
 rw[KY]
theorem pP(x y:Int):F182 (di x) (di y)=YC (di (di x-di y)):=by
 unfold F182 F183
 rw[YB]
 show YC (di (YG.wrap (di x-di y)))=_
 rw[M5]
theorem BP(a b:aD):F132 a b=YC (jd a b):=by
 unfold F132 F181 F183
 simp only[YB]
 refine(congrArg (YD · _) (congrArg (YD · _) (qz a.de b.de))).trans ?_
 rw[YB]
 refine(congrArg (YD · _) (congrArg (YD · _) (qz a.aG b.aG))).trans ?_
 rw[YB]
 refine(congrArg (YD · _) (congrArg (YD · _) (qz a.bF b.bF))).trans ?_
 rfl
theorem zZ(a b:aD):F119 a b=YC (kM a b):=by
 unfold F119 F181v1 F183
 simp only[YB]
 refine(congrArg (YD · _) (congrArg (YD · _) (pP a.de b.de))).trans ?_
 rw[YB]
 refine(congrArg (YD · _) (congrArg (YD · _) (pP a.aG b.aG))).trans ?_
 rw[YB]
 refine(congrArg (YD · _) (congrArg (YD · _) (pP a.bF b.bF))).trans ?_
 rfl
def rO(a b:aD):Bool:=decide (di a.de≤di b.de∧di a.aG≤di b.aG∧di a.bF≤di b.bF)
theorem Nc(x y:Int):di (di x-di y)=0↔di x≤di y:=by
 have:=gH x;have:=gH y
 generalize di x=a at*;generalize di y=b at*
 unfold di;constructor
 ·intro h;split at h<;>split at h<;>omega
 ·intro h;split<;>split<;>omega
theorem CW(a b:aD):F118 a b=YC (rO a b):=by
 unfold F118
 rw[zZ,YB]
 unfold rO kM
 simp only[Nc]
def rh(s:aD)(l:List aP):aD:=l.foldl (fun s c=>jd s c.gK) s
def reqs(p:fw):aD:=rh ⟨0,0,0⟩ p.ad
theorem vi:∀(l:List aP) (i:Nat) (s:aD),F83_l1 l i s=YC (rh s l)
 |[],i,s=>rfl
 |c::l,i,s=>by
  unfold F83_l1
  rw[show F132 (⟨s.de,s.aG,s.bF⟩:aD) c.gK=YC (jd s c.gK)from BP _ _,YB]
  exact vi l _ _
theorem ra{p:fw}(h:p.ad.length≤4000000):F83 p=YC (reqs p):=by
 unfold F83
 rw[fR (by omega),YB,vi];rfl
abbrev fM(x:af):Bool:= !fh x.an.ae.bC
def iy(s:aD)(ps:List af):aD:=(ps.filter fM).foldl (fun s x=>jd s (reqs x.an.Spec)) s
def fQ(ps:List af):Nat:=(ps.filter fM).length
theorem ql(x:af):F10062 (fy x)=YC (fh x.an.ae.bC):=og x
theorem jh:∀(ps:List af) (i n:Nat) (s:aD),(∀x∈ps,x.an.Spec.ad.length≤4000000)→n+ps.length≤1000000→F117_l1 (ps.map fy) i n s=YC (((n+fQ ps:Nat):Int),iy s ps)
 |[],i,n,s,_,_=>rfl
 |x::ps,i,n,s,h,hn=>by
  simp only[XD]at hn
  rw[X5,F117_l1,ql]
  simp only[YB]
  have hx:=h x (XF ..)
  have ht:=fun y hy=>h y (XI x hy)
  cases hf:fh x.an.ae.bC with
  |true=>
   rw[if_neg (by simp[nb])]
   simp only[YB]
   rw[jh ps (i+1) n s ht (by omega)]
   simp[fQ,iy,hf]
  |false=>
   rw[if_pos (by simp[nb]),show F83 (fy x).an.Spec=YC (reqs x.an.Spec)from ra hx]
   simp only[YB]
   rw[show F132 (⟨s.de,s.aG,s.bF⟩:aD) (⟨(reqs x.an.Spec).de,(reqs x.an.Spec).aG,(reqs x.an.Spec).bF⟩:aD)=YC (jd s (reqs x.an.Spec))from BP _ _]
   simp only[YB]
   rw[show YG.wrap ((n:Int)+1)=((n+1:Nat):Int)from cL (by omega)]
   have ih:=jh ps (i+1) (n+1) (jd s (reqs x.an.Spec)) ht (by omega)
   refine ih.trans ?_
   congr 2
   ·have:fQ (x::ps)=fQ ps+1:=by unfold fQ;rw[XP,if_pos (by simp[hf])];rfl
    rw[this];congr 1;omega
   ·simp[iy,hf]
theorem sI{b:aj}{ps:List af}(h:∀x∈ps,x.an.Spec.ad.length≤4000000)(hl:ps.length≤1000):F117 (mT b ps)=YC ((fQ ps:Int),iy ⟨0,0,0⟩ ps):=by
 show((ck (0≤(ps.map fy).length∧(ps.map fy).length≤4294967290)).bind fun u8=>F117_l1 (ps.map fy) 0 0 ⟨0,0,0⟩).bind _=_
 rw[fR (by rw[XV];omega),YB]
 have:=jh ps 0 0 ⟨0,0,0⟩ h (by omega)
 simp only[YW]at this
 refine(congrArg (YD · _) this).trans rfl
def tn(n:eC)(ps:List af)(v:an):Bool:=decide ((fQ ps:Int)<n.cJ)&&rO (reqs v.Spec) (kM n.aJ (iy ⟨0,0,0⟩ ps))
def vK(l:List aP):List ag:=l.map fun c=>⟨c.aV,0,0,0,0,YL,YL⟩
def iX(b:aj)(ps:List af)(v:an):af:=
 if tn b.ah.Node ps v=YM then⟨⟨v.ak,v.Spec,⟨0,YL,0,b.ah.cl,0,vK v.Spec.ad,b.ah.b8,⟨#[]⟩,⟨#[]⟩⟩⟩,Yi (3*v.Spec.ad.length) ⟨0,0,YL,0⟩,Yi v.Spec.ad.length ⟨0,0⟩,YL,0⟩
 else⟨⟨v.ak,v.Spec,⟨3,YL,0,b.ah.cl,b.ah.cl,[],0,⟨#[]⟩,⟨#[79,117,116,79,102,82,101,115,111,117,114,99,101,115]⟩⟩⟩,[],[],YL,0⟩
def vL(b:aj)(ps:List af)(v:an):aj:=if tn b.ah.Node ps v=YM then yu b (YG.wrap (b.ah.b8+1))else yu b b.ah.b8
theorem w5:∀(l:List aP) (i:Nat) (a:List ag),a.length+l.length≤4000000→F30075e_l8 l i a=YC (a++vK l)
 |[],i,a,_=>by unfold F30075e_l8 vK;simp
 |c::l,i,a,h=>by
  simp only[XD]at h
  unfold F30075e_l8
  rw[jG (by simp;omega),YB,w5 l _ _ (by simp;omega)]
  simp[vK]
theorem AY{α:Type}(z:α){n:Nat}(h:n≤4000000):KQ z (n:Int) (n:Int)=YC (Yi n z):=by
 unfold KQ
 rw[if_pos (by omega)];simp
theorem DT{b:aj}{ps A C:List af}{v:an}(h:∀x∈ps,x.an.Spec.ad.length≤4000000)(hl:ps.length≤1000)(hv:v.Spec.ad.length≤1000)(hc:ps=A++C):
 Gq b ps (A.length:Int) v=YC (vL b ps v,A++iX b ps v::C):=by
 unfold Gq
 rw[sI h hl,YB]
 have hins:∀x:af,lL ps (A.length:Int) x=YC (A++x::C):=by
  intro x
  have hAl:A.length≤ps.length:=by rw[hc,XC];omega
  unfold lL
  rw[if_pos (by omega),YQ,hc,List.take_left,List.drop_left]
 have e:(if(fQ ps:Int)<b.ah.Node.cJ then(F83 v.Spec).bind fun t4=>(F119 b.ah.Node.aJ (iy ⟨0,0,0⟩ ps)).bind fun t5=>(F118 ((⟨(t4).de,(t4).aG,(t4).bF⟩:aD)) ((⟨(t5).de,(t5).aG,(t5).bF⟩:aD))).bind fun t6=>YC t6 else YC YL)=YC (tn b.ah.Node ps v):=by
  unfold tn
  by_cases hm:(fQ ps:Int)<b.ah.Node.cJ
  ·rw[if_pos hm,ra (by omega),YB,zZ,YB]
   rw[show F118 (⟨(reqs v.Spec).de,(reqs v.Spec).aG,(reqs v.Spec).bF⟩:aD) (⟨(kM b.ah.Node.aJ (iy ⟨0,0,0⟩ ps)).de,(kM b.ah.Node.aJ (iy ⟨0,0,0⟩ ps)).aG,(kM b.ah.Node.aJ (iy ⟨0,0,0⟩ ps)).bF⟩:aD)=YC (rO (reqs v.Spec) (kM b.ah.Node.aJ (iy ⟨0,0,0⟩ ps)))from CW _ _]
   simp[hm]
  ·rw[if_neg hm];simp[hm]
 unfold F30075e
 simp only[]
 rw[e]
 simp only[YB]
 unfold vL iX
 cases tn b.ah.Node ps v with
 |true=>
  simp only[if_true]
  rw[fR (by omega),YB,w5 _ _ _ (by simp;omega),YB,AY _ (by omega),YB,show YG.wrap (3*(v.Spec.ad.length:Int))=((3*v.Spec.ad.length:Nat):Int)from by rw[dc (by omega) (by omega)];omega,AY _ (by omega)]
  simp only[YB,hins,r7,XU]
 |false=>
  simp only[YN,if_false,YB,hins,r7]
open Go Go.Fw
set_option maxRecDepth 100000
set_option linter.unusedVariables false
set_option linter.unusedSimpArgs false
theorem kU{x:Int}(h:0≤x∧x≤1000000000000000):di x=x:=by unfold di;split<;>split<;>omega
theorem vj:∀(l:List aP) (s:aD),(0≤s.aG∧s.aG≤1000000000000000)→0≤(rh s l).aG∧(rh s l).aG≤1000000000000000
 |[],s,h=>h
 |c::l,s,h=>vj l _ (gH _)
def mem(x:af):Int:=(reqs x.an.Spec).aG
theorem Ic(x:af):0≤mem x∧mem x≤1000000000000000:=vj _ _ ⟨by decide,by decide⟩
def wk(x:af):Entry:=⟨ky x,x.an.Spec.dF,mem x,0⟩
def SC(ps:List af):Prop:=∀x∈ps,x.an.Spec.ad.length≤1000
theorem pY:∀(ps:List af) (i:Nat) (a:List gZ) (u:List Int),SC ps→a.length+ps.length≤4000000→u.length+ps.length≤4000000→F43e_l1 (ps.map fy) i a u=YC (a++(ps.filter fM).map (fun x=>(fy x).an),u++(ps.filter fM).map mem)
 |[],i,a,u,_,_,_=>by unfold F43e_l1;simp
 |x::ps,i,a,u,h,h1,h2=>by
  simp only[XD]at h1 h2
  have ht:SC ps:=fun y hy=>h y (XI x hy)
  rw[X5,F43e_l1,ql]
  simp only[YB]
  cases hf:fh x.an.ae.bC with
  |true=>
   rw[if_neg (by simp[nb])]
   simp only[YB]
   rw[pY ps (i+1) a u ht (by omega) (by omega)]
   simp[hf]
  |false=>
   rw[if_pos (by simp[nb]),jG (by simp;omega),YB,show F83 (fy x).an.Spec=YC (reqs x.an.Spec)from ra (p:=x.an.Spec) (by have:=h x (XF ..);omega),YB,jG (by simp;omega)]
   simp only[YB]
   rw[pY ps (i+1) _ _ ht (by simp;omega) (by simp;omega)]
   simp[hf,mem]
theorem rk(u:List Int):∀(ps:List af) (i:Nat) (a:List Entry),SC ps→(∀x∈ps,KW x.an.ak)→(∀j,ps[j]?.map mem=u[i+j]?)→a.length+ps.length≤4000000→F134_l1 u (ps.map fun x=>(fy x).an) i a=YC (a++ps.map wk)
 |[],i,a,_,_,_,_=>by unfold F134_l1;simp
 |x::ps,i,a,h,hk,hu,h1=>by
  simp only[XD]at h1
  have h0:=hu 0
  simp only[X7,YE,Nat.add_zero]at h0
  have hlt:i<u.length:=(XO.1 h0.symm).1
  rw[X5,F134_l1,show F74 (fy x).an.ak=YC (ky x)from lC (hk x (XF ..)),YB,if_pos (by omega),cz,←h0,YB]
  unfold F133
  rw[YB,show F83 (fy x).an.Spec=YC (reqs x.an.Spec)from ra (p:=x.an.Spec) (by have:=h x (XF ..);omega)]
  simp only[YB]
  have e1:(if 1000000000000000<(if mem x<0 then 0 else mem x)then 1000000000000000 else(if mem x<0 then 0 else mem x))=mem x:=kU (Ic x)
  rw[e1,show YG.wrap (mem x-(reqs x.an.Spec).aG)=0 from by show YG.wrap (mem x-mem x)=0;rw[Int.sub_self];rfl,jG (by simp;omega),YB]
  rw[rk u ps (i+1) _ (fun y hy=>h y (XI x hy)) (fun y hy=>hk y (XI x hy)) (fun j=>by have:=hu (j+1);simp only[Yk]at this;rw[this];congr 1;omega) (by simp;omega)]
  simp[wk];rfl
def uJ(lim:Int):List Entry→Int→List ByteArray
 |[],_=>[]
 |e::l,t=>if t≤lim then []else e.key::uJ lim l (YG.wrap (t-e.tC))
theorem qR(lim:Int){w:ByteArray}:∀{l:List Entry} {t:Int},w∈uJ lim l t→∃e∈l,e.key=w
 |[],_,h=>by simp[uJ]at h
 |e::l,t,h=>by
  unfold uJ at h
  split at h
  ·simp at h
  ·rcases XN.1 h with rfl|h
   ·exact⟨e,XF ..,rfl⟩
   ·obtain⟨e',h1,h2⟩:=qR lim h
    exact⟨e',XI _ h1,h2⟩
theorem qS(lim:Int):∀(l:List Entry) (t:Int),(uJ lim l t).length≤l.length
 |[],_=>by simp[uJ]
 |e::l,t=>by
  unfold uJ
  split
  ·simp
  ·have:=qS lim l (YG.wrap (t-e.tC));simp;omega
theorem vl(x3:Int):∀(l:List Entry) (i:Nat) (t:Int) (a:List ByteArray),a.length+l.length≤4000000→F84_l4 x3 l i t a=YC (a++uJ (di x3) l t)
 |[],i,t,a,_=>by unfold F84_l4 uJ;simp
 |e::l,i,t,a,h=>by
  simp only[XD]at h
  unfold F84_l4 uJ
  by_cases hc:t≤di x3
  ·refine(if_pos (c:=t≤di x3) hc).trans ?_
   rw[if_pos hc];simp
  ·refine(if_neg (c:=t≤di x3) hc).trans ?_
   rw[if_neg hc,jG (by simp;omega),YB,vl x3 l _ _ _ (by simp;omega)];simp
def ID(b:aj)(ps:List af):List ByteArray:=uJ (di b.ah.Node.aJ.aG) (gi ((ps.filter fM).map wk)) (di b.ah.bW)
theorem IC{b:aj}{ps:List af}(hs:SC ps)(hk:∀x∈ps,KW x.an.ak)(hl:ps.length≤39):∃lu,F43e 0 b (ps.map fy)=YC lu∧F84 lu.1 lu.2 b.ah.bW b.ah.Node.aJ.aG=YC (ID b ps):=by
 refine⟨((ps.filter fM).map (fun x=>(fy x).an),(ps.filter fM).map mem),?_,?_⟩
 ·unfold F43e
  rw[fR (by rw[XV];omega),YB,pY ps 0 [] [] hs (by simp;omega) (by simp;omega)]
  simp
 ·have hfl:(ps.filter fM).length≤39:=YU (Ye _ _) hl
  have hm:∀x∈ps.filter fM,x∈ps:=fun x hx=>(Yg.1 hx).1
  unfold F84 F133 F134
  simp only[YB]
  rw[fR (by rw[XV];omega),YB,rk _ _ 0 [] (fun x hx=>hs x (hm x hx)) (fun x hx=>hk x (hm x hx)) (fun j=>by rw[Yw,YW]) (by simp;omega)]
  simp only[XU,YB]
  rw[yp (by rw[XV];exact hfl)]
  simp only[YB]
  have hil:(gi ((ps.filter fM).map wk)).length≤39:=by rw[dj,XV];exact hfl
  rw[fR (by omega),YB,vl _ _ 0 _ [] (by simp;omega)]
  rfl
theorem pj{b:aj}{ps:List af}{w:ByteArray}(h:w∈ID b ps):∃x∈ps,ky x=w∧fh x.an.ae.bC=YL:=by
 obtain⟨e,h1,h2⟩:=qR _ h
 have:=(dX ((ps.filter fM).map wk)).2.perm.mem_iff.2 h1
 obtain⟨x,hx,rfl⟩:=X3.1 this
 have hx:=Yg.1 hx
 exact⟨x,hx.1,h2,by simpa using hx.2⟩
theorem zm(b:aj)(ps:List af):(ID b ps).length≤ps.length:=by
 refine YU (qS _ _ _) ?_
 rw[dj,XV];exact Ye _ _
def j4(b:aj)(x:af):af:=pZ b x (gu b.ah.cl x.an.ae.ad x.aq)
theorem lq(b:aj)(x:af):ky (j4 b x)=ky x:=rfl
theorem mE{b:aj}{x:af}(h:PL x):PL (j4 b x):=by
 have hl:=iP b.ah.cl x.an.ae.ad x.aq (by rw[h.c,h.r])
 exact⟨hl.1.trans h.c,h.p,hl.2.trans h.r,h.n⟩
structure PO(x:af):Prop where
 kw:KW x.an.ak
 sc:x.an.Spec.ad.length≤1000
 pl:PL x∨fh x.an.ae.bC=YM∧x.an.ae.ad=[]∧x.aK=[]∧x.aq=[]
theorem PO.run{x:af}(h:PO x)(hf:fh x.an.ae.bC=YL):PL x:=h.pl.resolve_right fun h=>by rw[hf]at h;cases h.1
theorem ku{w:ByteArray}{f:af→af}{ps:List af}{p:af→Prop}(h:∀x∈ps,p x)(hf:∀x∈ps,ky x=w→p (f x)):∀x∈hD w f ps,p x:=by
 intro y hy
 obtain⟨x,hx,rfl⟩:=X3.1 hy
 by_cases h1:ky x=w
 ·rw[if_pos h1];exact hf x hx h1
 ·rw[if_neg h1];exact h x hx
theorem qh{f:af→af}(hf:∀x,ky (f x)=ky x){ps:List af}(h:KS ps):KS (ps.map f):=List.pairwise_map.2 (h.imp fun{a b} h=>by rw[hf,hf];exact h)
theorem pN{w:ByteArray}{f:af→af}(hf:∀x,ky (f x)=ky x){ps:List af}(h:KS ps):KS (hD w f ps):=qh (fun x=>by split<;>simp[hf]) h
theorem kr(w:ByteArray)(f:af→af)(ps:List af):(hD w f ps).length=ps.length:=by simp[hD]
theorem ri{b:aj}:∀{ks:List ByteArray} {ps:List af},KS ps→ps.length≤1000→(∀x∈ps,KW x.an.ak)→(∀w∈ks,∃x∈ps,ky x=w∧PL x)→vm b ks ps=YC (ks.foldl (fun ps w=>hD w (j4 b) ps) ps)
 |[],ps,_,_,_,_=>rfl
 |w::ks,ps,h,hl,hk,hw=>by
  obtain⟨y,hy,hyw,hpl⟩:=hw w (XF ..)
  unfold vm
  rcases mX (b:=b) h hl hk w with⟨A,x,C,rfl,rfl,hf⟩|⟨A,C,rfl,h1,h2,hf⟩
  ·rw[hf]
   simp only[YB]
   have hxy:x=y:=by
    obtain⟨q1,q2⟩:=qi h
    rcases XX.1 hy with h3|h3
    ·exact absurd hyw (ga (q1 y h3))
    ·rcases XN.1 h3 with h3|h3
     ·exact h3.symm
     ·exact absurd hyw (ga (q2 y h3)).symm
   subst hxy
   rw[cz,eO,YB]
   have e:F30043f 0 b [] [] 0 x=YC (gu b.ah.cl x.an.ae.ad x.aq):=by
    unfold F30043f;rw[uP hpl];rfl
   rw[e,YB,YQ,fK]
   have hu:=mA h (j4 b)
   have:A++pZ b x (gu b.ah.cl x.an.ae.ad x.aq)::C=hD (ky x) (j4 b) (A++x::C):=hu.symm
   rw[this,Yh]
   refine ri (pN (lq b) h) (by rw[kr];exact hl) (ku hk fun y hy _=>hk y hy) fun w' hw'=>?_
   obtain⟨z,hz,hzw,hzp⟩:=hw w' (XI _ hw')
   refine⟨if ky z=ky x then j4 b z else z,X3.2 ⟨z,hz,rfl⟩,?_,?_⟩
   ·split
    ·rw[lq];exact hzw
    ·exact hzw
   ·split
    ·exact mE hzp
    ·exact hzp
  ·exfalso
   rcases XX.1 hy with h3|h3
   ·exact ga (h1 y h3) hyw
   ·exact ga (h2 y h3) hyw.symm
open Go Go.Fw
set_option maxRecDepth 100000
set_option linter.unusedVariables false
set_option linter.unusedSimpArgs false
def oL(b:aj)(v:an)(x:af):af:=if(v.ak.bP&& !fh x.an.ae.bC&& !x.bh)=YM then wR v x YM (BL b.ah.cl v.ak.bz)else wR v x x.bh x.bK
theorem DO(b:aj)(v:an)(x:af):BM b v x=YC (oL b v x):=by
 unfold BM oL
 rw[og,show(wR v x x.bh x.bK).an.ae.bC=x.an.ae.bC from rfl]
 unfold F36
 cases v.ak.bP<;>cases fh x.an.ae.bC<;>cases x.bh<;>rfl
def cidx(x:af)(n:ByteArray):Option Nat:=(nu x n).bind fun j=>if j<0 then none else YC j.toNat
def xl(now:Int)(v:aN)(x:af):af:=if fh x.an.ae.bC=YM then x else match cidx x v.aP with
 |some i=>wQ now v x i
 |none=>x
def LW(now:Int)(x:af):af:=Gs x (qt now x.an.Spec.ad x.an.ae.ad x.aK)
def yJ(b:aj)(ps:List af)(v:aN):List aw:=(F42 v.aP v.N (mT b ps)).getD []
def pg(b:aj)(ps:List af)(v:aN):aj×List af:=
 if v.bY=1 then(Le b (BL b.ah.cl v.N),ps)
 else if v.bY=2 then(if qk (kz v.an.ak) ps=YM then(b,hD (kz v.an.ak) (oL b v.an) ps)else if zL b v.an ps.length=YM then(vL b ps v.an,iv (iX b ps v.an) ps)else(b,ps))
 else if v.bY=3 then(b,wy v.aV ps)
 else if v.bY=4∨v.bY=5 then(b,hD v.aV (xl b.ah.cl v) ps)
 else if v.bY=6 then(xe b (yJ b ps v),ps)
 else if v.bY=7 then(ir b (if v.N<0 then 0 else v.N),if(if v.N<0 then 0 else v.N)≤b.ah.Node.aJ.aG then ps else(ID (ir b (if v.N<0 then 0 else v.N)) ps).foldl (fun ps w=>hD w (j4 (ir b (if v.N<0 then 0 else v.N))) ps) ps)
 else if v.bY=8 then(b,ps.map (LW b.ah.cl))
 else(b,ps)
structure PS(ps:List af):Prop where
 ks:KS ps
 po:∀x∈ps,PO x
theorem vC:∀(l:List aP) (i:Nat) (a:List ByteArray),a.length+l.length≤4000000→F42_l6 l i a=YC (a++l.map aP.aw)
 |[],i,a,_=>by unfold F42_l6;simp
 |c::l,i,a,h=>by
  simp only[XD]at h
  unfold F42_l6
  rw[jG (by simp;omega),YB,vC l _ _ (by simp;omega)];simp
def jX(ps:List af):List ByteArray:=(ps.filter fM).flatMap fun x=>x.an.Spec.ad.map aP.aw
theorem lT:∀{ps:List af},SC ps→(jX ps).length≤1000*ps.length
 |[],_=>by simp[jX]
 |x::ps,h=>by
  have ih:=lT (ps:=ps) fun y hy=>h y (XI x hy)
  have hx:=h x (XF ..)
  unfold jX at ih⊢
  rw[XP]
  split
  ·rw[Yy,XC,XV,XD];omega
  ·rw[XD];omega
theorem p9:∀(ps:List af) (i:Nat) (a:List ByteArray),SC ps→a.length+1000*ps.length≤4000000→F42_l1 (ps.map fy) i a=YC (a++jX ps)
 |[],i,a,_,_=>by unfold F42_l1 jX;simp
 |x::ps,i,a,h,h1=>by
  simp only[XD]at h1
  have hx:=h x (XF ..)
  have ht:SC ps:=fun y hy=>h y (XI x hy)
  rw[X5,F42_l1,ql]
  simp only[YB]
  cases hf:fh x.an.ae.bC with
  |true=>
   rw[if_pos rfl]
   simp only[YB]
   rw[p9 ps _ _ ht (by omega)]
   unfold jX;rw[XP,if_neg (by simp[hf])]
  |false=>
   rw[if_neg (by simp),show(fy x).an.Spec=x.an.Spec from rfl,fR (by omega),YB,vC _ _ _ (by omega)]
   simp only[YB]
   rw[p9 ps _ _ ht (by simp;omega)]
   unfold jX;rw[XP,if_pos (by simp[hf]),Yy];simp
theorem AL{b:aj}{ps:List af}{v:aN}(hs:SC ps)(hl:ps.length≤1000)(hi:b.ah.aM.length≤64):F42 v.aP v.N (mT b ps)=YC (yJ b ps v)∧(yJ b ps v).length≤64:=by
 have:∃r,F42 v.aP v.N (mT b ps)=YC r∧r.length≤64:=by
  show∃r,(((ck (0≤(ps.map fy).length∧(ps.map fy).length≤4294967290)).bind fun u10=>F42_l1 (ps.map fy) 0 ([])).bind fun o1=>(F82 b.ah.aM v.aP v.N b.ah.cl).bind fun t11=>(F81 t11 o1 b.ah.bO 85 80).bind fun t12=>YC t12.1)=YC r∧r.length≤64
  rw[fR (by rw[XV];omega),YB,p9 ps 0 [] hs (by simp;omega)]
  simp only[XU,YB]
  obtain⟨t,h1,h2⟩:=B0 v.aP v.N b.ah.cl hi
  have hu:=lT hs
  obtain⟨r,h3,h4⟩:=Dl (us:=jX ps) (by omega) b.ah.bO 85 80 h2
  rw[h1,YB,h3]
  exact⟨_,rfl,h4⟩
 obtain⟨r,h1,h2⟩:=this
 unfold yJ
 rw[h1];exact⟨rfl,h2⟩
theorem oC{b:aj}:∀{ps:List af},(∀x∈ps,PO x)→qq b ps=YC (ps.map (LW b.ah.cl))
 |[],_=>rfl
 |x::ps,h=>by
  unfold qq
  have e:F30044f 0 b [] 0 0 x=YC (qt b.ah.cl x.an.Spec.ad x.an.ae.ad x.aK):=by
   rcases(h x (XF ..)).pl with hp|⟨_,h1,h2,_⟩
   ·exact zu hp
   ·rw[zw h1,h1,h2]
    cases x.an.Spec.ad<;>rfl
  rw[e,YB,oC fun y hy=>h y (XI x hy)]
  rfl
theorem IE{b:aj}{ps:List af}{v:aN}(h:PS ps)(hl:ps.length≤39)(hi:b.ah.aM.length≤64)(hv:KW v.an.ak)(hc:v.an.Spec.ad.length≤1000):NU b ps v=YC (pg b ps v):=by
 have hk:∀x∈ps,KW x.an.ak:=fun x hx=>(h.po x hx).kw
 have hs:SC ps:=fun x hx=>(h.po x hx).sc
 unfold NU pg
 by_cases k1:v.bY=1
 ·rw[if_pos k1,if_pos k1]
 rw[if_neg k1,if_neg k1]
 by_cases k2:v.bY=2
 ·rw[if_pos k2,if_pos k2]
  unfold L2
  rw[lC hv,YB]
  rcases mX (b:=b) h.ks (by omega) hk (kz v.an.ak)with⟨A,x,C,hps,hx,hf⟩|⟨A,C,hps,h1,h2,hf⟩
  ·rw[hf,YB]
   subst hps
   simp only[if_true]
   rw[cz,eO,YB,DO,YB,YQ,fK,←hx,ze,if_pos rfl,mA h.ks]
  ·rw[hf,YB]
   have hn:qk (kz v.an.ak) ps=YL:=hps▸wa h1 h2
   rw[hn]
   simp only[YN,if_false]
   split
   ·rw[DT (fun x hx=>by have:=hs x hx;omega) (by omega) hc hps]
    congr 2
    have hky:ky (iX b ps v.an)=kz v.an.ak:=by unfold iX;split<;>rfl
    have e:=rK (y:=iX b ps v.an) (A:=A) (C:=C) (fun a ha=>by rw[hky];exact h1 a ha) (fun c hc=>by rw[hky];exact h2 c hc)
    rw[←hps]at e
    exact e.symm
   ·rfl
 rw[if_neg k2,if_neg k2]
 by_cases k3:v.bY=3
 ·rw[if_pos k3,if_pos k3]
  unfold NZ
  rcases mX (b:=b) h.ks (by omega) hk v.aV with⟨A,x,C,hps,hx,hf⟩|⟨A,C,hps,h1,h2,hf⟩
  ·rw[hf]
   simp only[YB,if_true]
   subst hps
   have hAl:(A++x::C).length=A.length+1+C.length:=by simp;omega
   rw[show YG.wrap ((A.length:Int)+1)=((A.length+1:Nat):Int)from cL (by omega)]
   have hd:oz (A++x::C) (A.length:Int) ((A.length+1:Nat):Int)=YC (A++C):=by
    unfold oz
    rw[if_pos (by omega)]
    simp
   rw[hd,YB,←hx,zt h.ks]
  ·rw[hf]
   simp only[YB,YN,if_false]
   subst hps
   rw[qp fun a ha=>?_]
   rcases XX.1 ha with ha|ha
   ·exact ga (h1 a ha)
   ·exact(ga (h2 a ha)).symm
 rw[if_neg k3,if_neg k3]
 by_cases k4:v.bY=4∨v.bY=5
 ·rw[if_pos k4,if_pos k4]
  unfold Pv
  rcases mX (b:=b) h.ks (by omega) hk v.aV with⟨A,x,C,hps,hx,hf⟩|⟨A,C,hps,h1,h2,hf⟩
  ·rw[hf]
   simp only[YB,if_true]
   subst hps
   rw[cz,eO,YB,og,YB,←hx,mA h.ks]
   unfold xl
   cases hfin:fh x.an.ae.bC with
   |true=>simp only[if_true,YB]
   |false=>
    simp only[YN,if_false]
    have hpl:PL x:=(h.po x (by simp)).run hfin
    rcases Dj hpl.n v.aP with⟨k,q1,q2,_,_⟩|⟨q1,_⟩
    ·unfold cidx
     rw[q1]
     simp only[YB]
     rw[if_neg (by omega)]
     obtain⟨q,r1,r2⟩:=N5 (b:=b) (v:=v) hpl (XG q2)
     rw[r1]
     simp only[YB,YQ]
     rw[fK,r2]
    ·unfold cidx
     rw[q1]
     simp only[YB]
     rw[if_pos (by omega)]
     have e:F30041f 0 b [] v (-1) x=YC (x.an.ae.ad,x.aK,x.aq):=by
      unfold F30041f;rw[if_pos (by omega)]
     rw[e]
     simp only[YB,YQ]
     rw[fK];rfl
  ·rw[hf]
   simp only[YB,YN,if_false]
   subst hps
   rw[mz fun a ha=>?_]
   rcases XX.1 ha with ha|ha
   ·exact ga (h1 a ha)
   ·exact(ga (h2 a ha)).symm
 rw[if_neg k4,if_neg k4]
 by_cases k6:v.bY=6
 ·rw[if_pos k6,if_pos k6,(AL hs (by omega) hi).1];rfl
 rw[if_neg k6,if_neg k6]
 by_cases k7:v.bY=7
 ·rw[if_pos k7,if_pos k7]
  unfold HL
  generalize (if v.N<0 then 0 else v.N)=m
  by_cases hm:m≤b.ah.Node.aJ.aG
  ·rw[if_pos (show(ir b m).ah.bW≤(ir b m).ah.Node.aJ.aG from hm),if_pos hm];rfl
  ·rw[if_neg (show¬(ir b m).ah.bW≤(ir b m).ah.Node.aJ.aG from hm),if_neg hm]
   obtain⟨lu,h1,h2⟩:=IC (b:=ir b m) hs hk hl
   have h1':F43e 0 (ir b m) (ps.map fy)=YC lu:=h1
   rw[h1',YB,h2,YB,fR (by have:=zm (ir b m) ps;omega),YB,ri h.ks (by omega) hk fun w hw=>?_]
   ·rfl
   ·obtain⟨x,hx,hxw,hxf⟩:=pj hw
    exact⟨x,hx,hxw,(h.po x hx).run hxf⟩
 rw[if_neg k7,if_neg k7]
 by_cases k8:v.bY=8
 ·rw[if_pos k8,if_pos k8,oC h.po];rfl
 rw[if_neg k8,if_neg k8]
open Go Go.Fw
set_option maxRecDepth 100000
set_option linter.unusedVariables false
set_option linter.unusedSimpArgs false
theorem lY{b:aj}(hb:b.ah.aM.length≤1000):∀{ps:List af},(∀x∈ps,PO x)→je b ps=YC (ps.filterMap (lZ b.ah.cl b.ah.aM))
 |[],_=>rfl
 |x::ps,h=>by
  have h0:=h x (XF ..)
  unfold je
  rw[Cn hb (by
   cases hf:fh x.an.ae.bC with
   |true=>exact .inl rfl
   |false=>exact .inr (h0.run hf)),YB,lY hb fun y hy=>h y (XI x hy),YB,List.filterMap_cons]
  cases lZ b.ah.cl b.ah.aM x<;>rfl
def kO(a:ah)(v:aN):ah:=KU (pg (lh a) a.bq v).1 ((pg (lh a) a.bq v).2.filterMap (lZ (pg (lh a) a.bq v).1.ah.cl (pg (lh a) a.bq v).1.ah.aM))
theorem j7(y z:af):∀ps,z∈iv y ps↔z=y∨z∈ps
 |[]=>by simp[iv]
 |x::ps=>by
  have ih:=j7 y z ps
  unfold iv
  split
  ·simp
  ·simp only[XN,ih];exact⟨fun h=>h.elim (fun h=> .inr (.inl h)) fun h=>h.elim .inl fun h=> .inr (.inr h),fun h=>h.elim (fun h=> .inr (.inl h)) fun h=>h.elim .inl fun h=> .inr (.inr h)⟩
theorem nV(y:af):∀ps,(iv y ps).length=ps.length+1
 |[]=>rfl
 |x::ps=>by
  unfold iv
  split
  ·rfl
  ·rw[XD,nV y ps,XD]
theorem rL{y:af}:∀{ps:List af},KS ps→(∀a∈ps,ky a≠ky y)→KS (iv y ps)
 |[],_,_=>by simp[iv,KS]
 |x::ps,h,hn=>by
  obtain⟨h1,h2⟩:=XJ.1 h
  unfold iv
  split
  ·rename_i hl
   refine XJ.2 ⟨fun z hz=>?_,h⟩
   rcases XN.1 hz with rfl|hz
   ·exact hl
   ·exact lt_trans hl (h1 z hz)
  ·rename_i hl
   have hxy:lt (ky x) (ky y):=xS hl (hn x (XF ..)).symm
   refine XJ.2 ⟨fun z hz=>?_,rL h2 fun a ha=>hn a (XI _ ha)⟩
   rcases(j7 y z ps).1 hz with rfl|hz
   ·exact hxy
   ·exact h1 z hz
theorem ur{w:ByteArray}{ps:List af}(h:¬qk w ps=YM):∀a∈ps,ky a≠w:=by
 intro a ha he
 exact h (List.any_eq_true.2 ⟨a,ha,by simpa using he⟩)
theorem uq{ps:List af}(h:KS ps){x y:af}(hx:x∈ps)(hy:y∈ps)(he:ky x=ky y):x=y:=by
 induction ps with
 |nil=>cases hx
 |cons z ps ih=>
  obtain⟨h1,h2⟩:=XJ.1 h
  rcases XN.1 hx with rfl|_
  ·rcases XN.1 hy with rfl|hy
   ·rfl
   ·exact absurd he (ga (h1 y hy))
  ·rename_i hx2
   rcases XN.1 hy with rfl|hy2
   ·exact absurd he.symm (ga (h1 x hx2))
   ·exact ih h2 hx2 hy2
theorem ui(b:aj)(ps:List af)(v:an):ky (iX b ps v)=kz v.ak:=by unfold iX;split<;>rfl
theorem kH(b:aj)(ps:List af)(v:an):(iX b ps v).an.Spec=v.Spec∧(iX b ps v).an.ak=v.ak:=by unfold iX;split<;>exact⟨rfl,rfl⟩
theorem yT{b:aj}{ps:List af}{v:an}(hv:KW v.ak)(hc:v.Spec.ad.length≤1000):PO (iX b ps v):=by
 refine⟨by rw[(kH b ps v).2];exact hv,by rw[(kH b ps v).1];exact hc,?_⟩
 unfold iX
 split
 ·exact .inl ⟨by simp[vK],by simp,by simp,hc⟩
 ·exact .inr ⟨rfl,rfl,rfl,rfl⟩
theorem oh(now:Int)(v:aN)(x:af):(xl now v x).an.ak=x.an.ak∧(xl now v x).an.Spec=x.an.Spec∧(xl now v x).an.ae.bC=x.an.ae.bC∧(xl now v x).an.ae.b7=x.an.ae.b7∧(xl now v x).an.ae.bu=x.an.ae.bu:=by
 unfold xl
 split
 ·exact⟨rfl,rfl,rfl,rfl,rfl⟩
 ·split
  ·exact wP _ _ _ _
  ·exact⟨rfl,rfl,rfl,rfl,rfl⟩
theorem Dc{now:Int}{v:aN}{x:af}(h:PO x):PO (xl now v x):=by
 have hk:=oh now v x
 refine⟨by rw[hk.1];exact h.kw,by rw[hk.2.1];exact h.sc,?_⟩
 unfold xl
 cases hf:fh x.an.ae.bC with
 |true=>simp only[if_true];exact h.pl
 |false=>
  simp only[YN,if_false]
  split
  ·exact .inl (DN (h.run hf))
  ·exact h.pl
theorem zK{b:aj}{v:an}{x:af}(hv:KW v.ak)(h:PO x):PO (oL b v x):=by
 unfold oL
 split
 ·exact⟨hv,h.sc,h.pl.imp (fun p=>⟨p.c,p.p,p.r,p.n⟩) id⟩
 ·exact⟨hv,h.sc,h.pl.imp (fun p=>⟨p.c,p.p,p.r,p.n⟩) id⟩
theorem uy(b:aj)(v:an)(x:af):ky (oL b v x)=kz v.ak:=by unfold oL;split<;>rfl
theorem Dh{now:Int}{x:af}(h:PO x):PO (LW now x):=by
 refine⟨h.kw,h.sc,h.pl.imp (fun p=>⟨p.c,?_,p.r,p.n⟩) fun⟨h1,h2,h3,h4⟩=>⟨h1,h2,?_,h4⟩⟩
 ·exact(rU _ _ _ _).trans p.p
 ·show qt now _ _ _=[]
  rw[h2,h3];cases x.an.Spec.ad<;>rfl
theorem yH{b:aj}{x:af}(h:PO x)(hp:PL x):PO (j4 b x):=⟨h.kw,h.sc,.inl (mE hp)⟩
theorem yj{w:ByteArray}{f:af→af}(hf:∀x,ky (f x)=w){ps:List af}(h:KS ps):KS (hD w f ps):=qh (fun x=>by
 split
 ·rename_i h1;rw[hf,h1]
 ·rfl) h
theorem wc{b:aj}:∀{ks:List ByteArray} {ps:List af},PS ps→(∀w∈ks,∀x∈ps,ky x=w→PL x)→PS (ks.foldl (fun ps w=>hD w (j4 b) ps) ps)∧(ks.foldl (fun ps w=>hD w (j4 b) ps) ps).length=ps.length
 |[],ps,h,_=>⟨h,rfl⟩
 |w::ks,ps,h,hw=>by
  rw[Yh]
  have h1:PS (hD w (j4 b) ps):=⟨pN (lq b) h.ks,ku h.po fun x hx hxw=>yH (h.po x hx) (hw w (XF ..) x hx hxw)⟩
  have:=wc (b:=b) (ks:=ks) h1 fun w' hw' y hy hyw=>by
   obtain⟨x,hx,rfl⟩:=X3.1 hy
   by_cases hc:ky x=w
   ·rw[if_pos hc];exact mE (hw w (XF ..) x hx hc)
   ·rw[if_neg hc]at hyw⊢;exact hw w' (XI _ hw') x hx hyw
  rw[kr]at this
  exact this
theorem Db{b:aj}{ps:List af}{v:aN}(h:PS ps)(hi:b.ah.aM.length≤64)(hl:ps.length≤1000)(hv:KW v.an.ak)(hc:v.an.Spec.ad.length≤1000):
 PS (pg b ps v).2∧(pg b ps v).2.length≤ps.length+1∧(pg b ps v).1.ah.aM.length≤64∧(pg b ps v).1.ah.Node=b.ah.Node:=by
 have hs:SC ps:=fun x hx=>(h.po x hx).sc
 unfold pg
 split
 ·exact⟨h,by simp,hi,rfl⟩
 split
 ·split
  ·exact⟨⟨yj (uy b v.an) h.ks,ku h.po fun x hx _=>zK hv (h.po x hx)⟩,by rw[kr];omega,hi,rfl⟩
  ·rename_i hk
   split
   ·refine⟨⟨rL h.ks fun a ha=>by rw[ui];exact ur hk a ha,fun x hx=>?_⟩,by rw[nV];exact YT _,?_,?_⟩
    ·rcases(j7 _ _ _).1 hx with rfl|hx
     ·exact yT hv hc
     ·exact h.po x hx
    ·unfold vL;split<;>exact hi
    ·unfold vL;split<;>rfl
   ·exact⟨h,by simp,hi,rfl⟩
 split
 ·exact⟨⟨h.ks.sublist List.filter_sublist,fun x hx=>h.po x (Yg.1 hx).1⟩,YU (Ye _ _) (by omega),hi,rfl⟩
 split
 ·exact⟨⟨pN (fun x=>by unfold ky;rw[(oh _ _ _).1]) h.ks,ku h.po fun x hx _=>Dc (h.po x hx)⟩,by rw[kr];omega,hi,rfl⟩
 split
 ·exact⟨h,by simp,(AL hs hl hi).2,rfl⟩
 split
 ·generalize (if v.N<0 then 0 else v.N)=m
  by_cases hm:m≤b.ah.Node.aJ.aG
  ·simp only[if_pos hm]
   exact⟨h,by omega,hi,rfl⟩
  ·simp only[if_neg hm]
   obtain⟨h1,h2⟩:=wc (b:=ir b m) (ks:=ID (ir b m) ps) h fun w hw x hx hxw=>by
    obtain⟨y,hy,hyw,hyf⟩:=pj hw
    have:x=y:=uq h.ks hx hy (hxw.trans hyw.symm)
    subst this
    exact(h.po x hx).run hyf
   exact⟨h1,by rw[h2];omega,hi,rfl⟩
 split
 ·exact⟨⟨qh (f:=LW b.ah.cl) (fun x=>rfl) h.ks,fun y hy=>by
   obtain⟨x,hx,rfl⟩:=X3.1 hy
   exact Dh (h.po x hx)⟩,by simp,hi,rfl⟩
 ·exact⟨h,by simp,hi,rfl⟩
theorem Cl{now:Int}{im:List aw}{ps:List af}(h:PS ps):PS (ps.filterMap (lZ now im))∧(ps.filterMap (lZ now im)).length≤ps.length:=by
 refine⟨⟨?_,fun y hy=>?_⟩,List.length_filterMap_le _ _⟩
 ·refine List.pairwise_filterMap.2 (h.ks.imp fun{a b} hab y hy z hz=>?_)
  have h1:=iQ hy
  have h2:=iQ hz
  unfold ky at hab⊢
  rw[h1.1,h2.1];exact hab
 ·obtain⟨x,hx,hxy⟩:=Yu.1 hy
  have h1:=iQ hxy
  have h0:=h.po x hx
  refine⟨by rw[h1.1];exact h0.kw,by rw[h1.2.1];exact h0.sc,?_⟩
  cases hf:fh x.an.ae.bC with
  |true=>rw[h1.2.2.1 hf];exact h0.pl
  |false=>exact .inl (h1.2.2.2 (h0.run hf))
structure zP(n:eC)(k:Nat)(a:ah):Prop where
 node:a.Node=n
 NJ:a.aM.length≤64
 ps:PS a.bq
 len:a.bq.length≤k
def KI(v:aN):Prop:=KW v.an.ak∧v.an.Spec.ad.length≤1000
theorem Cb{n:eC}{k:Nat}{a:ah}{v:aN}(h:zP n k a)(hk:k≤39)(hv:KI v):F10 a v=YC (kO a v)∧zP n (k+1) (kO a v):=by
 have hl:a.bq.length≤39:=YU h.len hk
 obtain⟨e1,e2,e3,e4⟩:=Db (b:=lh a) (v:=v) h.ps h.NJ (by omega) hv.1 hv.2
 obtain⟨s1,s2⟩:=Cl (now:=(pg (lh a) a.bq v).1.ah.cl) (im:=(pg (lh a) a.bq v).1.ah.aM) e1
 constructor
 ·have hA:pn a:=by
   refine⟨by have:=h.NJ;omega,by omega,fun x hx=>?_⟩
   have h0:=h.ps.po x hx
   unfold AM
   rcases h0.pl with p|⟨_,q1,q2,q3⟩
   ·have:=p.c;have:=p.p;have:=p.r;have:=p.n;omega
   ·rw[q1,q2,q3];simp
  unfold F10
  rw[fR hA,YB,IE h.ps hl h.NJ hv.1 hv.2,YB]
  unfold F45
  rw[fR (by have:=e2;omega),YB,lY (by omega) e1.po,YB]
  rfl
 ·exact⟨e4.trans h.node,e3,s1,by have:=h.len;show(List.filterMap _ _).length≤_;omega⟩
def stat(x:af):Int×ByteArray×Int:=(x.an.ae.bC,x.an.ae.b7,x.an.ae.bu)
theorem Be{b:aj}:∀{ks:List ByteArray} {ps:List af} {q:af},q∈ks.foldl (fun ps w=>hD w (j4 b) ps) ps→ky q∉ks→q∈ps
 |[],ps,q,h,_=>h
 |w::ks,ps,q,h,hn=>by
  rw[Yh]at h
  have:=Be h fun h=>hn (XI _ h)
  obtain⟨x,hx,rfl⟩:=X3.1 this
  by_cases hc:ky x=w
  ·rw[if_pos hc]at hn
   exact(hn (by rw[lq,hc];exact XF ..)).elim
  ·rw[if_neg hc];exact hx
theorem D6{w:ByteArray}{f:af→af}(hf:∀x,ky x=w→ky (f x)=w){ps:List af}{q:af}(h:q∈hD w f ps):∃x∈ps,ky q=ky x∧(q=f x∨q=x):=by
 obtain⟨x,hx,rfl⟩:=X3.1 h
 by_cases hc:ky x=w
 ·rw[if_pos hc];exact⟨x,hx,by rw[hf x hc,hc],.inl rfl⟩
 ·rw[if_neg hc];exact⟨x,hx,rfl,.inr rfl⟩
theorem LO{b:aj}{ps:List af}{v:aN}(h:PS ps)(h3:v.bY≠3){p q:af}(hp:p∈ps)(hf:fh p.an.ae.bC=YM)(hq:q∈(pg b ps v).2)(he:ky q=ky p):stat q=stat p:=by
 have uniq:∀x∈ps,ky x=ky p→x=p:=fun x hx hxp=>uq h.ks hx hp hxp
 unfold pg at hq
 split at hq
 ·rw[uniq q hq he]
 split at hq
 ·split at hq
  ·obtain⟨x,hx,h1,h2⟩:=D6 (fun x _=>uy b v.an x) hq
   have:=uniq x hx (h1.symm.trans he)
   subst this
   rcases h2 with rfl|rfl
   ·unfold oL;split<;>rfl
   ·rfl
  ·rename_i hk
   split at hq
   ·rcases(j7 _ _ _).1 hq with rfl|hq
    ·rw[ui]at he
     exact(ur hk p hp he.symm).elim
    ·rw[uniq q hq he]
   ·rw[uniq q hq he]
 split at hq
 ·obtain⟨x,hx,h1,h2⟩:=D6 (fun x hx=>by unfold ky at hx⊢;rw[(oh _ _ _).1];exact hx) hq
  have:=uniq x hx (h1.symm.trans he)
  subst this
  rcases h2 with rfl|rfl
  ·have:=oh b.ah.cl v x
   unfold stat;rw[this.2.2.1,this.2.2.2.1,this.2.2.2.2]
  ·rfl
 split at hq
 ·rw[uniq q hq he]
 split at hq
 ·generalize (if v.N<0 then 0 else v.N)=m at hq
  by_cases hm:m≤b.ah.Node.aJ.aG
  ·simp only[if_pos hm]at hq
   rw[uniq q hq he]
  ·simp only[if_neg hm]at hq
   have:q∈ps:=Be hq fun hk=>by
    obtain⟨y,hy,hyw,hyf⟩:=pj hk
    have:=uniq y hy (hyw.trans he)
    subst this
    rw[hf]at hyf;cases hyf
   rw[uniq q this he]
 split at hq
 ·obtain⟨x,hx,rfl⟩:=X3.1 hq
  rw[←uniq x hx he];rfl
 ·rw[uniq q hq he]
theorem GR{a:ah}{v:aN}(h:PS a.bq)(h3:v.bY≠3){p q:af}(hp:p∈a.bq)(hf:fh p.an.ae.bC=YM)(hq:q∈(kO a v).bq)(he:ky q=ky p):stat q=stat p:=by
 obtain⟨x,hx,hxq⟩:=Yu.1 hq
 have h1:=iQ hxq
 have hk:ky x=ky p:=by rw[←he];unfold ky;rw[h1.1]
 have hst:=LO h h3 hp hf hx hk
 have hfx:fh x.an.ae.bC=YM:=by rw[show x.an.ae.bC=p.an.ae.bC from congrArg Prod.fst hst];exact hf
 rw[h1.2.2.1 hfx];exact hst
open Go Go.Fw
set_option maxRecDepth 100000
set_option linter.unusedVariables false
set_option linter.unusedSimpArgs false
def lR(l:List aw):Prop:=l.Pairwise fun a b=>¬lt b.aV a.aV
def fb(X Y:List aw):Prop:=∀k:ByteArray,X.filter (fun z=>decide (z.aV=k))=Y.filter (fun z=>decide (z.aV=k))
theorem fb.rf(X:List aw):fb X X:=fun _=>rfl
theorem fb.sy{X Y:List aw}(h:fb X Y):fb Y X:=fun k=>(h k).symm
theorem fb.tr{X Y Z:List aw}(h:fb X Y)(h2:fb Y Z):fb X Z:=fun k=>(h k).trans (h2 k)
theorem fb.app{X Y X' Y':List aw}(h:fb X Y)(h2:fb X' Y'):fb (X++X') (Y++Y'):=fun k=>by rw[XS,XS,h k,h2 k]
theorem fb.swap{X Y:List aw}(h:∀x∈X,∀y∈Y,x.aV≠y.aV):fb (X++Y) (Y++X):=fun k=>by
 rw[XS,XS]
 by_cases hx:∃x∈X,x.aV=k
 ·obtain⟨x,hx,rfl⟩:=hx
  have:Y.filter (fun z=>decide (z.aV=x.aV))=[]:=X8.2 fun y hy=>by simpa using fun e=>h x hx y hy e.symm
  rw[this];simp
 ·have:X.filter (fun z=>decide (z.aV=k))=[]:=X8.2 fun x hx'=>by simpa using fun e=>hx ⟨x,hx',e⟩
  rw[this];simp
theorem fb.perm{X Y:List aw}(h:fb X Y):X.Perm Y:=Yt.2 fun a=>by
 have key:∀Z:List aw,Z.count a=(Z.filter fun z=>decide (z.aV=a.aV)).count a:=fun Z=>by
  rw[Yz (by simp)]
 rw[key X,key Y,h a.aV]
theorem vV{a b c:ByteArray}(h1:¬lt b a)(h2:¬lt c b):¬lt c a:=by
 intro h
 rcases vR a b with h3|h3|h3
 ·exact h2 (lt_trans h h3)
 ·subst h3;exact h2 h
 ·exact h1 h3
theorem lW:∀{X Y:List aw},lR X→lR Y→fb X Y→X=Y
 |[],Y,_,_,h=>by have:=h.perm.length_eq;exact(XK.1 this.symm).symm
 |x::X,[],_,_,h=>by have:=h.perm.length_eq;simp at this
 |x::X,y::Y,hX,hY,h=>by
  have hX2:=XJ.1 hX
  have hY2:=XJ.1 hY
  have hxy:x.aV=y.aV:=by
   have h1:x∈y::Y:=h.perm.mem_iff.1 (XF ..)
   have h2:y∈x::X:=h.perm.mem_iff.2 (XF ..)
   have n1:¬lt x.aV y.aV:=by
    rcases XN.1 h1 with e|h1
    ·rw[e];exact lt_irrefl _
    ·exact hY2.1 x h1
   have n2:¬lt y.aV x.aV:=by
    rcases XN.1 h2 with e|h2
    ·rw[e];exact lt_irrefl _
    ·exact hX2.1 y h2
   exact sX n1 n2
  have h0:=h x.aV
  rw[XP,XP,if_pos (by simp),if_pos (by simp[hxy])]at h0
  have e0:=Yc.1 h0
  obtain⟨e1,e2⟩:=e0
  subst e1
  congr 1
  refine lW hX2.2 hY2.2 fun k=>?_
  have hk:=h k
  rw[XP,XP]at hk
  split at hk
  ·exact(Yc.1 hk).2
  ·exact hk
def fV(e:aw):List aw→List aw
 |[]=>[e]
 |y::l=>if lt e.aV y.aV then e::y::l else y::fV e l
def du(es:List aw):List aw:=es.foldl (fun l e=>fV e l) []
theorem mh(e z:aw):∀l,z∈fV e l↔z=e∨z∈l
 |[]=>by simp[fV]
 |y::l=>by
  rw[fV];split
  ·simp
  ·simp only[XN,mh e z l]
   constructor
   ·rintro(h|h|h)
    ·exact .inr (.inl h)
    ·exact .inl h
    ·exact .inr (.inr h)
   ·rintro(h|h|h)
    ·exact .inr (.inl h)
    ·exact .inl h
    ·exact .inr (.inr h)
theorem mf(e:aw):∀{l},lR l→lR (fV e l)
 |[],_=>X1 ..
 |y::l,h=>by
  have h2:=XJ.1 h
  rw[fV]
  by_cases g:lt e.aV y.aV
  ·rw[if_pos g]
   refine XJ.2 ⟨fun z hz=>?_,h⟩
   rcases XN.1 hz with rfl|hz
   ·exact fun h3=>lt_irrefl _ (lt_trans g h3)
   ·exact vV (b:=y.aV) (fun h3=>lt_irrefl _ (lt_trans g h3)) (h2.1 z hz)
  ·rw[if_neg g]
   refine XJ.2 ⟨fun z hz=>?_,mf e h2.2⟩
   rcases(mh e z l).1 hz with rfl|hz
   ·exact g
   ·exact h2.1 z hz
theorem mi(e:aw):∀{l},lR l→fb (l++[e]) (fV e l)
 |[],_=>fb.rf _
 |y::l,h=>by
  have h2:=XJ.1 h
  rw[fV]
  by_cases g:lt e.aV y.aV
  ·rw[if_pos g]
   refine fb.swap (X:=y::l) (Y:=[e]) fun x hx z hz he=>?_
   rw[XR.1 hz]at he
   rcases XN.1 hx with rfl|hx
   ·rw[he]at g;exact lt_irrefl _ g
   ·have:=h2.1 x hx;rw[he]at this;exact this g
  ·rw[if_neg g]
   exact fb.app (X:=[y]) (fb.rf _) (mi e h2.2)
theorem CU{α:Type}{P:List α→Prop}(h0:P [])(h1:∀l a,P l→P (l++[a]))(l:List α):P l:=by
 have key:∀r:List α,P r.reverse:=fun r=>by
  induction r with
  |nil=>exact h0
  |cons a r ih=>rw[X2];exact h1 _ _ ih
 have:=key l.reverse
 rwa [XQ]at this
theorem me(es:List aw)(e:aw):du (es++[e])=fV e (du es):=by unfold du;rw[Yx];rfl
theorem eG:∀es:List aw,lR (du es)∧fb es (du es):=fun es=>by
 refine CU (P:=fun es=>lR (du es)∧fb es (du es)) ⟨YX,fb.rf _⟩ (fun l a h=>?_) es
 rw[me]
 exact⟨mf a h.1,(fb.app h.2 (fb.rf [a])).tr (mi a h.1)⟩
theorem eW(es:List aw):(du es).length=es.length:=(eG es).2.perm.length_eq.symm
theorem mj(e:aw):∀l:List aw,(∀z∈l,¬lt e.aV z.aV)→fV e l=l++[e]
 |[],_=>rfl
 |y::l,h=>by rw[fV,if_neg (h y (XF ..)),mj e l fun z hz=>h z (XI _ hz)];rfl
theorem kY(e y:aw)(h:lt e.aV y.aV):∀l:List aw,fV e (l++[y])=fV e l++[y]
 |[]=>by
  show(if lt e.aV y.aV then e::[y]else _)=_
  rw[if_pos h];rfl
 |z::l=>by
  rw[X9,fV,fV]
  by_cases g:lt e.aV z.aV
  ·rw[if_pos g,if_pos g];rfl
  ·rw[if_neg g,if_neg g,kY e y h l];rfl
def th(e:aw):List aw→List aw→List aw
 |[],r=>e::r
 |y::ps,r=>if lt e.aV y.aV then th e ps (y::r)else(y::ps).reverse++e::r
theorem ov(e:aw):∀(ps r:List aw),lR ps.reverse→th e ps r=fV e ps.reverse++r
 |[],r,_=>rfl
 |y::ps,r,h=>by
  rw[X2]at h
  have h2:=XM.1 h
  rw[th,X2]
  by_cases g:lt e.aV y.aV
  ·rw[if_pos g,ov e ps (y::r) h2.1,kY e y g,XH];rfl
  ·rw[if_neg g,mj e _ fun z hz=>?_]
   ·simp
   ·rcases XX.1 hz with hz|hz
    ·exact vV (h2.2.2 z hz y (XR.2 rfl)) g
    ·rw[XR.1 hz];exact g
theorem GO{α:Type}(A r:List α)(y e:α):(A++y::e::r)[A.length+1]? =YC e:=by rw[Ya (by omega)];simp
theorem zX{α:Type}(A r:List α)(y:α):(A++y::r)[A.length]? =YC y:=by simp
theorem B6{α:Type}(A r:List α)(y e z:α):(A++y::e::r).set (A.length+1) z=A++y::z::r:=by rw[Yo _ _ (by omega)];simp
theorem B7{α:Type}(A r:List α)(y z:α):(A++y::r).set A.length z=A++z::r:=by simp
theorem IP(x y:aw):F31 x y=YC (gy x.aV y.aV):=rfl
theorem rI(e:aw)(P:List aw)(hP:P.length≤1000):∀(ps r:List aw) (k:Nat),ps.length<k→ps.length≤1000→F113_l3 (P.length:Int) k ((P++ps.reverse)++e::r) ((P++ps.reverse).length:Int)=YC (P++th e ps r)
 |[],r,k+1,_,_=>by
  rw[F113_l3,if_neg (by simp)];simp[th]
 |y::ps,r,k+1,hk,hb=>by
  simp only[XD]at hk hb
  have hA:((P++(y::ps).reverse)++e::r)=(P++ps.reverse)++y::e::r:=by simp
  have hl:(P++(y::ps).reverse).length=(P++ps.reverse).length+1:=by simp;omega
  have ew:YG.wrap ((((P++ps.reverse).length+1:Nat):Int)-1)=((P++ps.reverse).length:Int):=by rw[dc (by simp;omega) (by simp;omega)];omega
  rw[F113_l3,hA,hl,if_pos (by simp;omega),gG (GO _ _ _ _),YB,ew,gG (zX _ _ _),YB,IP,YB,YB,th]
  by_cases g:lt e.aV y.aV
  ·rw[decide_eq_true ((gv _ _).2 g),if_pos rfl,if_pos g]
   simp only[YB,YQ]
   rw[B6,gG (zX _ _ _),YB,B7]
   exact rI e P hP ps (y::r) k (by omega) (by omega)
  ·rw[decide_eq_false (fun h=>g ((gv _ _).1 h)),if_neg (by simp),if_neg g]
   simp
theorem rJ(P:List aw)(hP:P.length≤1000)(Q:List aw)(es:List aw)(hb:es.length≤1000):∀(m i k:Nat),es.length=i+m→m<k→F113_l1 (P.length:Int) ((P.length+es.length:Nat):Int) k (P++(du (es.take i)++(es.drop i++Q))) ((P.length+i:Nat):Int)=YC (P++(du es++Q))
 |0,i,k+1,h,_=>by
  rw[F113_l1,if_neg (by omega),Yn (by omega),Yl (by omega),XU]
 |m+1,i,k+1,h,hk=>by
  have hi:i<es.length:=by omega
  have hsl:(du (es.take i)).length=i:=by rw[eW,XL];omega
  have e3:=rI es[i] P hP (du (es.take i)).reverse (es.drop (i+1)++Q) 1099511627776 (by rw[XY,hsl];omega) (by rw[XY,hsl];omega)
  rw[XQ,XC,hsl,XH,←X9,←Yj hi]at e3
  rw[F113_l1,if_pos (by omega),e3,YB,cL (by omega),ov _ _ _ (by rw[XQ];exact(eG _).1),XQ,←me]
  have et:es.take i++[es[i]]=es.take (i+1):=by rw[Yv,XG hi];rfl
  rw[et]
  exact rJ P hP Q es hb m (i+1) k (by omega) (by omega)
theorem mS{P es Q:List aw}{xs:List aw}{a b:Int}(hx:xs=P++(es++Q))(ha:a=(P.length:Int))(hb:b=((P.length+es.length:Nat):Int))(hP:P.length≤1000)(he:es.length≤1000):F113 xs a b=YC (P++(du es++Q)):=by
 subst hx ha hb
 have h1:F113_l1 (P.length:Int) ((P.length+es.length:Nat):Int) 1099511627776 (P++(es++Q)) ((P.length+1:Nat):Int)=YC (P++(du es++Q)):=by
  cases es with
  |nil=>
   rw[show(1099511627776:Nat)=1099511627775+1 from rfl,F113_l1,if_neg (by simp only[X0];omega)];rfl
  |cons e es=>
   have:=rJ P hP Q (e::es) he es.length 1 1099511627776 (by simp;omega) (by simp only[XD]at he;omega)
   exact this
 rw[F113,F113i,cL (by omega),h1]
 simp only[YB]
 rw[if_pos (by simp[eW])]
theorem sv{es:List aw}(hb:es.length≤20):F68 es (es.length:Int)=YC (du es):=by
 have big:(1099511627776:Nat)=1099511627774+1+1:=rfl
 have key:∃R,F68i es (es.length:Int)=YC R∧lR R∧fb es R:=by
  by_cases g:20≤es.length
  ·obtain⟨X,Y,hXY,hX⟩:∃X Y,es=X++Y∧X.length=20:=⟨es.take 20,es.drop 20,by simp,by rw[XL];omega⟩
   have hYl:=congrArg Yb hXY
   rw[XC]at hYl
   have s1:F113 es 0 20=YC (du X++Y):=by
    have:=mS (P:=[]) (es:=X) (Q:=Y) (xs:=es) (a:=0) (b:=20) (by rw[hXY];rfl) rfl (by simp[hX]) (by simp) (by omega)
    simpa using this
   have s2:F113 (du X++Y) 20 (es.length:Int)=YC (du X++du Y):=by
    have:=mS (P:=du X) (es:=Y) (Q:=[]) (xs:=du X++Y) (a:=20) (b:=(es.length:Int)) (by simp) (by rw[eW];omega) (by rw[eW];omega) (by rw[eW];omega) (by omega)
    simpa using this
   have hE:fb es (du X++du Y):=by rw[hXY];exact fb.app (eG X).2 (eG Y).2
   have h1:F68_l1 (es.length:Int) 1099511627776 es 0 20=YC (du X++Y,20):=by
    rw[big,F68_l1,if_pos (by omega),s1,YB,show YG.wrap (20+20)=40 from rfl,F68_l1,if_neg (by omega)]
   by_cases g2:20<es.length
   ·exact absurd g2 (by omega)
   ·have hY:Y=[]:=XK.1 (by omega)
    subst hY
    refine⟨du X++du [],?_,?_,hE⟩
    ·have h5:F68_l5 (es.length:Int) 1099511627776 (du X++du []) 20=YC (du X++du []):=by
      conv=>lhs;arg 2;rw[show(1099511627776:Nat)=1099511627775+1 from rfl]
      rw[F68_l5,if_neg (by omega)]
     rw[F68i,h1,YB]
     simp only
     rw[s2,YB,h5];rfl
    ·show lR (du X++[])
     rw[X6];exact(eG X).1
  ·refine⟨du es,?_,(eG es).1,(eG es).2⟩
   have s1:F113 es 0 (es.length:Int)=YC (du es):=by
    have:=mS (P:=[]) (es:=es) (Q:=[]) (xs:=es) (a:=0) (b:=(es.length:Int)) (by simp) rfl (by simp) (by simp) (by omega)
    simpa using this
   have h1:F68_l1 (es.length:Int) 1099511627776 es 0 20=YC (es,0):=by
    rw[big,F68_l1,if_neg (by omega)]
   have h5:F68_l5 (es.length:Int) 1099511627776 (du es) 20=YC (du es):=by
    conv=>lhs;arg 2;rw[show(1099511627776:Nat)=1099511627775+1 from rfl]
    rw[F68_l5,if_neg (by omega)]
   rw[F68i,h1,YB]
   simp only
   rw[s1,YB,h5];rfl
 obtain⟨R,r1,r2,r3⟩:=key
 have he:R=du es:=lW r2 (eG es).1 (r3.sy.tr (eG es).2)
 subst he
 rw[F68,r1,YB,if_pos (eW es)]
theorem uR{es:List aw}(hb:es.length≤20):F30 es=YC (du es):=by
 rw[F30,F30i,sv hb]
 simp only[YB]
 rw[if_pos (eW es)]
open Go Go.Fw
set_option maxRecDepth 100000
set_option linter.unusedVariables false
set_option linter.unusedSimpArgs false
theorem rZ:F8=YC YM:=by kernel_rfl
theorem nS:∀(l:List aP) (i:Nat),∃o,F26_l1 l i=YC o
 |[],i=>⟨_,rfl⟩
 |c::l,i=>by
  unfold F26_l1
  refine kC (fl (fun _=>⟨_,rfl⟩) fun _=>fl (fun _=>⟨_,rfl⟩) fun _=>fl (fun _=>⟨_,rfl⟩) fun _=>fl (fun _=>⟨_,rfl⟩) fun _=>⟨_,rfl⟩) fun o _=>fl (fun _=>⟨_,rfl⟩) fun _=>nS l _
theorem yX{p:an}(h:p.Spec.ad.length≤4000000):∃b,F26 p=YC b∧(b=YM→p.Spec.ad.length≤5):=by
 unfold F26
 rw[fR (by omega),YB]
 obtain⟨o,ho⟩:=nS p.Spec.ad 0
 rw[ho,YB]
 cases o with
 |inl f=>
  refine⟨f,rfl,fun hf=>?_⟩
  have:∀(l:List aP) (i:Nat) (g:Bool),F26_l1 l i=YC (.inl g)→g=YL:=by
   intro l
   induction l with
   |nil=>intro i g hg;cases hg
   |cons c l ih=>
    intro i g hg
    unfold F26_l1 at hg
    obtain⟨t,_,hg⟩:=bi hg
    split at hg
    ·cases hg;rfl
    ·exact ih _ _ hg
  rw[this _ _ _ ho]at hf;cases hf
 |inr u=>
  simp only[]
  by_cases h5:(p.Spec.ad.length:Int)≤5
  ·obtain⟨b,hb⟩:∃b,(if(p.Spec.ad.length:Int)≤5 then(if(p.ak.cS.length:Int)≤20 then(if(p.ak.cZ.length:Int)≤20 then(if(p.ak.b9.length:Int)≤5 then YC (decide ((p.ae.ad.length:Int)≤8))else YC YL)else YC YL)else YC YL)else YC YL)=YC b:=
    fl (fun _=>fl (fun _=>fl (fun _=>fl (fun _=>⟨_,rfl⟩) fun _=>⟨_,rfl⟩) fun _=>⟨_,rfl⟩) fun _=>⟨_,rfl⟩) fun _=>⟨_,rfl⟩
   rw[hb]
   exact⟨b,rfl,fun _=>by omega⟩
  ·rw[if_neg h5]
   exact⟨YL,rfl,fun h=>by cases h⟩
theorem n4:∀(l:List aN) (i:Nat),(∀e∈l,e.an.Spec.ad.length≤4000000)→F7_l1 l i=YC (.inl YM)∨F7_l1 l i=YC (.inr ())∧∀e∈l,e.an.Spec.ad.length≤5
 |[],i,_=> .inr ⟨rfl,by simp⟩
 |e::l,i,h=>by
  unfold F7_l1
  obtain⟨b,h1,h2⟩:=yX (h e (XF ..))
  rw[h1,YB]
  cases b with
  |false=>exact .inl rfl
  |true=>
   rw[if_neg (by simp[nb])]
   obtain⟨o,ho⟩:∃o,(if 130<(e.aV.size:Int)then YC YM else YC (decide (60<(e.aP.size:Int))))=YC o:=fl (fun _=>⟨_,rfl⟩) fun _=>⟨_,rfl⟩
   rw[ho,YB]
   cases o with
   |true=>exact .inl rfl
   |false=>
    rw[if_neg (by simp)]
    rcases n4 l (i+1) fun e he=>h e (XI _ he)with h3|⟨h3,h4⟩
    ·exact .inl h3
    ·refine .inr ⟨h3,fun e' he'=>?_⟩
     rcases XN.1 he' with rfl|he'
     ·exact h2 rfl
     ·exact h4 e' he'
theorem zd{n:eC}{l:List aN}(hl:l.length≤4000000)(h:∀e∈l,e.an.Spec.ad.length≤4000000):F7 n l=YC YM∨F7 n l=YC YL∧l.length≤40∧n.aM.length≤20∧∀e∈l,e.an.Spec.ad.length≤5:=by
 unfold F7
 rw[fR (by omega),YB]
 rcases n4 l 0 h with h1|⟨h1,h2⟩
 ·rw[h1];exact .inl rfl
 ·rw[h1]
  simp only[YB]
  by_cases h3:40<(l.length:Int)
  ·rw[if_pos h3];exact .inl rfl
  ·rw[if_neg h3]
   by_cases h4:20<(n.aM.length:Int)
   ·rw[if_pos h4];exact .inl rfl
   ·rw[if_neg h4]
    by_cases h5:20<(n.dQ.length:Int)
    ·rw[if_pos h5];exact .inl rfl
    ·rw[if_neg h5]
     cases decide (30<(n.ak.cS.length:Int))with
     |true=>exact .inl rfl
     |false=>exact .inr ⟨rfl,by omega,by omega,h2⟩
theorem NS{l:List aN}(h:(wL dH) l≤1048577):l.length≤4000000∧∀e∈l,KW e.an.ak∧e.an.Spec.ad.length≤4000000:=by
 have hl:=yi (w:=dH) (fun a=>by unfold dH;omega) l
 refine⟨by omega,fun e he=>?_⟩
 have h1:=uE (w:=dH) he
 have h1:dH e≤1048577:=by omega
 unfold dH Gz xp nC at h1
 have h2:=yi (w:=jg) (fun a=>by unfold jg;omega) e.an.Spec.ad
 unfold KW
 unfold wS at h1
 omega
theorem rW:∀(p:aw) (l:List aw),(zx p l).length≤l.length
 |_,[]=>by simp[zx]
 |p,x::l=>by
  have:=rW x l
  unfold zx
  split<;>simp<;>omega
theorem rV:∀l,(sf l).length≤l.length
 |[]=>by simp[sf]
 |x::l=>by have:=rW x l;unfold sf;simp;omega
def CT(x:aw):aw:=⟨x.aV,di x.dW,PQ x.ik⟩
theorem vH:∀(l:List aw) (i:Nat) (a:List aw),a.length+l.length≤4000000→F9_l5 l i a=YC (a++l.map CT)
 |[],i,a,_=>by unfold F9_l5;simp
 |x::l,i,a,h=>by
  simp only[XD]at h
  unfold F9_l5 F35 F36
  rw[YB,YB,jG (by simp;omega),YB,vH l _ _ (by simp;omega)]
  simp[CT];exact⟨rfl,rfl⟩
def vJ(l:List aw):List aw:=(sf (du l)).map CT
theorem vI(l:List aw):(vJ l).length≤l.length:=by
 unfold vJ
 rw[XV]
 exact YU (rV _) (Nat.le_of_eq (eW l))
theorem H9{n:eC}{d:Int}(h:n.aM.length≤20):F9 n d=YC (vJ n.aM):=by
 have hl:(sf (du n.aM)).length≤20:=by
  have:=rV (du n.aM)
  rw[eW]at this;omega
 unfold F9
 rw[Dn (by omega),YB,uR h,YB]
 have e:Oh (du n.aM)=YC (sf (du n.aM)):=if_pos (by rw[eW];omega)
 rw[e,YB,if_neg (by omega)]
 have e2:qV (sf (du n.aM)) 0 ((sf (du n.aM)).length:Int)=YC (sf (du n.aM)):=by
  unfold qV;rw[if_pos (by omega)];simp
 rw[e2,YB,fR (by omega),YB,vH _ _ _ (by simp;omega)]
 rfl
def yU(n:eC)(d:Int):ah:=⟨n,0,[],vJ n.aM,0,if d<0 then 0 else d,1⟩
theorem vM{n:eC}{d:Int}(h:n.aM.length≤20):zP n 0 (yU n d):=⟨rfl,by have:=vI n.aM;show(vJ n.aM).length≤64;omega,⟨YX,fun x hx=>by cases hx⟩,YT _⟩
theorem CJ(p:an):F11 p=YC (fh p.ae.bC):=by
 unfold F11 fh
 by_cases h:p.ae.bC=2<;>simp[h]
theorem EW{r:ah}{p:af}(hp:KW p.an.ak)(hk:∀q∈r.bq,KW q.an.ak)(hl:r.bq.length≤1000)(h:fh p.an.ae.bC=YM→∀q∈r.bq,ky q=ky p→stat q=stat p):∀(m k j:Nat),r.bq.length=j+m→m<k→F4_l13 r p k j=YC (.inr ())
 |m,0,j,_,hk=>by omega
 |m,k+1,j,hj,hmk=>by
  unfold F4_l13
  rw[CJ]
  by_cases hlt:(j:Int)<(r.bq.length:Int)
  ·rw[if_pos hlt]
   simp only[YB]
   cases hf:fh p.an.ae.bC with
   |false=>rfl
   |true=>
    rw[if_pos rfl,cz,XG (by omega),YB,As hp,YB,As (hk _ (X4 _)),YB]
    have e:(if kz p.an.ak=kz (r.bq[j]'(by omega)).an.ak then(if¬(p.an.ae.bC=(r.bq[j]'(by omega)).an.ae.bC)then YC YM else(if¬(p.an.ae.b7=(r.bq[j]'(by omega)).an.ae.b7)then YC YM else YC (decide (¬(p.an.ae.bu=(r.bq[j]'(by omega)).an.ae.bu)))))else YC YL)=YC YL:=by
     by_cases he:kz p.an.ak=kz (r.bq[j]'(by omega)).an.ak
     ·have hs:=h hf _ (X4 (show j<r.bq.length by omega)) he.symm
      unfold stat at hs
      simp only[Prod.mk.injEq]at hs
      rw[if_pos he,if_neg (by simp[hs.1]),if_neg (by simp[hs.2.1])]
      simp[hs.2.2]
     ·rw[if_neg he]
    rw[e,YB,if_neg (by simp),cL (by omega)]
    exact EW hp hk hl h (m-1) k (j+1) (by omega) (by omega)
  ·rw[if_neg hlt];rfl
theorem IA{a r:ah}{v:aN}(hp:∀p∈a.bq,KW p.an.ak)(hk:∀q∈r.bq,KW q.an.ak)(hl:r.bq.length≤1000)(hla:a.bq.length≤1000)(h:v.bY≠3→∀p∈a.bq,fh p.an.ae.bC=YM→∀q∈r.bq,ky q=ky p→stat q=stat p):∀(m k j:Nat),a.bq.length=j+m→m<k→F4_l8 a.bq r v k j=YC (.inr ())
 |m,0,j,_,hk=>by omega
 |m,k+1,j,hj,hmk=>by
  unfold F4_l8
  by_cases hlt:(j:Int)<(a.bq.length:Int)
  ·rw[if_pos hlt]
   simp only[YB]
   by_cases h3:v.bY=3
   ·rw[if_neg (by simp[h3])]
   ·rw[if_pos (by simp[h3]),cz,XG (by omega),YB]
    have hm:=X4 (show j<a.bq.length by omega)
    have:=EW (hp _ hm) hk hl (h h3 _ hm) r.bq.length 1099511627776 0 (by omega) (by omega)
    rw[show(0:Int)=((0:Nat):Int)from rfl]
    refine(congrArg (YD · _) this).trans ?_
    rw[YB]
    simp only[]
    rw[cL (by omega)]
    exact IA hp hk hl hla h (m-1) k (j+1) (by omega) (by omega)
  ·rw[if_neg hlt];rfl
theorem IB{n:eC}:∀(l:List aN) (i k:Nat) (a:ah),zP n k a→k+l.length≤40→(∀e∈l,KI e)→
 F4_l5 l i a.Node.ak.bY a.Node.ak.bE a.Node.ak.aV a.Node.ak.jH a.Node.ak.cE a.Node.ak.bA a.Node.ak.cF a.Node.ak.bP a.Node.ak.bz a.Node.ak.cS a.Node.ak.cZ a.Node.ak.bB a.Node.ak.b9 a.Node.aJ.de a.Node.aJ.aG a.Node.aJ.bF a.Node.cJ a.Node.cY a.Node.dQ a.Node.bd a.Node.jR a.Node.fa a.Node.dU a.Node.aM a.cl a.bq a.aM a.bW a.bO a.b8=YC (.inr ())
 |[],i,k,a,_,_,_=>rfl
 |e::l,i,k,a,h,hk,he=>by
  simp only[XD]at hk
  obtain⟨h1,h2⟩:=Cb h (by omega) (he e (XF ..))
  unfold F4_l5
  refine(congrArg (YD · _) h1).trans ?_
  rw[YB]
  have hl:=h.len
  have hl2:=h2.len
  have h8:=IA (a:=a) (r:=kO a e) (v:=e) (fun p hp=>(h.ps.po p hp).kw) (fun q hq=>(h2.ps.po q hq).kw) (by omega) (by omega) (fun h3 p hp hf q hq hkq=>GR h.ps h3 hp hf hq hkq) a.bq.length 1099511627776 0 (by omega) (by omega)
  rw[show(0:Int)=((0:Nat):Int)from rfl]
  refine(congrArg (YD · _) h8).trans ?_
  rw[YB]
  exact IB l (i+1) (k+1) (kO a e) h2 (by omega) fun e' he'=>he e' (XI _ he')
theorem qH:jV.Pure:=by
 intro n d l _ _ _ hw
 obtain⟨hl,hev⟩:=NS (l:=l) (by omega)
 unfold F4
 rcases zd (n:=n) hl (fun e he=>(hev e he).2)with h|⟨h,h40,h20,h5⟩
 ·rw[h,YB,if_pos rfl,rZ];rfl
 ·rw[h,YB,if_neg (by simp),H9 h20,YB,fR (by omega),YB]
  have:=IB l 0 0 (yU n d) (vM h20) (by omega) fun e he=>⟨(hev e he).1,by have:=h5 e he;omega⟩
  refine(congrArg (YD · _) this).trans ?_
  rw[YB]
  simp only[rZ,YB]
open Go Go.Fw
set_option maxRecDepth 100000
set_option linter.unusedVariables false
set_option linter.unusedSimpArgs false
structure lS(f:aD→Int):Prop where
 add:∀a b,f (jd a b)=di (di (f a)+di (f b))
 zero:f ⟨0,0,0⟩=0
theorem Kn:lS aD.de:=⟨fun _ _=>rfl,rfl⟩
theorem I1:lS aD.aG:=⟨fun _ _=>rfl,rfl⟩
theorem Bz:lS aD.bF:=⟨fun _ _=>rfl,rfl⟩
theorem vk{f:aD→Int}(hf:lS f):∀(l:List aP) (s:aD),(0≤f s∧f s≤1000000000000000)→0≤f (rh s l)∧f (rh s l)≤1000000000000000
 |[],s,h=>h
 |c::l,s,h=>vk hf l _ (by rw[hf.add];exact gH _)
theorem nK{f:aD→Int}(hf:lS f)(p:fw):0≤f (reqs p)∧f (reqs p)≤1000000000000000:=vk hf _ _ (by rw[hf.zero];omega)
def tS(f:aD→Int)(ps:List af):Int:=((ps.filter fM).map fun x=>f (reqs x.an.Spec)).sum
theorem iO(f:aD→Int)(x:af)(ps:List af):tS f (x::ps)=(if fM x=YM then f (reqs x.an.Spec)else 0)+tS f ps:=by
 unfold tS
 rw[XP]
 split<;>simp
theorem nq(x:Int):(x<0∧di x=0)∨(0≤x∧x≤1000000000000000∧di x=x)∨(1000000000000000<x∧di x=1000000000000000):=by
 unfold di
 by_cases h:x<0
 ·rw[if_pos h];exact .inl ⟨h,rfl⟩
 ·rw[if_neg h]
  by_cases h2:1000000000000000<x
  ·rw[if_pos h2];exact .inr (.inr ⟨h2,rfl⟩)
  ·rw[if_neg h2];exact .inr (.inl ⟨by omega,by omega,rfl⟩)
theorem kT{x y:Int}(h:x≤y):di x≤di y:=by have:=nq x;have:=nq y;omega
structure ki(n:eC)(ps:List af):Prop where
 Pu:fQ ps=0∨(fQ ps:Int)≤n.cJ
 c:di (tS aD.de ps)≤di n.aJ.de
 m:di (tS aD.aG ps)≤di n.aJ.aG
 d:di (tS aD.bF ps)≤di n.aJ.bF
theorem ki.mono{n:eC}{ps qs:List af}(h:ki n ps)(h1:fQ qs≤fQ ps)(h2:∀f,lS f→tS f qs≤tS f ps):ki n qs:=
 ⟨by have:=h.Pu;omega,YR (kT (h2 _ Kn)) h.c,YR (kT (h2 _ I1)) h.m,YR (kT (h2 _ Bz)) h.d⟩
theorem wg{g:af→Option af}(hg:∀x y,g x=YC y→y.an.Spec=x.an.Spec∧(fM y=YM→fM x=YM)):∀ps:List af,fQ (ps.filterMap g)≤fQ ps∧∀f,lS f→tS f (ps.filterMap g)≤tS f ps
 |[]=>⟨YT _,fun _ _=>Int.le_refl _⟩
 |x::ps=>by
  obtain⟨h1,h2⟩:=wg hg ps
  have hc:∀(z:af) (zs:List af),fQ (z::zs)=(if fM z=YM then 1 else 0)+fQ zs:=by
   intro z zs
   unfold fQ
   rw[XP]
   split
   ·rw[XD];omega
   ·omega
  cases hx:g x with
  |none=>
   rw[List.filterMap_cons_none hx,hc]
   refine⟨by omega,fun f hf=>?_⟩
   have:=h2 f hf
   have:=nK hf x.an.Spec
   rw[iO];split<;>omega
  |some y=>
   obtain⟨q1,q2⟩:=hg x y hx
   rw[List.filterMap_cons_some hx,hc,hc]
   constructor
   ·split
    ·rename_i h;rw[if_pos (q2 h)];omega
    ·omega
   ·intro f hf
    have:=h2 f hf
    have:=nK hf x.an.Spec
    rw[iO,iO,q1]
    split
    ·rename_i h;rw[if_pos (q2 h)];omega
    ·split<;>omega
theorem map_le{g:af→af}(hg:∀x,(g x).an.Spec=x.an.Spec∧(fM (g x)=YM→fM x=YM))(ps:List af):fQ (ps.map g)≤fQ ps∧∀f,lS f→tS f (ps.map g)≤tS f ps:=by
 have:=wg (g:=fun x=>YC (g x)) (fun x y h=>by cases h;exact hg x) ps
 rw[List.filterMap_eq_map']at this
 exact this
theorem ki.map{n:eC}{ps:List af}{g:af→af}(h:ki n ps)(hg:∀x,(g x).an.Spec=x.an.Spec∧(fM (g x)=YM→fM x=YM)):ki n (ps.map g):=h.mono (map_le hg ps).1 (map_le hg ps).2
end Go.Proofs.YtojbebejhgbfeaaGreat
